/- Part of a proof: M1 C5 C6 C7 M5 M2 M3 M4 D1 D2 D3 E4. -/
import Derived.Test.YtgiedlcjlalpcaaGreatPb06
import Derived.Test.YtgiedlcjlalpcaaGreatPb07
import Derived.Test.YtgiedlcjlalpcaaGreatPb08
import Derived.Test.YtgiedlcjlalpcaaGreatPb09
import Derived.Test.YtgiedlcjlalpcaaGreatPb12
import Derived.Test.YtgiedlcjlalpcaaGreatPb13
set_option linter.all false
namespace Go.Proofs.YtgiedlcjlalpcaaGreat
open Go.Abs
set_option maxRecDepth 100000
set_option maxHeartbeats 4000000
attribute [local irreducible] wpA Again LeJ
attribute [local simp high] mkT_getD
attribute [local simp] runM_nil runM_cons mG_some mC_none mC_un mC_gd mV_some mV_none mD_some mP_some mP_none pickV_bool pickV_int specE_pick specE_move specE_assign specE_alloc specE_box specE_build specE_buildSlice specE_load specE_store specE_nilCheck specE_binOp specE_unOp specE_convert specE_makeFunc specE_slice specE_fieldAddr specE_field specE_indexAddr specE_index specE_extract specE_call cond_false_r cond_true_m callPure touches_move touches_assign touches_box touches_load touches_nilCheck touches_unOp touches_convert touches_fieldAddr touches_field touches_extract touches_pick touches_store touches_binOp touches_indexAddr touches_index touches_alloc touches_build touches_buildSlice touches_makeFunc touches_slice touches_call touches_builtin V.names V.namesL callOf_fn callOf_builtin callOf callResW cfg_imp wantedA evalOp_move evalOp_assign evalOp_pick evalOp_alloc evalOp_box evalOp_build evalOp_buildSlice evalOp_load evalOp_store evalOp_nilCheck evalOp_binOp evalOp_unOp evalOp_convert evalOp_makeFunc evalOp_slice evalOp_fieldAddr evalOp_field evalOp_indexAddr evalOp_index evalOp_extract evalOp_builtin opnd_tmp opnd_const opnd_func headM dropA mkT_set mkT_idx mkT_get mkT_len lookA more_true more_false constV boolV St.put getB setB V.cells cells_agg cells_int cells_bool cells_str cells_lst cells_fn cells_nilp cells_nilf cells_nilm cells_imm cells_obj cells_imap mkAgg mkFn allP partV partP placesOf fillV spliceV Ty.agg oneV oneP natOf binV_int binV_str binV_bool_eql binV_ptr_nil_eql binV_ptr_imm_eql binV_ptr_obj_eql binV_ptr_ref_eql binV_func_nil_eql binV_func_fn_eql binV_func_fv_eql binV_bool_neq binV_ptr_nil_neq binV_ptr_imm_neq binV_ptr_obj_neq binV_ptr_ref_neq binV_func_nil_neq binV_func_fn_neq binV_func_fv_neq intBin strBin cfg_ty callRes toP toPs resV addedP appendV partsToP resultPs resultVs St.head roomFor_of wrap_succ wrap_nat sizesOk_nil sizesOk_cons elemOk_int elemOk_bool elemOk_str elemOk_lst elemOk_fn List.getElem?_eq_getElem bne w64 val_cells val_fold val_eta col_cells col_fold col_eta rel_cells expr_cells expr_fold expr_fold0 expr_fold1 expr_fold2 expr_eta expr_op expr_n expr_m expr_kind expr_lit expr_args expr_rels eps_nil eps_len eps_get eps_app eps_take eps_drop eps_ok vps_nil vps_len vps_get vps_app vps_take vps_drop vps_ok cps_nil cps_len cps_get cps_app cps_take cps_drop cps_ok rps_nil rps_len rps_get eps_idx vps_idx cps_idx rps_idx ips_nil ips_len ips_get ips_idx ips_ok elemOk_e elemOk_v elemOk_c ips_app ips_take ips_drop el1 ea1 es1 el2 ea2 es2 el3 ea3 es3 elc eac vl1 va1 vs1 vl2 va2 vs2 vl3 va3 vs3 vlc vac cl1 ca1 cs1 cl2 ca2 cs2 cl3 ca3 cs3 clc cac il1 ia1 is1 il2 ia2 is2 il3 ia3 is3 ilc iac binV_val_eql binV_val_neq binV_col_eql ty2 ty3 ty4 ty5 ty9 ty22 ty23 ty25 ty26 ty27 ty29 ty30 ty34 ty43 ty52 ty57 ty61 ty75 ty86 ty87 ty102 ty131 ty132 ty134 ty135 ty137 ty138 ty141 ty149 ty152 ty156 ty159 ty160 ty172 ty176 ty184 ty185 ty186 ty187 ty189 ty204 ty211 ty221 ty222 ty242 ty259
section
attribute [local simp] wl0 wl1 wl2 wl3 wl4 wl5 wl6 wl7 wl8 wl9 wl10 wl11 wl12 wl13 wl14 wl15 wl16 wl17 wl18 wl19 wl20
attribute [local simp high] evalOp_fieldP
attribute [local simp] ty140
attribute [local simp] fldV_p fldV_agg aggP_agg aggP_col aggP_val aggP_expr
theorem cfg_obj0 (c:P):cfg.obj 0 [c]=[c,.nilf,.nilf,doP,.lst (stepPs c)]:=rfl
def L (cols:List Col):P:=.obj 0 [.lst (Col.ps cols)] 0
attribute [local simp] cfg_obj0 sightP_fold L
theorem cal222 (e:Expr) (cols:List Col) (k:Int) (h:Has cols e k):Cal 222 [L cols,e.p] [.int .i64 k]:=⟨by
 haveI:=cal195 e cols h.wf
 have hk:(kindP cols e).1.kind=k:=by rw [kindP_has h];exact h.kind
 have msk:Msk 262084 262084:=⟨⟩
 refine CallP.of_bodyN 18 cfg_ok Tryz.func222 rfl rfl (by kernel_rfl) fun base=>?_;simp only [mkA,Nat.reduceAdd]
 refine wpA_ok 0 rfl fun ok0=>?_
 refine wpA_ok 1 rfl fun ok1=>?_
 exact walk⟩
theorem cal231 (e:Expr) (cols:List Col) (k:Int) (h:Has cols e k):Cal 231 [L cols,e.p] [.bool (!nullE cols e)]:=⟨by
 haveI:=cal195 e cols h.wf
 have hk:(kindP cols e).1.null=nullE cols e:=by rw [kindP_has h];rfl
 have ho:(kindP cols e).2=true:=by rw [kindP_has h];exact h.ok
 have msk:Msk 4194180 4194180:=⟨⟩
 refine CallP.of_bodyN 22 cfg_ok Tryz.func231 rfl rfl (by kernel_rfl) fun base=>?_;simp only [mkA,Nat.reduceAdd]
 refine wpA_ok 0 rfl fun ok0=>?_
 refine wpA_ok 1 rfl fun ok1=>?_
 exact walk⟩
end
section
attribute [local simp] wl0 wl1 wl2 wl3 wl4 wl5 wl6 wl7 wl8 wl9 wl10 wl11 wl12 wl13 wl14 wl15 wl16 wl17 wl18 wl19 wl20
attribute [local simp high] evalOp_fieldP
attribute [local simp] ty140
attribute [local simp] fldV_p fldV_agg aggP_agg aggP_col aggP_val aggP_expr
attribute [local simp] runK_nil runK_cons goG_true goG_false goC_none goC_some goV_some goV_none goD_some goD_none
def jn3 (e d:Expr):Expr × Bool:=if e.args.any (fun a=>sameE a d) then (d,true) else (e,false)
def jn2 (e s d:Expr):List Expr→Nat→Expr × Bool
 | [],_=>jn3 e d
 | a :: r,i=>if sameE a s || (e.args.take i).any (fun x=>sameE x a) then (withoutE e i,true) else jn2 e s d r (i + 1)
def jn1 (e s d:Expr):List Expr→Nat→Expr × Bool
 | [],_=>jn2 e s d e.args 0
 | a :: r,i=>if joins e a then (spliceE e i a,true) else jn1 e s d r (i + 1)
theorem cal225 (x a:Expr) (hx:wf x=true) (ha:wf a=true):Cal 225 [x.p,.imm [.int .i64 a.op,.int .i64 a.n,.int .i64 a.m,.int .i64 a.kind,.int .i64 a.lit.kind,.int .i64 a.lit.int,.str a.lit.text,.lst (Expr.ps a.args),.lst (Rel.ps a.rels)] 0] [.bool (sameE x a)]:=⟨by
 haveI:=cal163 x a hx ha
 clear hx ha
 have msk:Msk 112 112:=⟨⟩
 refine CallP.of_bodyN 7 cfg_ok Tryz.func225 rfl rfl (by kernel_rfl) fun base=>?_;simp only [mkA,Nat.reduceAdd]
 refine wpA_ok 0 rfl fun ok0=>?_
 refine wpA_ok 1 rfl fun ok1=>?_
 exact walk⟩
theorem cal227 (x a:Expr) (hx:wf x=true) (ha:wf a=true):Cal 227 [x.p,.imm [.int .i64 a.op,.int .i64 a.n,.int .i64 a.m,.int .i64 a.kind,.int .i64 a.lit.kind,.int .i64 a.lit.int,.str a.lit.text,.lst (Expr.ps a.args),.lst (Rel.ps a.rels)] 0] [.bool (sameE x a)]:=⟨by
 haveI:=cal163 x a hx ha
 clear hx ha
 have msk:Msk 112 112:=⟨⟩
 refine CallP.of_bodyN 7 cfg_ok Tryz.func227 rfl rfl (by kernel_rfl) fun base=>?_;simp only [mkA,Nat.reduceAdd]
 refine wpA_ok 0 rfl fun ok0=>?_
 refine wpA_ok 1 rfl fun ok1=>?_
 exact walk⟩
theorem v143_no (e:Expr) (cols:List Col) (h1:¬ e.op=19) (h2:¬ e.op=20):Cal 143 [L cols,e.p] [e.p,.bool false]:=⟨by
 have msk:Msk 277288896286563602529183592452 316912649540548516310278991876:=⟨⟩
 refine CallP.of_bodyN 98 cfg_ok Tryz.func143 rfl rfl (by kernel_rfl) fun base=>?_;simp only [mkA,Nat.reduceAdd]
 refine wpA_ok 0 rfl fun ok0=>?_
 refine wpA_ok 1 rfl fun ok1=>?_
 exact walk⟩
theorem nn1 (n:Nat):((0:Int) ≤ (n:Int) + 1)=True:=eq_true (by omega)
theorem nn2 (n:Nat):((0:Int) ≤ (n:Int) + 2)=True:=eq_true (by omega)
attribute [local simp] nn1 nn2
attribute [local simp] jn1 jn2 jn3 joins spliceE setA in
theorem v143 (e:Expr) (cols:List Col) (b:Bool) (h19:(e.op == 19)=b) (h20:(e.op == 20) = !b) (hw:wf e=true) (h2:2 ≤ e.args.length) :
  Cal 143 [L cols,e.p] [(jn1 e (truthE b) (truthE (!b)) e.args 0).1.p,.bool (jn1 e (truthE b) (truthE (!b)) e.args 0).2]:=⟨by
 have hlen:=wf_len hw
 have hal:∀ (i:Nat) (h:i < e.args.length),e.args[i].args.length ≤ 16:=fun i h=>wf_len (wf_get hw h)
 have pc0:∀ {i:Nat},i < e.args.length→CallP cfg Tryz.prog 226 [e.p,.int .i64 i] [(withoutE e i).p]:=fun h=>(cal226 e _ h).out
 haveI c224:∀ (i:Nat) (h:i < e.args.length),Cal 224 [.lst [.lst (Expr.ps (e.args.take i)),.lst (Expr.ps (e.args[i]).args),.lst (Expr.ps (e.args.drop (i + 1)))]] [.lst (Expr.ps (e.args.take i ++ ((e.args[i]).args ++ e.args.drop (i + 1))))]:=fun i h=>by
  have:=hal i h
  exact cal224_3 _ _ _ (by simp;omega) (by simp;omega)
 haveI c175:∀ (i:Nat) (h:i < e.args.length),Cal 175 [.lst (Expr.ps (e.args.take i)),.fn (.func 225) [] [.imm [.int .i64 (e.args[i]).op,.int .i64 (e.args[i]).n,.int .i64 (e.args[i]).m,.int .i64 (e.args[i]).kind,.int .i64 (e.args[i]).lit.kind,.int .i64 (e.args[i]).lit.int,.str (e.args[i]).lit.text,.lst (Expr.ps (e.args[i]).args),.lst (Rel.ps (e.args[i]).rels)] 0]] [.bool ((e.args.take i).any (fun x=>sameE x e.args[i]))]:=fun i h=>by
  haveI hc:∀ (j:Nat) (k:j < (e.args.take i).length),Cal 225 ([] ++ ((e.args.take i)[j]).p :: [.imm [.int .i64 (e.args[i]).op,.int .i64 (e.args[i]).n,.int .i64 (e.args[i]).m,.int .i64 (e.args[i]).kind,.int .i64 (e.args[i]).lit.kind,.int .i64 (e.args[i]).lit.int,.str (e.args[i]).lit.text,.lst (Expr.ps (e.args[i]).args),.lst (Rel.ps (e.args[i]).rels)] 0]) [.bool (sameE (e.args.take i)[j] e.args[i])]:=fun j k=>
   cal225 _ _ (by rw [List.getElem_take];exact wf_get hw _) (wf_get hw h)
  exact hof175 (e.args.take i) 225 [] _ (fun x=>sameE x e.args[i])
 haveI c175':Cal 175 [.lst (Expr.ps e.args),.fn (.func 227) [] [.imm [.int .i64 (truthE (!b)).op,.int .i64 (truthE (!b)).n,.int .i64 (truthE (!b)).m,.int .i64 (truthE (!b)).kind,.int .i64 (truthE (!b)).lit.kind,.int .i64 (truthE (!b)).lit.int,.str (truthE (!b)).lit.text,.lst (Expr.ps (truthE (!b)).args),.lst (Rel.ps (truthE (!b)).rels)] 0]] [.bool (e.args.any (fun x=>sameE x (truthE (!b))))]:=by
  haveI hc:∀ (j:Nat) (k:j < e.args.length),Cal 227 ([] ++ (e.args[j]).p :: [.imm [.int .i64 (truthE (!b)).op,.int .i64 (truthE (!b)).n,.int .i64 (truthE (!b)).m,.int .i64 (truthE (!b)).kind,.int .i64 (truthE (!b)).lit.kind,.int .i64 (truthE (!b)).lit.int,.str (truthE (!b)).lit.text,.lst (Expr.ps (truthE (!b)).args),.lst (Rel.ps (truthE (!b)).rels)] 0]) [.bool (sameE e.args[j] (truthE (!b)))]:=fun j k=>
   cal227 _ _ (wf_get hw k) (by cases b <;> rfl)
  exact hof175 e.args 227 [] _ (fun x=>sameE x (truthE (!b)))
 haveI c163:∀ (i:Nat) (h:i < e.args.length),Cal 163 [(e.args[i]).p,(truthE b).p] [.bool (sameE e.args[i] (truthE b))]:=fun i h=>cal163 _ _ (wf_get hw h) (by cases b <;> rfl)
 have w1:IntKind.wrap .i64 ((e.args.length:Int) - 1)=(e.args.length:Int) - 1:=wrap_i64 (by omega) (by omega)
 have w2:∀ (i:Nat) (h:i < e.args.length),IntKind.wrap .i64 ((e.args.length:Int) - 1 + (e.args[i].args.length:Int))=(e.args.length:Int) - 1 + (e.args[i].args.length:Int):=fun i h=>by
  have:=hal i h
  exact wrap_i64 (by omega) (by omega)
 have n19:(e.op != 19) = !b:=by simp [bne,h19]
 have n20:(e.op != 20)=b:=by simp [bne,h20]
 clear hw
 generalize hs:truthE b=s at *
 generalize hd:truthE (!b)=d at *
 have msk:Msk 277288896286563602529183592452 316912649540548516310278991876:=⟨⟩
 refine CallP.of_bodyN 98 cfg_ok Tryz.func143 rfl rfl (by kernel_rfl) fun base=>?_;simp only [mkA,Nat.reduceAdd]
 refine wpA_ok 0 rfl fun ok0=>?_
 refine wpA_ok 1 rfl fun ok1=>?_
 have hl2:e.args.length ≤ 4294967296:=okP_args ok1
 have s1:∀ i,i < e.args.length→i + 1 ≤ e.args.length:=fun i h=>h
 have ld0:LD (σ:=Nat) 0 2305843009196916960 [7,56] (fun y_=>(fun i=>[(24,.p (.int .i64 i))]) y_) (fun y_=>(fun i=>[]) y_) (fun y_=>(fun i=>InvL (i ≤ (e.args).length) (True) (jn1 e s d (e.args.drop i) i=jn1 e s d e.args 0)) y_) (fun y_=>(fun i=>(e.args).length - i) y_) (0) [] (fun y_=>(fun i=>i < (e.args).length) y_) (fun y_ (h:(fun i=>i < (e.args).length) y_)=>(fun i (h:i < (e.args).length)=>i + 1) y_ h) (fun y_ (h:(fun i=>i < (e.args).length) y_)=>(fun i (h:i < (e.args).length)=>i + 1) y_ h):=⟨⟩
 have ld1:LD (σ:=Nat) 2 309484714673439889371956768 [10] (fun y_=>(fun i=>[(68,.p (.int .i64 i))]) y_) (fun y_=>(fun i=>[]) y_) (fun y_=>(fun i=>InvL (i ≤ (e.args).length) (True) (jn2 e s d (e.args.drop i) i=jn2 e s d e.args 0)) y_) (fun y_=>(fun i=>(e.args).length - i) y_) (0) [] (fun y_=>(fun i=>i < (e.args).length) y_) (fun y_ (h:(fun i=>i < (e.args).length) y_)=>(fun i (h:i < (e.args).length)=>i + 1) y_ h) (fun y_ (h:(fun i=>i < (e.args).length) y_)=>(fun i (h:i < (e.args).length)=>i + 1) y_ h):=⟨⟩
 have st0:Stop 14:=⟨⟩
 repeat' (first
  | (refine wpA_stopS st0 ?_)
  | (refine wpA_stopR st0 ?_)
  | (refine wpA_seqD cfg_ok mix msk (by decide +kernel) fun K hK=>?_)
  | (refine wpA_seq ?_)
  | (refine wpA_block ?_)
  | (refine thenR_normal ?_)
  | (refine thenR_ret ?_)
  | (refine thenR_exit ?_)
  | (refine blockR_normal ?_)
  | (refine blockR_ret ?_)
  | (refine blockR_same ?_)
  | (refine blockR_other rfl ?_)
  | (refine wpA_skip ?_)
  | (refine wpA_ret ?_)
  | (refine wpA_exit ?_)
  | (refine wpA_regD cfg_ok mix msk (by decide +kernel) fun K hK=>?_)
  | (refine hK.out _ _ _ _ _ (by first | (intro h;cases h;done) | (intro _;kernel_rfl)) ?_;clear hK;clear K;try simp only [dropA,Nat.reducePow,Nat.reduceDiv,Nat.reduceMod, ↓reduceIte,Nat.reduceOr,Nat.zero_ne_one])
  | (refine wpA_condD msk (by first | (simp -implicitDefEqProofs [*];done) | (simp -implicitDefEqProofs [*];rfl)) ?_;try simp only [dropA,Nat.reducePow,Nat.reduceDiv,Nat.reduceMod, ↓reduceIte,Nat.reduceOr,Nat.zero_ne_one])
  | (refine bodyR_ret (by first | (simp -implicitDefEqProofs [*];done) | (simp -implicitDefEqProofs [*];rfl)) ?_)
  | (refine bodyR_normal (by first | (simp -implicitDefEqProofs [*];done) | (simp -implicitDefEqProofs [*];rfl)) ?_)
  | (refine runM_id ?_;simp -implicitDefEqProofs)
  | (refine mV_id ?_;simp -implicitDefEqProofs [*])
  | (refine mG_id ?_;simp -implicitDefEqProofs [*])
  | (refine mD_id ?_;simp -implicitDefEqProofs [*])
  | (refine mQ_intro Cal.out ?_)
  | (refine mR_intro (fun _=>Cal.out) ?_)
  | (refine mR_no ?_)
  | (refine mQ_intro (pc0 (by first | assumption | omega | (simp -implicitDefEqProofs [*];done) | (simp -implicitDefEqProofs;omega))) ?_)
  | (refine mR_intro (fun hw=>pc0 (by first | assumption | omega | (simp -implicitDefEqProofs [*];done) | (simp -implicitDefEqProofs at hw;simp -implicitDefEqProofs [*];done))) ?_)
  | (refine mQ_id ?_;simp -implicitDefEqProofs [*])
  | (refine mR_id ?_;simp -implicitDefEqProofs [*])
  | (refine goB_true ?_)
  | (refine goB_false ?_)
  | (refine headLD ld0 leS (by first | exact ⟨by first | exact Nat.zero_le _ | omega,by first | trivial | (simp -implicitDefEqProofs [*];done),by first | rfl | (simp -implicitDefEqProofs [*];done)⟩ | (simp -implicitDefEqProofs [*];done)) ?_;rintro x0 ⟨hi0,hs0,hn0⟩ ny0 nz0;(try simp only [headM,List.nil_append,List.cons_append,dropA,Nat.reducePow,Nat.reduceDiv,Nat.reduceMod, ↓reduceIte,Nat.reduceOr,Nat.zero_ne_one]);have hj0:x0.1 ≤ 4294967296:=by omega)
  | (refine headLD ld0 leS (by first | exact ⟨by first | exact Nat.zero_le _ | omega,by first | trivial | (simp -implicitDefEqProofs [*];done),by first | rfl | (simp -implicitDefEqProofs [*];done)⟩ | (simp -implicitDefEqProofs [*];done)) ?_;rintro x0 ⟨hi0,hs0,hn0⟩ ny0 nz0;(try simp only [headM,List.nil_append,List.cons_append,dropA,Nat.reducePow,Nat.reduceDiv,Nat.reduceMod, ↓reduceIte,Nat.reduceOr,Nat.zero_ne_one]);have hj0:x0 ≤ 4294967296:=by omega)
  | (refine headLD ld1 leS (by first | exact ⟨by first | exact Nat.zero_le _ | omega,by first | trivial | (simp -implicitDefEqProofs [*];done),by first | rfl | (simp -implicitDefEqProofs [*];done)⟩ | (simp -implicitDefEqProofs [*];done)) ?_;rintro x1 ⟨hi1,hs1,hn1⟩ ny1 nz1;(try simp only [headM,List.nil_append,List.cons_append,dropA,Nat.reducePow,Nat.reduceDiv,Nat.reduceMod, ↓reduceIte,Nat.reduceOr,Nat.zero_ne_one]);have hj1:x1.1 ≤ 4294967296:=by omega)
  | (refine headLD ld1 leS (by first | exact ⟨by first | exact Nat.zero_le _ | omega,by first | trivial | (simp -implicitDefEqProofs [*];done),by first | rfl | (simp -implicitDefEqProofs [*];done)⟩ | (simp -implicitDefEqProofs [*];done)) ?_;rintro x1 ⟨hi1,hs1,hn1⟩ ny1 nz1;(try simp only [headM,List.nil_append,List.cons_append,dropA,Nat.reducePow,Nat.reduceDiv,Nat.reduceMod, ↓reduceIte,Nat.reduceOr,Nat.zero_ne_one]);have hj1:x1 ≤ 4294967296:=by omega)
  | (refine goB_intro (fun h=>?_) (fun h=>?_) <;> (try simp only [Bool.not_eq_true',Bool.not_eq_false',Bool.not_eq_true,Bool.not_eq_false,Bool.and_eq_true,Bool.or_eq_false_iff,and_assoc,decide_eq_true_eq,decide_eq_false_iff_not,Nat.not_lt,Nat.not_le,Int.ofNat_lt,Int.ofNat_le,Int.not_lt,Int.not_le] at h) <;> (try have g:=ne_of_beqI h) <;> (repeat (have h':=And.left h;replace h:=And.right h)) <;> (try (have hz0:=Eq.symm hn0;rw [List.drop_eq_nil_of_le h] at hz0;simp -implicitDefEqProofs at hz0)) <;> (try (have hz1:=Eq.symm hn1;rw [List.drop_eq_nil_of_le h] at hz1;simp -implicitDefEqProofs at hz1)) <;> (try (have hz3:=Eq.symm hn3;rw [List.drop_eq_nil_of_le h] at hz3;simp -implicitDefEqProofs at hz3)) <;> (try (have hz0:=Eq.symm hn0;rw [hst0.out] at hz0;rw [dif_neg (by first | exact Nat.not_lt.mpr h | omega)] at hz0)) <;> (try (have hz1:=Eq.symm hn1;rw [hst1.out] at hz1;rw [dif_neg (by first | exact Nat.not_lt.mpr h | omega)] at hz1)) <;> (try (have hz2:=Eq.symm hn2;rw [hst2.out] at hz2;rw [dif_neg (by first | exact Nat.not_lt.mpr h | omega)] at hz2)) <;> (try (have hz3:=Eq.symm hn3;rw [hst3.out] at hz3;rw [dif_neg (by first | exact Nat.not_lt.mpr h | omega)] at hz3))))
 all_goals try (first
  | rfl
  | (refine again_nx ny1 (by first | assumption | omega | (dsimp only;omega)) (by first | omega | (dsimp only;omega)) ?_ leS;dsimp only;(first | rw [List.drop_eq_getElem_cons (by assumption)] at hn1 | rw [hst1.out] at hn1);refine ⟨by omega,by first | trivial | omega | (simp -implicitDefEqProofs [*];done) | (simp -implicitDefEqProofs;omega),?_⟩;first | (simpa -implicitDefEqProofs [*] using hn1) | (rw [← hn1];clear hn1;simp -implicitDefEqProofs [*];done))
  | (refine again_nx nz1 (by first | assumption | omega | (dsimp only;omega)) (by first | omega | (dsimp only;omega)) ?_ leS;dsimp only;(first | rw [List.drop_eq_getElem_cons (by assumption)] at hn1 | rw [hst1.out] at hn1);refine ⟨by omega,by first | trivial | omega | (simp -implicitDefEqProofs [*];done) | (simp -implicitDefEqProofs;omega),?_⟩;first | (simpa -implicitDefEqProofs [*] using hn1) | (rw [← hn1];clear hn1;simp -implicitDefEqProofs [*];done))
  | (refine again_nx ny0 (by first | assumption | omega | (dsimp only;omega)) (by first | omega | (dsimp only;omega)) ?_ leS;dsimp only;(first | rw [List.drop_eq_getElem_cons (by assumption)] at hn0 | rw [hst0.out] at hn0);refine ⟨by omega,by first | trivial | omega | (simp -implicitDefEqProofs [*];done) | (simp -implicitDefEqProofs;omega),?_⟩;first | (simpa -implicitDefEqProofs [*] using hn0) | (rw [← hn0];clear hn0;simp -implicitDefEqProofs [*];done))
  | (refine again_nx nz0 (by first | assumption | omega | (dsimp only;omega)) (by first | omega | (dsimp only;omega)) ?_ leS;dsimp only;(first | rw [List.drop_eq_getElem_cons (by assumption)] at hn0 | rw [hst0.out] at hn0);refine ⟨by omega,by first | trivial | omega | (simp -implicitDefEqProofs [*];done) | (simp -implicitDefEqProofs;omega),?_⟩;first | (simpa -implicitDefEqProofs [*] using hn0) | (rw [← hn0];clear hn0;simp -implicitDefEqProofs [*];done))
  | (simp -implicitDefEqProofs [*];done)
  | ((first | rw [List.drop_eq_getElem_cons (by assumption)] at hn1 | rw [List.drop_eq_nil_of_le (by assumption)] at hn1 | rw [hst1.out] at hn1);rw [← hn1];first | rfl | (simp -implicitDefEqProofs [*];done))
  | ((first | rw [List.drop_eq_getElem_cons (by assumption)] at hn0 | rw [List.drop_eq_nil_of_le (by assumption)] at hn0 | rw [hst0.out] at hn0);rw [← hn0];first | rfl | (simp -implicitDefEqProofs [*];done))
  | ((first | rw [List.drop_eq_getElem_cons (by assumption)] at hn1 | rw [List.drop_eq_nil_of_le (by assumption)] at hn1 | rw [hst1.out] at hn1);(try simp -implicitDefEqProofs [*] at hn1);(try simp -implicitDefEqProofs);grind)
  | ((first | rw [List.drop_eq_getElem_cons (by assumption)] at hn0 | rw [List.drop_eq_nil_of_le (by assumption)] at hn0 | rw [hst0.out] at hn0);(try simp -implicitDefEqProofs [*] at hn0);(try simp -implicitDefEqProofs);grind)
  | (rcases Nx.em ny1 with hq | hq <;> (try simp only [Nat.not_lt] at hq) <;> (first | (rw [List.drop_eq_getElem_cons hq] at hn1;rw [← hn1];(try simp [hq] at h);first | (simp -implicitDefEqProofs [*];done) | (simp -implicitDefEqProofs;grind) | grind) | (rw [List.drop_eq_nil_of_le hq] at hn1;rw [← hn1];first | rfl | (simp -implicitDefEqProofs [*];done) | (simp -implicitDefEqProofs;grind) | grind) | (rw [hst1.out] at hn1;rw [← hn1];(try simp [hq] at h);first | rfl | (simp -implicitDefEqProofs [*];done) | (simp -implicitDefEqProofs [*];grind) | grind)))
  | (rcases Nx.em ny0 with hq | hq <;> (try simp only [Nat.not_lt] at hq) <;> (first | (rw [List.drop_eq_getElem_cons hq] at hn0;rw [← hn0];(try simp [hq] at h);first | (simp -implicitDefEqProofs [*];done) | (simp -implicitDefEqProofs;grind) | grind) | (rw [List.drop_eq_nil_of_le hq] at hn0;rw [← hn0];first | rfl | (simp -implicitDefEqProofs [*];done) | (simp -implicitDefEqProofs;grind) | grind) | (rw [hst0.out] at hn0;rw [← hn0];(try simp [hq] at h);first | rfl | (simp -implicitDefEqProofs [*];done) | (simp -implicitDefEqProofs [*];grind) | grind)))
  | (simp -implicitDefEqProofs [*];grind) | grind | (simp_all -implicitDefEqProofs;done))
 refine ⟨?_⟩
 cases hq:sameE e.args[x1] s
 ·refine wpA_seqK cfg_ok fun K hK=>?_
  simp -implicitDefEqProofs [*]
  repeat' (first | (refine goR_intro Cal.out ?_) | (refine runK_id ?_;simp -implicitDefEqProofs [*]) | (refine hK.out _ _ ?_;clear hK;clear K))
  exact walk
 ·refine wpA_seqK cfg_ok fun K hK=>?_
  simp -implicitDefEqProofs [*]
  repeat' (first | (refine goR_intro Cal.out ?_) | (refine runK_id ?_;simp -implicitDefEqProofs [*]) | (refine hK.out _ _ ?_;clear hK;clear K))
  exact walk⟩
end
section
attribute [local simp] wl0 wl1 wl2 wl3 wl4 wl5 wl6 wl7 wl8 wl9 wl10 wl11 wl12 wl13 wl14 wl15 wl16 wl17 wl18 wl19 wl20
attribute [local simp high] evalOp_fieldP
attribute [local simp] ty140
attribute [local simp] fldV_p fldV_agg aggP_agg aggP_col aggP_val aggP_expr
attribute [local simp] runK_nil runK_cons goG_true goG_false goC_none goC_some goV_some goV_none goD_some goD_none
def cs (e:Expr) (n i:Nat) (k:Bool):Expr × Bool:=
 if h:i < n then
  (if isLit (e.args.getD i zeroE) then
   (oneOr e (if isTrue (e.args.getD i zeroE) then e.args.take i ++ [e.args.getD (i + 1) zeroE] else e.args.take i ++ e.args.drop (i + 2)),true)
  else cs e n (i + 2) (k && sameE (e.args.getD (i + 1) zeroE) (lastE e.args)))
 else (if k then (lastE e.args,true) else (e,false))
termination_by n - i
theorem cs_eq (e:Expr) (n:Nat) (hn:e.args.length=n + 1) (i:Nat) (k:Bool):cs e n i k=if h:i < n then
  (if isLit (e.args[i]'(by omega)) then
   (oneOr e (if isTrue (e.args[i]'(by omega)) then e.args.take i ++ [e.args[i + 1]'(by omega)] else e.args.take i ++ e.args.drop (i + 2)),true)
  else cs e n (i + 2) (k && sameE (e.args[i + 1]'(by omega)) (lastE e.args)))
 else (if k then (lastE e.args,true) else (e,false)):=by
 rw [cs]
 split
 ·rename_i h
  rw [getD_E _ _ (by omega),getD_E _ _ (by omega)]
 ·rfl
theorem lastE_get' {l:List Expr} {n:Nat} (h:l.length=n + 1):l[n]'(by omega)=lastE l:=by
 have h0:0 < l.length:=by omega
 rw [show lastE l=l.getLast (List.ne_nil_of_length_pos h0) by cases l with | nil=>simp at h0 | cons a r=>rfl]
 rw [List.getLast_eq_getElem]
 congr 1;omega
theorem v152_no (e:Expr) (cols:List Col) (h1:¬ e.op=24):Cal 152 [L cols,e.p] [e.p,.bool false]:=⟨by
 have msk:Msk 2456235033423310273591637508 2475880078570760549798247940:=⟨⟩
 refine CallP.of_bodyN 91 cfg_ok Tryz.func152 rfl rfl (by kernel_rfl) fun base=>?_;simp only [mkA,Nat.reduceAdd]
 refine wpA_ok 0 rfl fun ok0=>?_
 refine wpA_ok 1 rfl fun ok1=>?_
 exact walk⟩
attribute [local simp] oneOr setA in
theorem v152 (e:Expr) (cols:List Col) (h24:e.op=24) (hw:wf e=true) (n:Nat) (hn:e.args.length=n + 1) (h2:2 ≤ n):Cal 152 [L cols,e.p] [(cs e n 0 true).1.p,.bool (cs e n 0 true).2]:=⟨by
 have hl:=wf_len hw
 have hst0:Hid (∀ (i:Nat) (k:Bool),_):=⟨cs_eq e n hn⟩
 have hlast:=lastE_get' hn
 have hwn:IntKind.wrap .i64 ((n:Int) + 1 - 1)=(n:Int):=by rw [Int.add_sub_cancel];exact wrap_nat (by omega)
 have hwn':IntKind.wrap .i64 (n:Int)=(n:Int):=wrap_nat (by omega)
 have g1:∀ i,i < n→i ≤ n:=fun i _=>by omega
 have g2:∀ i,i < n→i + 1 ≤ n:=fun i _=>by omega
 have g3:∀ i,i < n→i + 2 ≤ n + 1:=fun i _=>by omega
 have g4:∀ i,i < n→min i (n + 1)=i:=fun i _=>by omega
 have g5:∀ i,i < n→i < n + 1:=fun i _=>by omega
 have g7:∀ i:Nat,(0:Int) ≤ (i:Int) + 1:=fun i=>by omega
 have g8:∀ i:Nat,((i:Int) + 1).toNat=i + 1:=fun i=>by omega
 have g9:∀ i:Nat,(0:Int) ≤ (i:Int) + 2:=fun i=>by omega
 have g10:∀ i:Nat,((i:Int) + 2).toNat=i + 2:=fun i=>by omega
 have g11:∀ i:Nat,i < n→IntKind.wrap .i64 ((i:Int) + 2)=(i:Int) + 2:=fun i h=>wrap_nat (n:=i + 2) (by omega)
 have g16:∀ i,i < n→i + 1 < n + 1:=fun i _=>by omega
 have g22:e.args.take (n + 1)=e.args:=by rw [← hn,List.take_length]
 haveI c163:∀ (i:Nat) (h:i < e.args.length),Cal 163 [(e.args[i]).p,(lastE e.args).p] [.bool (sameE e.args[i] (lastE e.args))]:=fun i h=>cal163 _ _ (wf_get hw h) (by rw [← hlast];exact wf_get hw _)
 have pc0:∀ {i:Nat} (h:i < n),CallP cfg Tryz.prog 224 [.lst [.lst (Expr.ps (e.args.take i)),.lst (Expr.ps ((e.args.take (i + 2)).drop (i + 1)))]] [.lst (Expr.ps (e.args.take i ++ [e.args[i + 1]'(by omega)]))]:=fun {i} h=>by
  have e1:(e.args.take (i + 2)).drop (i + 1)=[e.args[i + 1]'(by omega)]:=by
   rw [List.drop_take,show i + 2 - (i + 1)=1 by omega,List.drop_eq_getElem_cons (show i + 1 < e.args.length by omega)]
   rfl
  rw [e1]
  exact (cal224_2 _ _ (by simp) (by simp;omega)).out
 have g12:∀ i:Nat,i < n→i + (n + 1 - (i + 2))=n - 1:=fun i h=>by omega
 have g14:0 < n - 1:=by omega
 have g20:∀ (i:Nat) (h:i < n) (h2:0 < (e.args.take i ++ [e.args[i + 1]'(by omega)]).length),(e.args.take i ++ [e.args[i + 1]'(by omega)])[0]'h2=hdE (e.args.take i ++ [e.args[i + 1]'(by omega)]):=fun i h h2=>hdE_get h2
 have g21:∀ (i:Nat) (h:0 < (e.args.take i ++ e.args.drop (i + 2)).length),(e.args.take i ++ e.args.drop (i + 2))[0]'h=hdE (e.args.take i ++ e.args.drop (i + 2)):=fun i h=>hdE_get h
 have b24:(e.op == 24)=true:=by simp [h24]
 have c24:(e.op != 24)=false:=by simp [h24]
 clear hw h24
 have msk:Msk 2456235033423310273591637508 2475880078570760549798247940:=⟨⟩
 refine CallP.of_bodyN 91 cfg_ok Tryz.func152 rfl rfl (by kernel_rfl) fun base=>?_;simp only [mkA,Nat.reduceAdd]
 refine wpA_ok 0 rfl fun ok0=>?_
 refine wpA_ok 1 rfl fun ok1=>?_
 have ld0:LD (σ:=Nat × Bool) 0 19342813113834066795168160 [48] (fun y_=>(fun i k=>[(8,.p (.int .i64 i)),(7,.p (.bool k))]) y_.1 y_.2) (fun y_=>(fun i k=>[]) y_.1 y_.2) (fun y_=>(fun i k=>InvL (i ≤ n + 1) (True) (cs e n i k=cs e n 0 true)) y_.1 y_.2) (fun y_=>(fun i k=>n + 1 - i) y_.1 y_.2) ((0,true)) [] (fun y_=>(fun i k=>i < n) y_.1 y_.2) (fun y_ (h:(fun i k=>i < n) y_.1 y_.2)=>(fun i k (h:i < n)=>(i + 2,(k && sameE (e.args.getD (i + 1) zeroE) (lastE e.args)))) y_.1 y_.2 h) (fun y_ (h:(fun i k=>i < n) y_.1 y_.2)=>(fun i k (h:i < n)=>(i + 2,(k && sameE (e.args.getD (i + 1) zeroE) (lastE e.args)))) y_.1 y_.2 h):=⟨⟩
 have st0:Stop 12:=⟨⟩
 refine walkX ?_ trivial
 intro x0 hi0 hn0 ny0 nz0 hj0 h1' h' h
 refine ⟨?_⟩
 obtain ⟨i,k⟩:=x0
 have hi:i < n:=by assumption
 have hl5:e.args.length ≤ 4294967296:=okP_args ok1
 refine wpA_regK cfg_ok fun K hK=>?_
 simp -implicitDefEqProofs [*]
 refine goX_intro (x_madeN (callM233L e.args (by omega) hl5) rfl rfl (by simp -implicitDefEqProofs [callArgs]) rfl (by simp)) ?_
 rintro S' rfl
 refine runK_id ?_
 simp -implicitDefEqProofs [*]
 refine goX_intro (x_delT (l:=e.args) (i:=i) (j:=i + 2) (a:=69) (d:=73) 69 (by omega) (by omega) rfl (by simp -implicitDefEqProofs [callArgs, *]) (by simp -implicitDefEqProofs) rfl (by simp) (by simp) leS) ?_
 rintro S' rfl
 refine runK_id ?_
 simp -implicitDefEqProofs [*]
 refine hK.out _ _ ?_
 clear hK
 clear K
 have hli:isLit (e.args[i]'(by omega))=true:=by assumption
 have hti:isTrue (e.args[i]'(by omega))=false:=by assumption
 have hr:cs e n 0 true=(oneOr e (e.args.take i ++ e.args.drop (i + 2)),true):=by
  rw [← hn0,hst0.out,dif_pos hi,if_pos hli,if_neg (by rw [hti];simp)]
 have hml:n - 1=(e.args.take i ++ e.args.drop (i + 2)).length:=by simp;omega
 rw [hr]
 clear hr hn0 ny0 nz0 ld0 hst0 c163 pc0
 generalize e.args.take i ++ e.args.drop (i + 2)=m at hml ⊢
 rw [hml]
 have hm:m.length ≤ 4294967296:=by omega
 have hm0:0 < m.length:=by omega
 clear hml h2
 repeat (first | refine blockR_normal ?_ | refine thenR_normal ?_)
 by_cases hq:m.length=1
 ·have h1:((m.length:Int) == 1)=true:=by simp [hq]
  have h2:m[0]? = some (hdE m):=hdE_get? (by omega)
  have h4:m[0]=hdE m:=hdE_get hm0
  rw [show oneOr e m=hdE m by unfold oneOr;rw [h1];rfl]
  clear hq
  exact walk
 ·have h1:((m.length:Int) == 1)=false:=by simp;omega
  rw [show oneOr e m=setA e m by unfold oneOr;rw [h1];rfl]
  clear hq
  exact walk⟩
end
section
attribute [local simp] wl0 wl1 wl2 wl3 wl4 wl5 wl6 wl7 wl8 wl9 wl10 wl11 wl12 wl13 wl14 wl15 wl16 wl17 wl18 wl19 wl20
attribute [local simp high] evalOp_fieldP
attribute [local simp] ty140
attribute [local simp] fldV_p fldV_agg aggP_agg aggP_col aggP_val aggP_expr
def sure (cols:List Col) (a:Expr):Bool:=!nullE cols a
def co (cols:List Col) (e:Expr):Expr × Bool:=
 if 0 ≤ idxOf isNull e.args 0 then (withoutE e (idxOf isNull e.args 0).toNat,true)
 else if idxOf (sure cols) e.args 0 < 0 ∨ idxOf (sure cols) e.args 0=(e.args.length:Int) - 1 then (e,false)
 else if idxOf (sure cols) e.args 0=0 then (hdE e.args,true)
 else (setA e (e.args.take ((idxOf (sure cols) e.args 0).toNat + 1)),true)
theorem v153_no (e:Expr) (cols:List Col) (h1:¬ e.op=25):Cal 153 [L cols,e.p] [e.p,.bool false]:=⟨by
 have msk:Msk 1125745287953156 1125899906842372:=⟨⟩
 refine CallP.of_bodyN 50 cfg_ok Tryz.func153 rfl rfl (by kernel_rfl) fun base=>?_;simp only [mkA,Nat.reduceAdd]
 refine wpA_ok 0 rfl fun ok0=>?_
 refine wpA_ok 1 rfl fun ok1=>?_
 exact walk⟩
theorem idxOf_cases {α:Type} (q:α→Bool):∀ (l:List α) (i:Nat),idxOf q l i = -1 ∨ ∃ j:Nat,idxOf q l i=(j:Int)∧i ≤ j∧j < i + l.length
 | [],i=>.inl rfl
 | a :: r,i=>by
  simp only [idxOf]
  split
  ·exact .inr ⟨i,rfl,Nat.le_refl _,by simp⟩
  ·have:=idxOf_cases q r (i + 1)
   rw [Int.natCast_succ] at this
   rcases this with h | ⟨j,h,h1,h2⟩
   ·exact .inl h
   ·exact .inr ⟨j,h,by omega,by simp;omega⟩
theorem idxOf_cases0 {α:Type} (q:α→Bool) (l:List α):idxOf q l 0 = -1 ∨ ∃ j:Nat,idxOf q l 0=(j:Int)∧j < l.length:=by
 rcases idxOf_cases q l 0 with h | ⟨j,h,_,h2⟩
 ·exact .inl h
 ·exact .inr ⟨j,h,by omega⟩
attribute [local simp] setA
theorem v153 (e:Expr) (cols:List Col) (k:Int) (h:Has cols e k) (h25:e.op=25):Cal 153 [L cols,e.p] [(co cols e).1.p,.bool (co cols e).2]:=by
 haveI c231:∀ (i:Nat) (hi:i < e.args.length),Cal 231 ([L cols] ++ (e.args[i]).p :: []) [.bool (sure cols e.args[i])]:=fun i hi=>cal231 _ cols _ (arg_has h (List.getElem_mem hi))
 haveI c234:=hof234 e.args 231 [L cols] [] (sure cols)
 have hlen:=wf_len h.wf
 have b25:(e.op == 25)=true:=by simp [h25]
 have c25:(e.op != 25)=false:=by simp [h25]
 have w1:IntKind.wrap .i64 ((e.args.length:Int) - 1)=(e.args.length:Int) - 1:=wrap_i64 (by omega) (by omega)
 clear c231 h h25
 rcases idxOf_cases0 isNull e.args with hp | ⟨i,hp,hi⟩
 ·rcases idxOf_cases0 (sure cols) e.args with hq | ⟨j,hq,hj⟩
  ·rw [show co cols e=(e,false) by simp only [co];rw [hp,hq];rfl]
   refine ⟨?_⟩
   have msk:Msk 1125745287953156 1125899906842372:=⟨⟩
   refine CallP.of_bodyN 50 cfg_ok Tryz.func153 rfl rfl (by kernel_rfl) fun base=>?_;simp only [mkA,Nat.reduceAdd]
   refine wpA_ok 0 rfl fun ok0=>?_
   refine wpA_ok 1 rfl fun ok1=>?_
   exact walk
  ·by_cases hl:j + 1=e.args.length
   ·have d1:((j:Int) == (e.args.length:Int) - 1)=true:=by simp;omega
    rw [show co cols e=(e,false) by simp only [co];rw [hp,hq,if_neg (by omega),if_pos (by omega)]]
    refine ⟨?_⟩
    clear hl
    have msk:Msk 1125745287953156 1125899906842372:=⟨⟩
    refine CallP.of_bodyN 50 cfg_ok Tryz.func153 rfl rfl (by kernel_rfl) fun base=>?_;simp only [mkA,Nat.reduceAdd]
    refine wpA_ok 0 rfl fun ok0=>?_
    refine wpA_ok 1 rfl fun ok1=>?_
    exact walk
   ·have d1:((j:Int) == (e.args.length:Int) - 1)=false:=by simp;omega
    cases j with
    | zero=>
     have h0:0 < e.args.length:=by omega
     have h2:e.args[0]? = some (hdE e.args):=hdE_get? h0
     have h4:e.args[0]=hdE e.args:=hdE_get h0
     rw [show co cols e=(hdE e.args,true) by simp only [co];rw [hp,hq,if_neg (by omega),if_neg (by omega),if_pos (show (((0:Nat)):Int)=0 from rfl)]]
     refine ⟨?_⟩
     clear hl hj
     have msk:Msk 1125745287953156 1125899906842372:=⟨⟩
     refine CallP.of_bodyN 50 cfg_ok Tryz.func153 rfl rfl (by kernel_rfl) fun base=>?_;simp only [mkA,Nat.reduceAdd]
     refine wpA_ok 0 rfl fun ok0=>?_
     refine wpA_ok 1 rfl fun ok1=>?_
     exact walk
    | succ j=>
     have d2:(((j + 1:Nat):Int) == 0)=false:=by simp;omega
     rw [show co cols e=(setA e (e.args.take (j + 1 + 1)),true) by simp only [co];rw [hp,hq,if_neg (by omega),if_neg (by omega),if_neg (by omega)];rfl]
     haveI c233:Cal 233 [.lst (Expr.ps (e.args.take (j + 1 + 1)))] [.lst (Expr.ps (e.args.take (j + 1 + 1)))]:=cal233L _ (by simp;omega)
     have w2:IntKind.wrap .i64 ((j:Int) + 1 + 1)=(j:Int) + 1 + 1:=wrap_nat (n:=j + 2) (by omega)
     have w3:(0:Int) ≤ (j:Int) + 1 + 1:=by omega
     have w4:((j:Int) + 1 + 1).toNat=j + 1 + 1:=by omega
     have w5:j + 1 + 1 ≤ e.args.length:=by omega
     refine ⟨?_⟩
     clear hl
     have msk:Msk 1125745287953156 1125899906842372:=⟨⟩
     refine CallP.of_bodyN 50 cfg_ok Tryz.func153 rfl rfl (by kernel_rfl) fun base=>?_;simp only [mkA,Nat.reduceAdd]
     refine wpA_ok 0 rfl fun ok0=>?_
     refine wpA_ok 1 rfl fun ok1=>?_
     exact walk
 ·rw [show co cols e=(withoutE e i,true) by simp only [co];rw [hp,if_pos (by omega)];rfl]
  haveI c226:=cal226 e i (by omega)
  refine ⟨?_⟩
  clear hi
  have msk:Msk 1125745287953156 1125899906842372:=⟨⟩
  refine CallP.of_bodyN 50 cfg_ok Tryz.func153 rfl rfl (by kernel_rfl) fun base=>?_;simp only [mkA,Nat.reduceAdd]
  refine wpA_ok 0 rfl fun ok0=>?_
  refine wpA_ok 1 rfl fun ok1=>?_
  exact walk
end
section
attribute [local simp] wl0 wl1 wl2 wl3 wl4 wl5 wl6 wl7 wl8 wl9 wl10 wl11 wl12 wl13 wl14 wl15 wl16 wl17 wl18 wl19 wl20
attribute [local simp high] evalOp_fieldP
attribute [local simp] ty140
attribute [local simp] fldV_p fldV_agg aggP_agg aggP_col aggP_val aggP_expr
attribute [local simp] nullW
def numE (n:Int):Expr:=litE 1 (intW n)
def emptyE:Expr:=litE 3 (textW ⟨#[]⟩)
theorem wf_num (n:Int):wf (numE n)=true:=wf_lit rfl (right_int n) (.inr rfl)
theorem wf_empty:wf emptyE=true:=by
 have hp:printable ⟨#[]⟩=true:=(printable_iff _).2 fun j h=>absurd h (Nat.not_lt_zero _)
 refine wf_lit rfl ?_ (.inr rfl)
 show rightV ⟨3,0,⟨#[]⟩⟩=true
 simp [rightV,hp]
 decide
theorem num_un (n:Int):litE 1 (intW n)=numE n:=rfl
theorem empty_un:(Expr.mk 3 0 0 3 ⟨3,0,⟨#[]⟩⟩ [] [])=emptyE:=rfl
theorem empty_un2:litE 3 ⟨3,0,⟨#[]⟩⟩=emptyE:=rfl
attribute [local simp] num_un empty_un empty_un2
theorem c228_0 (o x1 x2 x3 v1 v2:Int) (v3:ByteArray) (a b:Expr) (r:List Rel) (n:Int) (h:wf a=true):Cal 228 [.int .i64 0,.int .i64 n,.imm [.int .i64 o,.int .i64 x1,.int .i64 x2,.int .i64 x3,.int .i64 v1,.int .i64 v2,.str v3,.lst (Expr.ps [a,b]),.lst (Rel.ps r)] 0] [.bool (sameE a (numE n))]:=⟨by
 haveI:=cal163 a (numE n) h (wf_num n)
 have msk:Msk 16344 16344:=⟨⟩
 refine CallP.of_bodyN 14 cfg_ok Tryz.func228 rfl rfl (by kernel_rfl) fun base=>?_;simp only [mkA,Nat.reduceAdd]
 refine wpA_ok 0 rfl fun ok0=>?_
 refine wpA_ok 1 rfl fun ok1=>?_
 refine wpA_ok 2 rfl fun ok2=>?_
 exact walk⟩
theorem c230_0 (o x1 x2 x3 v1 v2:Int) (v3:ByteArray) (a b:Expr) (r:List Rel) (h:wf a=true):Cal 230 [.int .i64 0,.imm [.int .i64 o,.int .i64 x1,.int .i64 x2,.int .i64 x3,.int .i64 v1,.int .i64 v2,.str v3,.lst (Expr.ps [a,b]),.lst (Rel.ps r)] 0] [.bool (sameE a emptyE)]:=⟨by
 haveI:=cal163 a emptyE h wf_empty
 have msk:Msk 4084 4084:=⟨⟩
 refine CallP.of_bodyN 12 cfg_ok Tryz.func230 rfl rfl (by kernel_rfl) fun base=>?_;simp only [mkA,Nat.reduceAdd]
 refine wpA_ok 0 rfl fun ok0=>?_
 refine wpA_ok 1 rfl fun ok1=>?_
 exact walk⟩
theorem c228_1 (o x1 x2 x3 v1 v2:Int) (v3:ByteArray) (a b:Expr) (r:List Rel) (n:Int) (h:wf b=true):Cal 228 [.int .i64 1,.int .i64 n,.imm [.int .i64 o,.int .i64 x1,.int .i64 x2,.int .i64 x3,.int .i64 v1,.int .i64 v2,.str v3,.lst (Expr.ps [a,b]),.lst (Rel.ps r)] 0] [.bool (sameE b (numE n))]:=⟨by
 haveI:=cal163 b (numE n) h (wf_num n)
 have msk:Msk 16344 16344:=⟨⟩
 refine CallP.of_bodyN 14 cfg_ok Tryz.func228 rfl rfl (by kernel_rfl) fun base=>?_;simp only [mkA,Nat.reduceAdd]
 refine wpA_ok 0 rfl fun ok0=>?_
 refine wpA_ok 1 rfl fun ok1=>?_
 refine wpA_ok 2 rfl fun ok2=>?_
 exact walk⟩
theorem c230_1 (o x1 x2 x3 v1 v2:Int) (v3:ByteArray) (a b:Expr) (r:List Rel) (h:wf b=true):Cal 230 [.int .i64 1,.imm [.int .i64 o,.int .i64 x1,.int .i64 x2,.int .i64 x3,.int .i64 v1,.int .i64 v2,.str v3,.lst (Expr.ps [a,b]),.lst (Rel.ps r)] 0] [.bool (sameE b emptyE)]:=⟨by
 haveI:=cal163 b emptyE h wf_empty
 have msk:Msk 4084 4084:=⟨⟩
 refine CallP.of_bodyN 12 cfg_ok Tryz.func230 rfl rfl (by kernel_rfl) fun base=>?_;simp only [mkA,Nat.reduceAdd]
 refine wpA_ok 0 rfl fun ok0=>?_
 refine wpA_ok 1 rfl fun ok1=>?_
 exact walk⟩
variable (e:Expr) (cols:List Col)
theorem v146_4 (a b:Expr) (hab:e.args=[a,b]) (ho:e.op=4) (ka kb:Int) (ha:Has cols a ka) (hb:Has cols b kb):Cal 146 [L cols,e.p] [(if sameE b (numE 0) then (a,true) else if sameE a (numE 0) then (b,true) else (e,false)).1.p,.bool (if sameE b (numE 0) then (a,true) else if sameE a (numE 0) then (b,true) else (e,false)).2]:=⟨by
 have fz0:FZ 11 6:=⟨⟩
 have het:Expr.mk 4 e.n e.m e.kind e.lit [a,b] e.rels=e:=by rw [← hab,← ho];exact expr_eta e
 haveI:=cal231 a cols _ ha
 haveI:=cal231 b cols _ hb
 have wa:=ha.wf
 have wb:=hb.wf
 haveI:∀ (x1 x2 x3 v1 v2 n:Int) (v3:ByteArray) (r:List Rel),Cal 228 [.int .i64 0,.int .i64 n,.imm [.int .i64 4,.int .i64 x1,.int .i64 x2,.int .i64 x3,.int .i64 v1,.int .i64 v2,.str v3,.lst (Expr.ps [a,b]),.lst (Rel.ps r)] 0] [.bool (sameE a (numE n))]:=fun x1 x2 x3 v1 v2 n v3 r=>c228_0 _ _ _ _ _ _ _ a b _ n wa
 haveI:∀ (x1 x2 x3 v1 v2 n:Int) (v3:ByteArray) (r:List Rel),Cal 228 [.int .i64 1,.int .i64 n,.imm [.int .i64 4,.int .i64 x1,.int .i64 x2,.int .i64 x3,.int .i64 v1,.int .i64 v2,.str v3,.lst (Expr.ps [a,b]),.lst (Rel.ps r)] 0] [.bool (sameE b (numE n))]:=fun x1 x2 x3 v1 v2 n v3 r=>c228_1 _ _ _ _ _ _ _ a b _ n wb
 clear ha hb wa wb
 have msk:Msk 74958189169331600858116 75557863725914323409924:=⟨⟩
 refine CallP.of_bodyN 76 cfg_ok Tryz.func146 rfl rfl (by kernel_rfl) fun base=>?_;simp only [mkA,Nat.reduceAdd]
 refine wpA_ok 0 rfl fun ok0=>?_
 refine wpA_ok 1 rfl fun ok1=>?_
 exact (have hnd:AndN:=⟨⟩;walkX trivial trivial)⟩
theorem v146_5 (a b:Expr) (hab:e.args=[a,b]) (ho:e.op=5) (ka kb:Int) (ha:Has cols a ka) (hb:Has cols b kb):Cal 146 [L cols,e.p] [(if sameE b (numE 0) then (a,true) else (e,false)).1.p,.bool (if sameE b (numE 0) then (a,true) else (e,false)).2]:=⟨by
 have fz0:FZ 11 6:=⟨⟩
 have het:Expr.mk 5 e.n e.m e.kind e.lit [a,b] e.rels=e:=by rw [← hab,← ho];exact expr_eta e
 haveI:=cal231 a cols _ ha
 haveI:=cal231 b cols _ hb
 have wa:=ha.wf
 have wb:=hb.wf
 haveI:∀ (x1 x2 x3 v1 v2 n:Int) (v3:ByteArray) (r:List Rel),Cal 228 [.int .i64 0,.int .i64 n,.imm [.int .i64 5,.int .i64 x1,.int .i64 x2,.int .i64 x3,.int .i64 v1,.int .i64 v2,.str v3,.lst (Expr.ps [a,b]),.lst (Rel.ps r)] 0] [.bool (sameE a (numE n))]:=fun x1 x2 x3 v1 v2 n v3 r=>c228_0 _ _ _ _ _ _ _ a b _ n wa
 haveI:∀ (x1 x2 x3 v1 v2 n:Int) (v3:ByteArray) (r:List Rel),Cal 228 [.int .i64 1,.int .i64 n,.imm [.int .i64 5,.int .i64 x1,.int .i64 x2,.int .i64 x3,.int .i64 v1,.int .i64 v2,.str v3,.lst (Expr.ps [a,b]),.lst (Rel.ps r)] 0] [.bool (sameE b (numE n))]:=fun x1 x2 x3 v1 v2 n v3 r=>c228_1 _ _ _ _ _ _ _ a b _ n wb
 clear ha hb wa wb
 have msk:Msk 74958189169331600858116 75557863725914323409924:=⟨⟩
 refine CallP.of_bodyN 76 cfg_ok Tryz.func146 rfl rfl (by kernel_rfl) fun base=>?_;simp only [mkA,Nat.reduceAdd]
 refine wpA_ok 0 rfl fun ok0=>?_
 refine wpA_ok 1 rfl fun ok1=>?_
 exact (have hnd:AndN:=⟨⟩;walkX trivial trivial)⟩
theorem v146_6 (a b:Expr) (hab:e.args=[a,b]) (ho:e.op=6) (ka kb:Int) (ha:Has cols a ka) (hb:Has cols b kb):Cal 146 [L cols,e.p] [(if sameE b (numE 0) && !nullE cols a || sameE a (numE 0) && !nullE cols b then (numE 0,true) else if sameE b (numE 1) then (a,true) else if sameE a (numE 1) then (b,true) else (e,false)).1.p,.bool (if sameE b (numE 0) && !nullE cols a || sameE a (numE 0) && !nullE cols b then (numE 0,true) else if sameE b (numE 1) then (a,true) else if sameE a (numE 1) then (b,true) else (e,false)).2]:=⟨by
 have fz0:FZ 11 6:=⟨⟩
 have het:Expr.mk 6 e.n e.m e.kind e.lit [a,b] e.rels=e:=by rw [← hab,← ho];exact expr_eta e
 haveI:=cal231 a cols _ ha
 haveI:=cal231 b cols _ hb
 have wa:=ha.wf
 have wb:=hb.wf
 haveI:∀ (x1 x2 x3 v1 v2 n:Int) (v3:ByteArray) (r:List Rel),Cal 228 [.int .i64 0,.int .i64 n,.imm [.int .i64 6,.int .i64 x1,.int .i64 x2,.int .i64 x3,.int .i64 v1,.int .i64 v2,.str v3,.lst (Expr.ps [a,b]),.lst (Rel.ps r)] 0] [.bool (sameE a (numE n))]:=fun x1 x2 x3 v1 v2 n v3 r=>c228_0 _ _ _ _ _ _ _ a b _ n wa
 haveI:∀ (x1 x2 x3 v1 v2 n:Int) (v3:ByteArray) (r:List Rel),Cal 228 [.int .i64 1,.int .i64 n,.imm [.int .i64 6,.int .i64 x1,.int .i64 x2,.int .i64 x3,.int .i64 v1,.int .i64 v2,.str v3,.lst (Expr.ps [a,b]),.lst (Rel.ps r)] 0] [.bool (sameE b (numE n))]:=fun x1 x2 x3 v1 v2 n v3 r=>c228_1 _ _ _ _ _ _ _ a b _ n wb
 clear ha hb wa wb
 have msk:Msk 74958189169331600858116 75557863725914323409924:=⟨⟩
 refine CallP.of_bodyN 76 cfg_ok Tryz.func146 rfl rfl (by kernel_rfl) fun base=>?_;simp only [mkA,Nat.reduceAdd]
 refine wpA_ok 0 rfl fun ok0=>?_
 refine wpA_ok 1 rfl fun ok1=>?_
 exact (have hnd:AndN:=⟨⟩;walkX trivial trivial)⟩
theorem v146_7 (a b:Expr) (hab:e.args=[a,b]) (ho:e.op=7) (ka kb:Int) (ha:Has cols a ka) (hb:Has cols b kb):Cal 146 [L cols,e.p] [(if sameE b (numE 1) then (a,true) else (e,false)).1.p,.bool (if sameE b (numE 1) then (a,true) else (e,false)).2]:=⟨by
 have fz0:FZ 11 6:=⟨⟩
 have het:Expr.mk 7 e.n e.m e.kind e.lit [a,b] e.rels=e:=by rw [← hab,← ho];exact expr_eta e
 haveI:=cal231 a cols _ ha
 haveI:=cal231 b cols _ hb
 have wa:=ha.wf
 have wb:=hb.wf
 haveI:∀ (x1 x2 x3 v1 v2 n:Int) (v3:ByteArray) (r:List Rel),Cal 228 [.int .i64 0,.int .i64 n,.imm [.int .i64 7,.int .i64 x1,.int .i64 x2,.int .i64 x3,.int .i64 v1,.int .i64 v2,.str v3,.lst (Expr.ps [a,b]),.lst (Rel.ps r)] 0] [.bool (sameE a (numE n))]:=fun x1 x2 x3 v1 v2 n v3 r=>c228_0 _ _ _ _ _ _ _ a b _ n wa
 haveI:∀ (x1 x2 x3 v1 v2 n:Int) (v3:ByteArray) (r:List Rel),Cal 228 [.int .i64 1,.int .i64 n,.imm [.int .i64 7,.int .i64 x1,.int .i64 x2,.int .i64 x3,.int .i64 v1,.int .i64 v2,.str v3,.lst (Expr.ps [a,b]),.lst (Rel.ps r)] 0] [.bool (sameE b (numE n))]:=fun x1 x2 x3 v1 v2 n v3 r=>c228_1 _ _ _ _ _ _ _ a b _ n wb
 clear ha hb wa wb
 have msk:Msk 74958189169331600858116 75557863725914323409924:=⟨⟩
 refine CallP.of_bodyN 76 cfg_ok Tryz.func146 rfl rfl (by kernel_rfl) fun base=>?_;simp only [mkA,Nat.reduceAdd]
 refine wpA_ok 0 rfl fun ok0=>?_
 refine wpA_ok 1 rfl fun ok1=>?_
 exact (have hnd:AndN:=⟨⟩;walkX trivial trivial)⟩
theorem v146_10 (a b:Expr) (hab:e.args=[a,b]) (ho:e.op=10) (ka kb:Int) (ha:Has cols a ka) (hb:Has cols b kb):Cal 146 [L cols,e.p] [(if sameE b emptyE then (a,true) else if sameE a emptyE then (b,true) else (e,false)).1.p,.bool (if sameE b emptyE then (a,true) else if sameE a emptyE then (b,true) else (e,false)).2]:=⟨by
 have fz0:FZ 11 6:=⟨⟩
 have het:Expr.mk 10 e.n e.m e.kind e.lit [a,b] e.rels=e:=by rw [← hab,← ho];exact expr_eta e
 haveI:=cal231 a cols _ ha
 haveI:=cal231 b cols _ hb
 have wa:=ha.wf
 have wb:=hb.wf
 haveI:∀ (x1 x2 x3 v1 v2:Int) (v3:ByteArray) (r:List Rel),Cal 230 [.int .i64 0,.imm [.int .i64 10,.int .i64 x1,.int .i64 x2,.int .i64 x3,.int .i64 v1,.int .i64 v2,.str v3,.lst (Expr.ps [a,b]),.lst (Rel.ps r)] 0] [.bool (sameE a emptyE)]:=fun x1 x2 x3 v1 v2 v3 r=>c230_0 _ _ _ _ _ _ _ a b _ wa
 haveI:∀ (x1 x2 x3 v1 v2:Int) (v3:ByteArray) (r:List Rel),Cal 230 [.int .i64 1,.imm [.int .i64 10,.int .i64 x1,.int .i64 x2,.int .i64 x3,.int .i64 v1,.int .i64 v2,.str v3,.lst (Expr.ps [a,b]),.lst (Rel.ps r)] 0] [.bool (sameE b emptyE)]:=fun x1 x2 x3 v1 v2 v3 r=>c230_1 _ _ _ _ _ _ _ a b _ wb
 clear ha hb wa wb
 have msk:Msk 74958189169331600858116 75557863725914323409924:=⟨⟩
 refine CallP.of_bodyN 76 cfg_ok Tryz.func146 rfl rfl (by kernel_rfl) fun base=>?_;simp only [mkA,Nat.reduceAdd]
 refine wpA_ok 0 rfl fun ok0=>?_
 refine wpA_ok 1 rfl fun ok1=>?_
 exact (have hnd:AndN:=⟨⟩;walkX trivial trivial)⟩
theorem v146_no (h4:¬ e.op=4) (h5:¬ e.op=5) (h6:¬ e.op=6) (h7:¬ e.op=7) (h10:¬ e.op=10):Cal 146 [L cols,e.p] [e.p,.bool false]:=⟨by
 have msk:Msk 74958189169331600858116 75557863725914323409924:=⟨⟩
 refine CallP.of_bodyN 76 cfg_ok Tryz.func146 rfl rfl (by kernel_rfl) fun base=>?_;simp only [mkA,Nat.reduceAdd]
 refine wpA_ok 0 rfl fun ok0=>?_
 refine wpA_ok 1 rfl fun ok1=>?_
 exact (have hnd:AndN:=⟨⟩;walkX trivial trivial)⟩
end
section
attribute [local simp] wl0 wl1 wl2 wl3 wl4 wl5 wl6 wl7 wl8 wl9 wl10 wl11 wl12 wl13 wl14 wl15 wl16 wl17 wl18 wl19 wl20
attribute [local simp high] evalOp_fieldP
attribute [local simp] ty140
attribute [local simp] fldV_p fldV_agg aggP_agg aggP_col aggP_val aggP_expr
attribute [local simp] nullW opE litE
variable (e:Expr) (cols:List Col) (k:Int) (h:Has cols e k)
include h
theorem v145 (hop:(decide (4 ≤ e.op) && decide (e.op ≤ 17))=true):Cal 145 [L cols,e.p] [(if e.args.any isNull then (litE k nullW,true) else (e,false)).1.p,.bool (if e.args.any isNull then (litE k nullW,true) else (e,false)).2]:=⟨by
 haveI:=cal222 e cols k h
 simp only [Bool.and_eq_true,decide_eq_true_eq] at hop
 obtain ⟨h1,h2⟩:=hop
 have msk:Msk 16515012 16777156:=⟨⟩
 refine CallP.of_bodyN 24 cfg_ok Tryz.func145 rfl rfl (by kernel_rfl) fun base=>?_;simp only [mkA,Nat.reduceAdd]
 refine wpA_ok 0 rfl fun ok0=>?_
 refine wpA_ok 1 rfl fun ok1=>?_
 exact walk⟩
theorem v145_no (hop:¬ (4 ≤ e.op∧e.op ≤ 17)):Cal 145 [L cols,e.p] [e.p,.bool false]:=⟨by
 have hb:(decide (4 ≤ e.op) && decide (e.op ≤ 17))=false:=by simp only [Bool.and_eq_false_iff,decide_eq_false_iff_not];omega
 haveI:=cal222 e cols k h
 clear hop
 have msk:Msk 16515012 16777156:=⟨⟩
 refine CallP.of_bodyN 24 cfg_ok Tryz.func145 rfl rfl (by kernel_rfl) fun base=>?_;simp only [mkA,Nat.reduceAdd]
 refine wpA_ok 0 rfl fun ok0=>?_
 refine wpA_ok 1 rfl fun ok1=>?_
 exact walk⟩
omit h
theorem v147_no (ho:opposite e.op=0):Cal 147 [L cols,e.p] [e.p,.bool false]:=⟨by
 match hab:e.args with
 | []=>
  have het:Expr.mk e.op e.n e.m e.kind e.lit ([]) e.rels=e:=by rw [← hab];exact expr_eta e
  have msk:Msk 562858114940804 562949416550276:=⟨⟩
  refine CallP.of_bodyN 49 cfg_ok Tryz.func147 rfl rfl (by kernel_rfl) fun base=>?_;simp only [mkA,Nat.reduceAdd]
  refine wpA_ok 0 rfl fun ok0=>?_
  refine wpA_ok 1 rfl fun ok1=>?_
  exact walk
 | [a]=>
  have het:Expr.mk e.op e.n e.m e.kind e.lit ([a]) e.rels=e:=by rw [← hab];exact expr_eta e
  have msk:Msk 562858114940804 562949416550276:=⟨⟩
  refine CallP.of_bodyN 49 cfg_ok Tryz.func147 rfl rfl (by kernel_rfl) fun base=>?_;simp only [mkA,Nat.reduceAdd]
  refine wpA_ok 0 rfl fun ok0=>?_
  refine wpA_ok 1 rfl fun ok1=>?_
  exact walk
 | a :: b :: r=>
  have het:Expr.mk e.op e.n e.m e.kind e.lit (a :: b :: r) e.rels=e:=by rw [← hab];exact expr_eta e
  have msk:Msk 562858114940804 562949416550276:=⟨⟩
  refine CallP.of_bodyN 49 cfg_ok Tryz.func147 rfl rfl (by kernel_rfl) fun base=>?_;simp only [mkA,Nat.reduceAdd]
  refine wpA_ok 0 rfl fun ok0=>?_
  refine wpA_ok 1 rfl fun ok1=>?_
  exact walk⟩
theorem v147_cmp (a b:Expr) (hab:e.args=[a,b]) (ho:(opposite e.op == 0)=false):Cal 147 [L cols,e.p] [(if !isLit a || isLit b then (e,false) else (opE (exchanged e.op) [b,a],true)).1.p,.bool (if !isLit a || isLit b then (e,false) else (opE (exchanged e.op) [b,a],true)).2]:=⟨by
 have het:Expr.mk e.op e.n e.m e.kind e.lit [a,b] e.rels=e:=by rw [← hab];exact expr_eta e
 have hoo:¬ opposite e.op=0:=by simpa using ho
 by_cases h1:(!isLit a || isLit b)=true
 ·rw [if_pos h1]
  have msk:Msk 562858114940804 562949416550276:=⟨⟩
  refine CallP.of_bodyN 49 cfg_ok Tryz.func147 rfl rfl (by kernel_rfl) fun base=>?_;simp only [mkA,Nat.reduceAdd]
  refine wpA_ok 0 rfl fun ok0=>?_
  refine wpA_ok 1 rfl fun ok1=>?_
  exact walk
 ·rw [if_neg h1]
  simp only [Bool.or_eq_true,Bool.not_eq_true',not_or,Bool.not_eq_false,Bool.not_eq_true] at h1
  obtain ⟨h1,h2⟩:=h1
  simp only [exchanged]
  have msk:Msk 562858114940804 562949416550276:=⟨⟩
  refine CallP.of_bodyN 49 cfg_ok Tryz.func147 rfl rfl (by kernel_rfl) fun base=>?_;simp only [mkA,Nat.reduceAdd]
  refine wpA_ok 0 rfl fun ok0=>?_
  refine wpA_ok 1 rfl fun ok1=>?_
  exact walk⟩
theorem v148_no (ho:¬ e.op=12):Cal 148 [L cols,e.p] [e.p,.bool false]:=⟨by
 have msk:Msk 8588884868 8589934532:=⟨⟩
 refine CallP.of_bodyN 33 cfg_ok Tryz.func148 rfl rfl (by kernel_rfl) fun base=>?_;simp only [mkA,Nat.reduceAdd]
 refine wpA_ok 0 rfl fun ok0=>?_
 refine wpA_ok 1 rfl fun ok1=>?_
 exact walk⟩
theorem v148_eq (a b:Expr) (hab:e.args=[a,b]) (ho:e.op=12):Cal 148 [L cols,e.p] [(if isTrue b then (a,true) else if isFalse b then (opE 21 [a],true) else (e,false)).1.p,.bool (if isTrue b then (a,true) else if isFalse b then (opE 21 [a],true) else (e,false)).2]:=⟨by
 have het:Expr.mk 12 e.n e.m e.kind e.lit [a,b] e.rels=e:=by rw [← hab,← ho];exact expr_eta e
 have msk:Msk 8588884868 8589934532:=⟨⟩
 refine CallP.of_bodyN 33 cfg_ok Tryz.func148 rfl rfl (by kernel_rfl) fun base=>?_;simp only [mkA,Nat.reduceAdd]
 refine wpA_ok 0 rfl fun ok0=>?_
 refine wpA_ok 1 rfl fun ok1=>?_
 exact walk⟩
end
section
attribute [local simp] wl0 wl1 wl2 wl3 wl4 wl5 wl6 wl7 wl8 wl9 wl10 wl11 wl12 wl13 wl14 wl15 wl16 wl17 wl18 wl19 wl20
attribute [local simp high] evalOp_fieldP
attribute [local simp] ty140
attribute [local simp] fldV_p fldV_agg aggP_agg aggP_col aggP_val aggP_expr
attribute [local simp] nullW opE litE
variable (e:Expr) (cols:List Col) (k:Int) (h:Has cols e k)
theorem v149_no (ho:opposite e.op=0):Cal 149 [L cols,e.p] [e.p,.bool false]:=⟨by
 match hab:e.args with
 | []=>
  have het:Expr.mk e.op e.n e.m e.kind e.lit ([]) e.rels=e:=by rw [← hab];exact expr_eta e
  have msk:Msk 70367670435780 70368744177604:=⟨⟩
  refine CallP.of_bodyN 46 cfg_ok Tryz.func149 rfl rfl (by kernel_rfl) fun base=>?_;simp only [mkA,Nat.reduceAdd]
  refine wpA_ok 0 rfl fun ok0=>?_
  refine wpA_ok 1 rfl fun ok1=>?_
  exact (have hnd:AndN:=⟨⟩;walkX trivial trivial)
 | [a]=>
  have het:Expr.mk e.op e.n e.m e.kind e.lit ([a]) e.rels=e:=by rw [← hab];exact expr_eta e
  have msk:Msk 70367670435780 70368744177604:=⟨⟩
  refine CallP.of_bodyN 46 cfg_ok Tryz.func149 rfl rfl (by kernel_rfl) fun base=>?_;simp only [mkA,Nat.reduceAdd]
  refine wpA_ok 0 rfl fun ok0=>?_
  refine wpA_ok 1 rfl fun ok1=>?_
  exact (have hnd:AndN:=⟨⟩;walkX trivial trivial)
 | a :: b :: r=>
  have het:Expr.mk e.op e.n e.m e.kind e.lit (a :: b :: r) e.rels=e:=by rw [← hab];exact expr_eta e
  have msk:Msk 70367670435780 70368744177604:=⟨⟩
  refine CallP.of_bodyN 46 cfg_ok Tryz.func149 rfl rfl (by kernel_rfl) fun base=>?_;simp only [mkA,Nat.reduceAdd]
  refine wpA_ok 0 rfl fun ok0=>?_
  refine wpA_ok 1 rfl fun ok1=>?_
  exact (have hnd:AndN:=⟨⟩;walkX trivial trivial)⟩
include h
theorem v149_cmp (a b:Expr) (hab:e.args=[a,b]) (ho:(opposite e.op == 0)=false):Cal 149 [L cols,e.p] [(if sameE a b && !nullE cols a then (truthE (e.op == 12 || e.op == 15 || e.op == 17),true) else (e,false)).1.p,.bool (if sameE a b && !nullE cols a then (truthE (e.op == 12 || e.op == 15 || e.op == 17),true) else (e,false)).2]:=⟨by
 have het:Expr.mk e.op e.n e.m e.kind e.lit [a,b] e.rels=e:=by rw [← hab];exact expr_eta e
 have hoo:¬ opposite e.op=0:=by simpa using ho
 have ha:=arg_has h (a:=a) (by simp [hab])
 have hb:=arg_has h (a:=b) (by simp [hab])
 haveI:=cal163 a b ha.wf hb.wf
 haveI:=cal231 a cols _ ha
 clear ha hb h
 have msk:Msk 70367670435780 70368744177604:=⟨⟩
 refine CallP.of_bodyN 46 cfg_ok Tryz.func149 rfl rfl (by kernel_rfl) fun base=>?_;simp only [mkA,Nat.reduceAdd]
 refine wpA_ok 0 rfl fun ok0=>?_
 refine wpA_ok 1 rfl fun ok1=>?_
 exact (have hnd:AndN:=⟨⟩;walkX trivial trivial)⟩
omit h
theorem v150_no (h1:¬ e.op=22) (h2:¬ e.op=23):Cal 150 [L cols,e.p] [e.p,.bool false]:=⟨by
 have b1:(e.op == 22)=false:=by simpa using h1
 have b2:(e.op == 23)=false:=by simpa using h2
 match hab:e.args with
 | []=>
  have het:Expr.mk e.op e.n e.m e.kind e.lit ([]) e.rels=e:=by rw [← hab];exact expr_eta e
  have msk:Msk 68718952324 68719476676:=⟨⟩
  refine CallP.of_bodyN 36 cfg_ok Tryz.func150 rfl rfl (by kernel_rfl) fun base=>?_;simp only [mkA,Nat.reduceAdd]
  refine wpA_ok 0 rfl fun ok0=>?_
  refine wpA_ok 1 rfl fun ok1=>?_
  exact (have hnd:AndN:=⟨⟩;walkX trivial trivial)
 | [a]=>
  have het:Expr.mk e.op e.n e.m e.kind e.lit ([a]) e.rels=e:=by rw [← hab];exact expr_eta e
  have msk:Msk 68718952324 68719476676:=⟨⟩
  refine CallP.of_bodyN 36 cfg_ok Tryz.func150 rfl rfl (by kernel_rfl) fun base=>?_;simp only [mkA,Nat.reduceAdd]
  refine wpA_ok 0 rfl fun ok0=>?_
  refine wpA_ok 1 rfl fun ok1=>?_
  exact (have hnd:AndN:=⟨⟩;walkX trivial trivial)
 | a :: b :: r=>
  have het:Expr.mk e.op e.n e.m e.kind e.lit (a :: b :: r) e.rels=e:=by rw [← hab];exact expr_eta e
  have msk:Msk 68718952324 68719476676:=⟨⟩
  refine CallP.of_bodyN 36 cfg_ok Tryz.func150 rfl rfl (by kernel_rfl) fun base=>?_;simp only [mkA,Nat.reduceAdd]
  refine wpA_ok 0 rfl fun ok0=>?_
  refine wpA_ok 1 rfl fun ok1=>?_
  exact (have hnd:AndN:=⟨⟩;walkX trivial trivial)⟩
include h
theorem v150_22 (a:Expr) (hab:e.args=[a]) (ho:e.op=22):Cal 150 [L cols,e.p] [(if !nullE cols a then (truthE false,true) else (e,false)).1.p,.bool (if !nullE cols a then (truthE false,true) else (e,false)).2]:=⟨by
 have het:Expr.mk 22 e.n e.m e.kind e.lit [a] e.rels=e:=by rw [← hab,← ho];exact expr_eta e
 have ha:=arg_has h (a:=a) (by simp [hab])
 haveI:=cal231 a cols _ ha
 clear ha h
 have msk:Msk 68718952324 68719476676:=⟨⟩
 refine CallP.of_bodyN 36 cfg_ok Tryz.func150 rfl rfl (by kernel_rfl) fun base=>?_;simp only [mkA,Nat.reduceAdd]
 refine wpA_ok 0 rfl fun ok0=>?_
 refine wpA_ok 1 rfl fun ok1=>?_
 exact (have hnd:AndN:=⟨⟩;walkX trivial trivial)⟩
theorem v150_23 (a:Expr) (hab:e.args=[a]) (ho:e.op=23):Cal 150 [L cols,e.p] [(if !nullE cols a then (a,true) else (e,false)).1.p,.bool (if !nullE cols a then (a,true) else (e,false)).2]:=⟨by
 have het:Expr.mk 23 e.n e.m e.kind e.lit [a] e.rels=e:=by rw [← hab,← ho];exact expr_eta e
 have ha:=arg_has h (a:=a) (by simp [hab])
 haveI:=cal231 a cols _ ha
 clear ha h
 have msk:Msk 68718952324 68719476676:=⟨⟩
 refine CallP.of_bodyN 36 cfg_ok Tryz.func150 rfl rfl (by kernel_rfl) fun base=>?_;simp only [mkA,Nat.reduceAdd]
 refine wpA_ok 0 rfl fun ok0=>?_
 refine wpA_ok 1 rfl fun ok1=>?_
 exact (have hnd:AndN:=⟨⟩;walkX trivial trivial)⟩
omit h
theorem v151_no (h1:¬ e.op=18):Cal 151 [L cols,e.p] [e.p,.bool false]:=⟨by
 have msk:Msk 2251660192643844 2251799813684996:=⟨⟩
 refine CallP.of_bodyN 51 cfg_ok Tryz.func151 rfl rfl (by kernel_rfl) fun base=>?_;simp only [mkA,Nat.reduceAdd]
 refine wpA_ok 0 rfl fun ok0=>?_
 refine wpA_ok 1 rfl fun ok1=>?_
 exact (have hnd:AndN:=⟨⟩;walkX trivial trivial)⟩
include h
theorem v151_18 (a b:Expr) (hab:e.args=[a,b]) (ho:e.op=18):Cal 151 [L cols,e.p] [(if sameE a b then (truthE true,true) else if isNull a then (opE 22 [b],true) else if isNull b then (opE 22 [a],true) else if !nullE cols a && !nullE cols b then (opE 12 [a,b],true) else (e,false)).1.p,.bool (if sameE a b then (truthE true,true) else if isNull a then (opE 22 [b],true) else if isNull b then (opE 22 [a],true) else if !nullE cols a && !nullE cols b then (opE 12 [a,b],true) else (e,false)).2]:=⟨by
 have het:Expr.mk 18 e.n e.m e.kind e.lit [a,b] e.rels=e:=by rw [← hab,← ho];exact expr_eta e
 have ha:=arg_has h (a:=a) (by simp [hab])
 have hb:=arg_has h (a:=b) (by simp [hab])
 haveI:=cal163 a b ha.wf hb.wf
 haveI:=cal231 a cols _ ha
 haveI:=cal231 b cols _ hb
 clear ha hb h
 have msk:Msk 2251660192643844 2251799813684996:=⟨⟩
 refine CallP.of_bodyN 51 cfg_ok Tryz.func151 rfl rfl (by kernel_rfl) fun base=>?_;simp only [mkA,Nat.reduceAdd]
 refine wpA_ok 0 rfl fun ok0=>?_
 refine wpA_ok 1 rfl fun ok1=>?_
 exact (have hnd:AndN:=⟨⟩;walkX trivial trivial)⟩
end
section
attribute [local simp] wl0 wl1 wl2 wl3 wl4 wl5 wl6 wl7 wl8 wl9 wl10 wl11 wl12 wl13 wl14 wl15 wl16 wl17 wl18 wl19 wl20
attribute [local simp high] evalOp_fieldP
attribute [local simp] ty140
attribute [local simp] fldV_p fldV_agg aggP_agg aggP_col aggP_val aggP_expr
attribute [local simp] nullW opE litE
variable (e:Expr) (cols:List Col)
theorem v144_no (ho:¬ e.op=21):Cal 144 [L cols,e.p] [e.p,.bool false]:=⟨by
 have msk:Msk 73784865095006547204 73785991132419718404:=⟨⟩
 refine CallP.of_bodyN 66 cfg_ok Tryz.func144 rfl rfl (by kernel_rfl) fun base=>?_;simp only [mkA,Nat.reduceAdd]
 refine wpA_ok 0 rfl fun ok0=>?_
 refine wpA_ok 1 rfl fun ok1=>?_
 exact walk⟩
variable (a:Expr) (hab:e.args=[a]) (ho:e.op=21)
include hab ho
theorem v144_21 (x:Expr) (hx:a.args=[x]) (h:a.op=21):Cal 144 [L cols,e.p] [x.p,.bool true]:=⟨by
 have msk:Msk 73784865095006547204 73785991132419718404:=⟨⟩
 refine CallP.of_bodyN 66 cfg_ok Tryz.func144 rfl rfl (by kernel_rfl) fun base=>?_;simp only [mkA,Nat.reduceAdd]
 refine wpA_ok 0 rfl fun ok0=>?_
 refine wpA_ok 1 rfl fun ok1=>?_
 exact walk⟩
theorem v144_12 (h:(opposite a.op == 0)=false) (h21:¬ a.op=21):Cal 144 [L cols,e.p] [(opE (opposite a.op) a.args).p,.bool true]:=⟨by
 have hoo:¬ opposite a.op=0:=by simpa using h
 have msk:Msk 73784865095006547204 73785991132419718404:=⟨⟩
 refine CallP.of_bodyN 66 cfg_ok Tryz.func144 rfl rfl (by kernel_rfl) fun base=>?_;simp only [mkA,Nat.reduceAdd]
 refine wpA_ok 0 rfl fun ok0=>?_
 refine wpA_ok 1 rfl fun ok1=>?_
 exact walk⟩
attribute [local simp] mapA in
theorem v144_19 (hwa:wf a=true) (h:a.op=19 ∨ a.op=20) (h0:opposite a.op=0):Cal 144 [L cols,e.p] [(opE (39 - a.op) (a.args.map notL)).p,.bool true]:=⟨by
 have h1:¬ a.op=21:=by omega
 have hw:IntKind.wrap .i64 (39 - a.op)=39 - a.op:=by rcases h with h | h <;> rw [h] <;> rfl
 rw [map_mapA]
 generalize hk:39 - a.op=k at hw
 have hno:∀ x,opE 21 [x]=notL x:=fun _=>rfl
 have hno2:∀ x,Expr.mk 21 0 0 0 ⟨0,0,⟨#[]⟩⟩ [x] []=notL x:=fun _=>rfl
 rw [show opE k (mapA notL [] a.args) = .mk k 0 0 0 ⟨0,0,⟨#[]⟩⟩ (mapA notL [] a.args) [] from rfl]
 have hl:a.args.length ≤ 4294967296:=by have:=wf_len hwa;omega
 have hr:∀ i,i < a.args.length→roomFor (i + 1) 112=true:=fun i _=>roomFor_of (by omega) (by decide)
 have msk:Msk 73784865095006547204 73785991132419718404:=⟨⟩
 refine CallP.of_bodyN 66 cfg_ok Tryz.func144 rfl rfl (by kernel_rfl) fun base=>?_;simp only [mkA,Nat.reduceAdd]
 refine wpA_ok 0 rfl fun ok0=>?_
 refine wpA_ok 1 rfl fun ok1=>?_
 have ld0:LD (σ:=Nat × List Expr) 1 1152358554653426304 [9,55,57] (fun y_=>(fun i acc=>[(49,.p (.int .i64 i)),(7,.own 58 i)]) y_.1 y_.2) (fun y_=>(fun i acc=>[(58,.arr 9 (Expr.ps acc) false)]) y_.1 y_.2) (fun y_=>(fun i acc=>InvL (i ≤ (a.args).length) (acc.length=i) (mapA notL acc (a.args.drop i)=mapA notL [] a.args)) y_.1 y_.2) (fun y_=>(fun i acc=>(a.args).length - i) y_.1 y_.2) ((0,[])) [58] (fun y_=>(fun i acc=>i < (a.args).length) y_.1 y_.2) (fun y_ (h:(fun i acc=>i < (a.args).length) y_.1 y_.2)=>(fun i acc (h:i < (a.args).length)=>(i + 1,acc ++ [notL a.args[i]])) y_.1 y_.2 h) (fun y_ (h:(fun i acc=>i < (a.args).length) y_.1 y_.2)=>(fun i acc (h:i < (a.args).length)=>(i + 1,acc ++ [notL a.args[i]])) y_.1 y_.2 h):=⟨⟩
 exact walk⟩
theorem v144_else (h21:¬ a.op=21) (h19:¬ a.op=19) (h20:¬ a.op=20) (h0:opposite a.op=0):Cal 144 [L cols,e.p] [e.p,.bool false]:=⟨by
 have het:Expr.mk 21 e.n e.m e.kind e.lit [a] e.rels=e:=by rw [← hab,← ho];exact expr_eta e
 have msk:Msk 73784865095006547204 73785991132419718404:=⟨⟩
 refine CallP.of_bodyN 66 cfg_ok Tryz.func144 rfl rfl (by kernel_rfl) fun base=>?_;simp only [mkA,Nat.reduceAdd]
 refine wpA_ok 0 rfl fun ok0=>?_
 refine wpA_ok 1 rfl fun ok1=>?_
 exact walk⟩
end
section
attribute [local simp] wl0 wl1 wl2 wl3 wl4 wl5 wl6 wl7 wl8 wl9 wl10 wl11 wl12 wl13 wl14 wl15 wl16 wl17 wl18 wl19 wl20
attribute [local simp high] evalOp_fieldP
attribute [local simp] ty140
attribute [local simp] fldV_p fldV_agg aggP_agg aggP_col aggP_val aggP_expr
attribute [local simp] Tryz.f206 in
instance call206 (a b:Int):Cal 206 [.int .i64 a,.int .i64 b] [.int .i64 (w64 (a + b))]:=⟨by
 have msk:Msk 236 236:=⟨⟩
 refine CallP.of_bodyN 8 cfg_ok Tryz.func206 rfl rfl (by kernel_rfl) fun base=>?_;simp only [mkA,Nat.reduceAdd]
 exact walk⟩
attribute [local simp] Tryz.f207 in
instance call207 (a b:Int):Cal 207 [.int .i64 a,.int .i64 b] [.int .i64 (w64 (a - b))]:=⟨by
 have msk:Msk 236 236:=⟨⟩
 refine CallP.of_bodyN 8 cfg_ok Tryz.func207 rfl rfl (by kernel_rfl) fun base=>?_;simp only [mkA,Nat.reduceAdd]
 exact walk⟩
attribute [local simp] Tryz.f208 in
instance call208 (a b:Int):Cal 208 [.int .i64 a,.int .i64 b] [.int .i64 (w64 (a * b))]:=⟨by
 have msk:Msk 236 236:=⟨⟩
 refine CallP.of_bodyN 8 cfg_ok Tryz.func208 rfl rfl (by kernel_rfl) fun base=>?_;simp only [mkA,Nat.reduceAdd]
 exact walk⟩
theorem cal209 (a b:Int) (hb:¬ b=0):Cal 209 [.int .i64 a,.int .i64 b] [.int .i64 (w64 (a.tdiv b))]:=⟨by
 have msk:Msk 236 236:=⟨⟩
 refine CallP.of_bodyN 8 cfg_ok Tryz.func209 rfl rfl (by kernel_rfl) fun base=>?_;simp only [mkA,Nat.reduceAdd]
 refine wpA_ok 0 rfl fun ok0=>?_
 refine wpA_ok 1 rfl fun ok1=>?_
 exact walk⟩
theorem cal210 (a b:Int) (hb:¬ b=0):Cal 210 [.int .i64 a,.int .i64 b] [.int .i64 (a.tmod b)]:=⟨by
 have msk:Msk 236 236:=⟨⟩
 refine CallP.of_bodyN 8 cfg_ok Tryz.func210 rfl rfl (by kernel_rfl) fun base=>?_;simp only [mkA,Nat.reduceAdd]
 refine wpA_ok 0 rfl fun ok0=>?_
 refine wpA_ok 1 rfl fun ok1=>?_
 exact walk⟩
attribute [local simp] Tryz.f214 in
instance call214 (c:Int):Cal 214 [.int .i64 c] [.bool (c == 0)]:=⟨by
 have msk:Msk 26 26:=⟨⟩
 refine CallP.of_bodyN 5 cfg_ok Tryz.func214 rfl rfl (by kernel_rfl) fun base=>?_;simp only [mkA,Nat.reduceAdd]
 exact walk⟩
attribute [local simp] Tryz.f215 in
instance call215 (c:Int):Cal 215 [.int .i64 c] [.bool (!(c == 0))]:=⟨by
 have msk:Msk 26 26:=⟨⟩
 refine CallP.of_bodyN 5 cfg_ok Tryz.func215 rfl rfl (by kernel_rfl) fun base=>?_;simp only [mkA,Nat.reduceAdd]
 exact walk⟩
attribute [local simp] Tryz.f216 in
instance call216 (c:Int):Cal 216 [.int .i64 c] [.bool (decide (c < 0))]:=⟨by
 have msk:Msk 26 26:=⟨⟩
 refine CallP.of_bodyN 5 cfg_ok Tryz.func216 rfl rfl (by kernel_rfl) fun base=>?_;simp only [mkA,Nat.reduceAdd]
 exact walk⟩
attribute [local simp] Tryz.f217 in
instance call217 (c:Int):Cal 217 [.int .i64 c] [.bool (decide (c ≤ 0))]:=⟨by
 have msk:Msk 26 26:=⟨⟩
 refine CallP.of_bodyN 5 cfg_ok Tryz.func217 rfl rfl (by kernel_rfl) fun base=>?_;simp only [mkA,Nat.reduceAdd]
 exact walk⟩
attribute [local simp] Tryz.f218 in
instance call218 (c:Int):Cal 218 [.int .i64 c] [.bool (decide (c > 0))]:=⟨by
 have msk:Msk 26 26:=⟨⟩
 refine CallP.of_bodyN 5 cfg_ok Tryz.func218 rfl rfl (by kernel_rfl) fun base=>?_;simp only [mkA,Nat.reduceAdd]
 exact walk⟩
attribute [local simp] Tryz.f219 in
instance call219 (c:Int):Cal 219 [.int .i64 c] [.bool (decide (c ≥ 0))]:=⟨by
 have msk:Msk 26 26:=⟨⟩
 refine CallP.of_bodyN 5 cfg_ok Tryz.func219 rfl rfl (by kernel_rfl) fun base=>?_;simp only [mkA,Nat.reduceAdd]
 exact walk⟩
attribute [local simp] Tryz.f211 in
instance call211 (x:Val):Cal 211 [.lst (Val.ps [x])] [(intW (w64 (0 - x.int))).p]:=⟨by
 have msk:Msk 506 506:=⟨⟩
 refine CallP.of_bodyN 9 cfg_ok Tryz.func211 rfl rfl (by kernel_rfl) fun base=>?_;simp only [mkA,Nat.reduceAdd]
 exact walk⟩
attribute [local simp] Tryz.f213 in
instance call213 (x:Val):Cal 213 [.lst (Val.ps [x])] [(intW x.text.size).p]:=⟨by
 have msk:Msk 506 506:=⟨⟩
 refine CallP.of_bodyN 9 cfg_ok Tryz.func213 rfl rfl (by kernel_rfl) fun base=>?_;simp only [mkA,Nat.reduceAdd]
 exact walk⟩
attribute [local simp] Tryz.f264 in
instance call264 (x y:Val):Cal 264 [.lst (Val.ps [x,y])] [(boolW (x == y)).p]:=⟨by
 have msk:Msk 2042 2042:=⟨⟩
 refine CallP.of_bodyN 11 cfg_ok Tryz.func264 rfl rfl (by kernel_rfl) fun base=>?_;simp only [mkA,Nat.reduceAdd]
 exact walk⟩
attribute [local simp] Tryz.f269 in
instance call269 (x:Val):Cal 269 [.lst (Val.ps [x])] [(notV x).p]:=⟨by
 have msk:Msk 122 122:=⟨⟩
 refine CallP.of_bodyN 7 cfg_ok Tryz.func269 rfl rfl (by kernel_rfl) fun base=>?_;simp only [mkA,Nat.reduceAdd]
 exact walk⟩
attribute [local simp] Tryz.f271 in
instance call271 (x:Val):Cal 271 [.lst (Val.ps [x])] [(boolW (x.kind == 0)).p]:=⟨by
 have msk:Msk 506 506:=⟨⟩
 refine CallP.of_bodyN 9 cfg_ok Tryz.func271 rfl rfl (by kernel_rfl) fun base=>?_;simp only [mkA,Nat.reduceAdd]
 exact walk⟩
attribute [local simp] Tryz.f272 in
instance call272 (x:Val):Cal 272 [.lst (Val.ps [x])] [(boolW (x == boolW true)).p]:=⟨by
 have msk:Msk 506 506:=⟨⟩
 refine CallP.of_bodyN 9 cfg_ok Tryz.func272 rfl rfl (by kernel_rfl) fun base=>?_;simp only [mkA,Nat.reduceAdd]
 exact walk⟩
def joinV (b:Val) (q:Val):List Val→Val
 | []=>q
 | v :: r=>if v == b then b else joinV b (if v.kind == 0 then nullW else q) r
attribute [local simp] joinV in
instance call310 (a b:Val) (l:List Val):Cal 310 [a.p,b.p,.lst (Val.ps l)] [(joinV b a l).p]:=⟨by
 have msk:Msk 532514080 536855840:=⟨⟩
 refine CallP.of_bodyN 29 cfg_ok Tryz.func310 rfl rfl (by kernel_rfl) fun base=>?_;simp only [mkA,Nat.reduceAdd]
 refine wpA_ok 0 rfl fun ok0=>?_
 refine wpA_ok 1 rfl fun ok1=>?_
 refine wpA_ok 2 rfl fun ok2=>?_
 have hl:=okP_vps ok2
 have ld0:LD (σ:=Nat × Val) 0 268427776 [9] (fun y_=>(fun i q=>[(13,.p (.int .i64 i))]) y_.1 y_.2) (fun y_=>(fun i q=>[(7,.cells [.p (.int .i64 q.kind),.p (.int .i64 q.int),.p (.str q.text)])]) y_.1 y_.2) (fun y_=>(fun i q=>InvL (i ≤ (l).length) (True) (joinV b q (l.drop i)=joinV b a l)) y_.1 y_.2) (fun y_=>(fun i q=>(l).length - i) y_.1 y_.2) ((0,a)) [] (fun y_=>(fun i q=>i < (l).length) y_.1 y_.2) (fun y_ (h:(fun i q=>i < (l).length) y_.1 y_.2)=>(fun i q (h:i < (l).length)=>(i + 1,nullW)) y_.1 y_.2 h) (fun y_ (h:(fun i q=>i < (l).length) y_.1 y_.2)=>(fun i q (h:i < (l).length)=>(i + 1,q)) y_.1 y_.2 h):=⟨⟩
 exact walk⟩
attribute [local simp] Tryz.f266 in
instance call266 (l:List Val):Cal 266 [.lst (Val.ps l)] [(joinV (boolW false) (boolW true) l).p]:=⟨by
 have msk:Msk 122 122:=⟨⟩
 refine CallP.of_bodyN 7 cfg_ok Tryz.func266 rfl rfl (by kernel_rfl) fun base=>?_;simp only [mkA,Nat.reduceAdd]
 exact walk⟩
attribute [local simp] Tryz.f268 in
instance call268 (l:List Val):Cal 268 [.lst (Val.ps l)] [(joinV (boolW true) (boolW false) l).p]:=⟨by
 have msk:Msk 122 122:=⟨⟩
 refine CallP.of_bodyN 7 cfg_ok Tryz.func268 rfl rfl (by kernel_rfl) fun base=>?_;simp only [mkA,Nat.reduceAdd]
 exact walk⟩
attribute [local simp] Tryz.f265 in
instance call265 (l:List Val):Cal 265 [.lst (Val.ps l)] [(joinV (boolW false) (boolW true) l).p]:=⟨by
 have msk:Msk 26 26:=⟨⟩
 refine CallP.of_bodyN 5 cfg_ok Tryz.func265 rfl rfl (by kernel_rfl) fun base=>?_;simp only [mkA,Nat.reduceAdd]
 exact walk⟩
attribute [local simp] Tryz.f267 in
instance call267 (l:List Val):Cal 267 [.lst (Val.ps l)] [(joinV (boolW true) (boolW false) l).p]:=⟨by
 have msk:Msk 26 26:=⟨⟩
 refine CallP.of_bodyN 5 cfg_ok Tryz.func267 rfl rfl (by kernel_rfl) fun base=>?_;simp only [mkA,Nat.reduceAdd]
 exact walk⟩
attribute [local simp] coalV in
instance call274 (l:List Val):Cal 274 [.lst (Val.ps l)] [(coalV l).p]:=⟨by
 have msk:Msk 122378 130826:=⟨⟩
 refine CallP.of_bodyN 17 cfg_ok Tryz.func274 rfl rfl (by kernel_rfl) fun base=>?_;simp only [mkA,Nat.reduceAdd]
 refine wpA_ok 0 rfl fun ok0=>?_
 have hl:=okP_vps ok0
 have ld0:LD (σ:=Nat) 0 65424 [4] (fun y_=>(fun i=>[(7,.p (.int .i64 i))]) y_) (fun y_=>(fun i=>[]) y_) (fun y_=>(fun i=>InvL (i ≤ (l).length) (True) (coalV (l.drop i)=coalV l)) y_) (fun y_=>(fun i=>(l).length - i) y_) (0) [] (fun y_=>(fun i=>i < (l).length) y_) (fun y_ (h:(fun i=>i < (l).length) y_)=>(fun i (h:i < (l).length)=>i + 1) y_ h) (fun y_ (h:(fun i=>i < (l).length) y_)=>(fun i (h:i < (l).length)=>i + 1) y_ h):=⟨⟩
 exact walk⟩
def nullOr (r:Val):List Val→Val
 | []=>r
 | v :: t=>if v.kind == 0 then v else nullOr r t
attribute [local simp] nullOr in
theorem hof197 (l:List Val) (r:Val) (g:FuncId) (cap:List P) [hf:Cal g (.lst (Val.ps l) :: cap) [r.p]]:Cal 197 [.lst (Val.ps l),.imm [.fn (.func g) [] cap] 0] [(nullOr r l).p]:=⟨by
 have msk:Msk 1031188 1048084:=⟨⟩
 refine CallP.of_bodyN 20 cfg_ok Tryz.func197 rfl rfl (by kernel_rfl) fun base=>?_;simp only [mkA,Nat.reduceAdd]
 refine wpA_ok 0 rfl fun ok0=>?_
 refine wpA_ok 1 rfl fun ok1=>?_
 have hl:=okP_vps ok0
 have ld0:LD (σ:=Nat) 0 130848 [5] (fun y_=>(fun i=>[(8,.p (.int .i64 i))]) y_) (fun y_=>(fun i=>[]) y_) (fun y_=>(fun i=>InvL (i ≤ (l).length) (True) (nullOr r (l.drop i)=nullOr r l)) y_) (fun y_=>(fun i=>(l).length - i) y_) (0) [] (fun y_=>(fun i=>i < (l).length) y_) (fun y_ (h:(fun i=>i < (l).length) y_)=>(fun i (h:i < (l).length)=>i + 1) y_ h) (fun y_ (h:(fun i=>i < (l).length) y_)=>(fun i (h:i < (l).length)=>i + 1) y_ h):=⟨⟩
 exact walk⟩
theorem hof199 (x y:Val) (g:FuncId) (q:Int→Int→Int) [hf:∀ a b,Cal g [.int .i64 a,.int .i64 b] [.int .i64 (q a b)]]:Cal 199 [.lst (Val.ps [x,y]),.imm [.fn (.func g) [] []] 0] [(intW (q x.int y.int)).p]:=⟨by
 have msk:Msk 32756 32756:=⟨⟩
 refine CallP.of_bodyN 15 cfg_ok Tryz.func199 rfl rfl (by kernel_rfl) fun base=>?_;simp only [mkA,Nat.reduceAdd]
 refine wpA_ok 0 rfl fun ok0=>?_
 refine wpA_ok 1 rfl fun ok1=>?_
 exact walk⟩
theorem hof202 (x y:Val) (g:FuncId) (q:Int→Bool) [hf:∀ c,Cal g [.int .i64 c] [.bool (q c)]]:Cal 202 [.lst (Val.ps [x,y]),.imm [.fn (.func g) [] []] 0] [(boolW (q (orderV x y))).p]:=⟨by
 have msk:Msk 16372 16372:=⟨⟩
 refine CallP.of_bodyN 14 cfg_ok Tryz.func202 rfl rfl (by kernel_rfl) fun base=>?_;simp only [mkA,Nat.reduceAdd]
 refine wpA_ok 0 rfl fun ok0=>?_
 refine wpA_ok 1 rfl fun ok1=>?_
 exact walk⟩
theorem hof205_0 (x y:Val) (g:FuncId) (hy:y.int=0):Cal 205 [.lst (Val.ps [x,y]),.imm [.fn (.func g) [] []] 0] [nullW.p]:=⟨by
 have msk:Msk 2096884 2097140:=⟨⟩
 refine CallP.of_bodyN 21 cfg_ok Tryz.func205 rfl rfl (by kernel_rfl) fun base=>?_;simp only [mkA,Nat.reduceAdd]
 refine wpA_ok 0 rfl fun ok0=>?_
 refine wpA_ok 1 rfl fun ok1=>?_
 exact walk⟩
theorem hof205_1 (x y:Val) (g:FuncId) (n:Int) (hy:¬ y.int=0) [hf:Cal g [.int .i64 x.int,.int .i64 y.int] [.int .i64 n]]:Cal 205 [.lst (Val.ps [x,y]),.imm [.fn (.func g) [] []] 0] [(intW n).p]:=⟨by
 have msk:Msk 2096884 2097140:=⟨⟩
 refine CallP.of_bodyN 21 cfg_ok Tryz.func205 rfl rfl (by kernel_rfl) fun base=>?_;simp only [mkA,Nat.reduceAdd]
 refine wpA_ok 0 rfl fun ok0=>?_
 refine wpA_ok 1 rfl fun ok1=>?_
 exact walk⟩
end
section
attribute [local simp] wl0 wl1 wl2 wl3 wl4 wl5 wl6 wl7 wl8 wl9 wl10 wl11 wl12 wl13 wl14 wl15 wl16 wl17 wl18 wl19 wl20
attribute [local simp high] evalOp_fieldP
attribute [local simp] ty140
attribute [local simp] fldV_p fldV_agg aggP_agg aggP_col aggP_val aggP_expr
theorem cal212 (x y:Val) (hx:x.text.size ≤ 200) (hy:y.text.size ≤ 200):Cal 212 [.lst (Val.ps [x,y])] [(textW (catText x.text y.text)).p]:=⟨by
 have hc:x.text.size + y.text.size ≤ 4294967296:=by omega
 by_cases hs:(x.text ++ y.text).size ≤ 200
 ·have e3:¬ ((200:Int) < ((x.text.size:Int) + (y.text.size:Int))):=by rw [ByteArray.size_append] at hs;omega
  have e4:(0:Int) ≤ (x.text.size:Int) + (y.text.size:Int):=by omega
  have e5:((x.text.size:Int) + (y.text.size:Int)).toNat=x.text.size + y.text.size:=by omega
  have e6:(x.text ++ y.text).extract 0 (x.text.size + y.text.size)=x.text ++ y.text:=by rw [← ByteArray.size_append];exact ByteArray.extract_zero_size
  simp only [catText,textW]
  have msk:Msk 524274 524274:=⟨⟩
  refine CallP.of_bodyN 19 cfg_ok Tryz.func212 rfl rfl (by kernel_rfl) fun base=>?_;simp only [mkA,Nat.reduceAdd]
  refine wpA_ok 0 rfl fun ok0=>?_
  exact walk
 ·have e3:((200:Int) < ((x.text.size:Int) + (y.text.size:Int))):=by rw [ByteArray.size_append] at hs;omega
  have e5:200 ≤ x.text.size + y.text.size:=by omega
  simp only [catText,textW]
  have msk:Msk 524274 524274:=⟨⟩
  refine CallP.of_bodyN 19 cfg_ok Tryz.func212 rfl rfl (by kernel_rfl) fun base=>?_;simp only [mkA,Nat.reduceAdd]
  refine wpA_ok 0 rfl fun ok0=>?_
  exact walk⟩
def caseTI (l:List Val) (i:Nat):Val:=
 if h:i + 1 < l.length then (if l[i] == boolW true then l[i + 1] else caseTI l (i + 2)) else lastV l
termination_by l.length - i
theorem caseTI_eq (l:List Val) (n:Nat) (hn:l.length=n + 1) (i:Nat):caseTI l i=if h:i < n then (if l[i]'(by omega) == boolW true then l[i + 1]'(by omega) else caseTI l (i + 2)) else lastV l:=by
 rw [caseTI]
 by_cases h:i < n
 ·rw [dif_pos (by omega),dif_pos h]
 ·rw [dif_neg (by omega),dif_neg h]
theorem cal273 (l:List Val) (n:Nat) (hn:l.length=n + 1):Cal 273 [.lst (Val.ps l)] [(caseTI l 0).p]:=⟨by
 have hlast:=lastV_get hn
 have hst0:Hid (∀ i:Nat,_):=⟨caseTI_eq l n hn⟩
 have msk:Msk 268369650 268435442:=⟨⟩
 refine CallP.of_bodyN 28 cfg_ok Tryz.func273 rfl rfl (by kernel_rfl) fun base=>?_;simp only [mkA,Nat.reduceAdd]
 refine wpA_ok 0 rfl fun ok0=>?_
 have hl:=okP_vps ok0
 have hw:IntKind.wrap .i64 ((n:Int) + 1 - 1)=(n:Int):=by rw [Int.add_sub_cancel];exact wrap_nat (by omega)
 have hw':IntKind.wrap .i64 (n:Int)=(n:Int):=wrap_nat (by omega)
 have b1:∀ i,i < n→i < n + 1:=fun i h=>by omega
 have b2:∀ i,i < n→i + 1 < n + 1:=fun i h=>by omega
 have b3:∀ i:Nat,i < n→IntKind.wrap .i64 ((i:Int) + 2)=(i:Int) + 2:=fun i h=>wrap_nat (n:=i + 2) (by omega)
 have b4:n < n + 1:=by omega
 have b5:∀ i:Nat,(0:Int) ≤ (i:Int) + 1:=fun i=>by omega
 have ld0:LD (σ:=Nat) 0 4194296 [] (fun y_=>(fun i=>[(3,.p (.int .i64 i))]) y_) (fun y_=>(fun i=>[]) y_) (fun y_=>(fun i=>InvL (i ≤ n + 1) (True) (caseTI l i=caseTI l 0)) y_) (fun y_=>(fun i=>n + 1 - i) y_) (0) [] (fun y_=>(fun i=>i < n) y_) (fun y_ (h:(fun i=>i < n) y_)=>(fun i (h:i < n)=>i + 2) y_ h) (fun y_ (h:(fun i=>i < n) y_)=>(fun i (h:i < n)=>i + 2) y_ h):=⟨⟩
 exact walk⟩
end
section
attribute [local simp] wl0 wl1 wl2 wl3 wl4 wl5 wl6 wl7 wl8 wl9 wl10 wl11 wl12 wl13 wl14 wl15 wl16 wl17 wl18 wl19 wl20
attribute [local simp high] evalOp_fieldP
attribute [local simp] ty140 ty135 ty137
attribute [local simp] fldV_p fldV_agg aggP_agg aggP_col aggP_val aggP_expr
attribute [local simp] runK_nil runK_cons goG_true goC_none goC_some goV_some goV_none goD_some goD_none
def doerP:P:=.agg [doP]
theorem doer_cells:P.cells doerP=[doP]:=rfl
theorem do_un:doP = .imap doKs doVs:=rfl
attribute [local simp] doer_cells
theorem evalOp_lookup (c:Cfg) (d:Nat) (t:TypeId) (m k:Operand) (ok:Bool) (S:St):evalOp c d (.lookup t m k ok) S=none:=rfl
attribute [local simp] evalOp_lookup
theorem cal223 (op:Int) (l:List Val) (r:Val) (j:Nat) (g:FuncId) (cap:List P) (hidx:idxP .i64 op doKs 0=some (some j)) (hv:doVs[j]? = some (.fn (.func g) [] cap)) (hi:isImp g=false) (hf:Cal g (.lst (Val.ps l) :: cap) [r.p]):Cal 223 [doerP,.int .i64 op,.lst (Val.ps l)] [r.p]:=⟨by
 have msk:Msk 8112 8112:=⟨⟩
 refine CallP.of_bodyN 13 cfg_ok Tryz.func223 rfl rfl (by kernel_rfl) fun base=>?_;simp only [mkA,Nat.reduceAdd]
 refine wpA_ok 0 rfl fun ok0=>?_
 refine wpA_ok 1 rfl fun ok1=>?_
 refine wpA_ok 2 rfl fun ok2=>?_
 refine wpA_seqK cfg_ok fun K hK=>?_
 simp -implicitDefEqProofs
 refine hK.out _ _ ?_
 refine wpA_seqK cfg_ok fun K hK=>?_
 simp -implicitDefEqProofs
 refine goX_intro (x_lookup (d:=10) (r:=(.p (.fn (.func g) [] cap),[(3,.cells [.p doP]),(6,.cells [.p (.int .i64 0),.p (.int .i64 0),.p (.str ⟨#[]⟩)])],[6,3])) cfg_ok rfl ?_) ?_
 ·simp -implicitDefEqProofs [evalM,do_un,entriesV,hidx,hv]
 rintro S' rfl
 refine runK_id ?_
 simp -implicitDefEqProofs [hi]
 refine goR_intro hf.out ?_
 refine runK_id ?_
 simp -implicitDefEqProofs
 refine hK.out _ _ ?_
 exact walk⟩
end
section
attribute [local simp] wl0 wl1 wl2 wl3 wl4 wl5 wl6 wl7 wl8 wl9 wl10 wl11 wl12 wl13 wl14 wl15 wl16 wl17 wl18 wl19 wl20
attribute [local simp high] evalOp_fieldP
attribute [local simp] ty135 ty137 ty221 ty222 ty176 ty102
attribute [local simp] fldV_p fldV_agg aggP_agg aggP_col aggP_val aggP_expr
attribute [local simp] runK_nil runK_cons goG_true goG_false goC_none goC_some goV_some goV_none goD_some goD_none
theorem evalOp_mapUpdate (cfg:Cfg) (d:Nat) (S:St) (t:TypeId) (m k x:Operand):evalOp cfg d (.mapUpdate t m k x) S=none:=rfl
theorem evalOp_makeMap (cfg:Cfg) (d:Nat) (S:St) (t:TypeId) (x:Option Operand):evalOp cfg d (.makeMap t x) S=none:=rfl
attribute [local simp] evalOp_mapUpdate evalOp_makeMap
theorem callM196 (op:Int) (h:Fn) (fa fc:List P) (ks vs:List P) (hk:idxP .i64 op ks 0=some none) :
  CallM cfg Tryz.prog 196 [(1000,.cells [.mp 1001]),(1001,.map ks vs)] [.p (.int .i64 op),.p (.fn h fa fc),.ref 1000 0] [] [(1000,.cells [.mp 1001]),(1001,.map (ks ++ [.int .i64 op]) (vs ++ [strictP (.fn h fa fc)]))]:=by
 have msk:Msk 488 488:=⟨⟩
 refine CallM.of_body cfg_ok Tryz.func196 rfl rfl fun base=>?_
 rw [show startM Tryz.f196 [.p (.int .i64 op),.p (.fn h fa fc),.ref 1000 0] [(1000,.cells [.mp 1001]),(1001,.map ks vs)]=⟨mkT 9 [(0,.p (.int .i64 op)),(1,.p (.fn h fa fc)),(2,.ref 1000 0)],[(1000,.cells [.mp 1001]),(1001,.map ks vs)],[1000,1001]⟩ by kernel_rfl]
 have st0:Stop 1:=⟨⟩
 refine walkX ?_ trivial
 all_goals first | intro h' h | intro h | skip
 refine ⟨?_⟩
 clear st0
 refine wpA_regK cfg_ok fun K hK=>?_
 simp -implicitDefEqProofs [*]
 refine goX_intro (x_mapUpdate cfg_ok rfl (d:=0) (by simp -implicitDefEqProofs [evalM,hk];rfl)) ?_
 rintro S' rfl
 refine runK_id ?_
 simp -implicitDefEqProofs [*]
 refine hK.out _ _ ?_;clear hK;clear K
 refine bodyM_normal (bodyM_of rfl rfl trivial ?_ (by rfl) (by rfl) (by rfl))
 simp [getB,leK,leT,leV,strictP]
theorem callM198 (op:Int) (h:Fn) (fa fc:List P) (ks vs:List P) (hk:idxP .i64 op ks 0=some none) :
  CallM cfg Tryz.prog 198 [(1000,.cells [.fn (.func 196) [] [.ref 1001 0]]),(1001,.cells [.mp 1002]),(1002,.map ks vs)] [.p (.int .i64 op),.p (.fn h fa fc),.ref 1000 0] []
   [(1000,.cells [.fn (.func 196) [] [.ref 1001 0]]),(1001,.cells [.mp 1002]),(1002,.map (ks ++ [.int .i64 op]) (vs ++ [strictP (.fn (.func 199) [] [.imm [.fn h fa fc] 0])]))]:=by
 have msk:Msk 488 488:=⟨⟩
 refine CallM.of_body cfg_ok Tryz.func198 rfl rfl fun base=>?_
 rw [show startM Tryz.f198 [.p (.int .i64 op),.p (.fn h fa fc),.ref 1000 0] [(1000,.cells [.fn (.func 196) [] [.ref 1001 0]]),(1001,.cells [.mp 1002]),(1002,.map ks vs)]=⟨mkT 9 [(0,.p (.int .i64 op)),(1,.p (.fn h fa fc)),(2,.ref 1000 0)],[(1000,.cells [.fn (.func 196) [] [.ref 1001 0]]),(1001,.cells [.mp 1002]),(1002,.map ks vs)],[1000,1001,1002]⟩ by kernel_rfl]
 have st0:Stop 1:=⟨⟩
 refine walkX ?_ trivial
 all_goals first | intro h' h | intro h | skip
 refine ⟨?_⟩
 clear st0
 refine wpA_regK cfg_ok fun K hK=>?_
 simp -implicitDefEqProofs [*]
 refine goX_intro (x_lendM (fun n=>n + 1) (callM196 op (.func 199) [] [.imm [.fn h fa fc] 0] ks vs hk) rfl (by simp -implicitDefEqProofs [callArgs];rfl) (by simp -implicitDefEqProofs [argM,dom];exact ⟨rfl,rfl⟩) (by rfl) (by rfl) (by simp [getB,renB,renVs,renV,setB]) (by rfl) (by rfl) (by rfl) (by rfl)) ?_
 rintro S' rfl
 refine runK_id ?_
 simp -implicitDefEqProofs [*,lentB,lentU,renBs,dom,renB,renV,renVs,resVV]
 trace_state
 refine hK.out _ _ ?_;clear hK;clear K
 refine bodyM_normal (bodyM_of rfl rfl trivial ?_ (by rfl) (by rfl) (by rfl))
 simp [getB,leK,leT,leV,strictP]
end
end Go.Proofs.YtgiedlcjlalpcaaGreat
