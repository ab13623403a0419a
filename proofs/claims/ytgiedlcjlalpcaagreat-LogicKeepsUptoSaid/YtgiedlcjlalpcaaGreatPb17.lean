/- Part of a proof: M6 U6 U3 U7 U8. -/
import Derived.Test.YtgiedlcjlalpcaaGreatPb08
import Derived.Test.YtgiedlcjlalpcaaGreatPb09
import Derived.Test.YtgiedlcjlalpcaaGreatPb12
import Derived.Test.YtgiedlcjlalpcaaGreatPb14
import Derived.Test.YtgiedlcjlalpcaaGreatPb15
import Derived.Test.YtgiedlcjlalpcaaGreatPb16
set_option linter.all false
namespace Go.Proofs.YtgiedlcjlalpcaaGreat
open Go.Abs
set_option maxRecDepth 100000
set_option maxHeartbeats 4000000
attribute [local irreducible] wpA Again LeJ
attribute [local simp high] mkT_getD
attribute [local simp] runM_nil runM_cons mG_some mC_none mC_un mC_gd mV_some mV_none mD_some mP_some mP_none pickV_bool pickV_int specE_pick specE_move specE_assign specE_alloc specE_box specE_build specE_buildSlice specE_load specE_store specE_nilCheck specE_binOp specE_unOp specE_convert specE_makeFunc specE_slice specE_fieldAddr specE_field specE_indexAddr specE_index specE_extract specE_call cond_false_r cond_true_m callPure touches_move touches_assign touches_box touches_load touches_nilCheck touches_unOp touches_convert touches_fieldAddr touches_field touches_extract touches_pick touches_store touches_binOp touches_indexAddr touches_index touches_alloc touches_build touches_buildSlice touches_makeFunc touches_slice touches_call touches_builtin V.names V.namesL callOf_fn callOf_builtin callOf callResW cfg_imp wantedA evalOp_move evalOp_assign evalOp_pick evalOp_alloc evalOp_box evalOp_build evalOp_buildSlice evalOp_load evalOp_store evalOp_nilCheck evalOp_binOp evalOp_unOp evalOp_convert evalOp_makeFunc evalOp_slice evalOp_fieldAddr evalOp_field evalOp_indexAddr evalOp_index evalOp_extract evalOp_builtin opnd_tmp opnd_const opnd_func headM dropA mkT_set mkT_idx mkT_get mkT_len lookA more_true more_false constV boolV St.put getB setB V.cells cells_agg cells_int cells_bool cells_str cells_lst cells_fn cells_nilp cells_nilf cells_nilm cells_imm cells_obj cells_imap mkAgg mkFn allP partV partP placesOf fillV spliceV Ty.agg oneV oneP natOf binV_int binV_str binV_bool_eql binV_ptr_nil_eql binV_ptr_imm_eql binV_ptr_obj_eql binV_ptr_ref_eql binV_func_nil_eql binV_func_fn_eql binV_func_fv_eql binV_bool_neq binV_ptr_nil_neq binV_ptr_imm_neq binV_ptr_obj_neq binV_ptr_ref_neq binV_func_nil_neq binV_func_fn_neq binV_func_fv_neq intBin strBin cfg_ty callRes toP toPs resV addedP appendV partsToP resultPs resultVs St.head roomFor_of wrap_succ wrap_nat sizesOk_nil sizesOk_cons elemOk_int elemOk_bool elemOk_str elemOk_lst elemOk_fn List.getElem?_eq_getElem bne w64 val_cells val_fold val_eta col_cells col_fold col_eta rel_cells expr_cells expr_fold expr_fold0 expr_fold1 expr_fold2 expr_eta expr_op expr_n expr_m expr_kind expr_lit expr_args expr_rels eps_nil eps_len eps_get eps_app eps_take eps_drop eps_ok vps_nil vps_len vps_get vps_app vps_take vps_drop vps_ok cps_nil cps_len cps_get cps_app cps_take cps_drop cps_ok rps_nil rps_len rps_get eps_idx vps_idx cps_idx rps_idx ips_nil ips_len ips_get ips_idx ips_ok elemOk_e elemOk_v elemOk_c ips_app ips_take ips_drop el1 ea1 es1 el2 ea2 es2 el3 ea3 es3 elc eac vl1 va1 vs1 vl2 va2 vs2 vl3 va3 vs3 vlc vac cl1 ca1 cs1 cl2 ca2 cs2 cl3 ca3 cs3 clc cac il1 ia1 is1 il2 ia2 is2 il3 ia3 is3 ilc iac binV_val_eql binV_val_neq binV_col_eql ty2 ty3 ty4 ty5 ty9 ty22 ty23 ty25 ty26 ty27 ty29 ty30 ty34 ty43 ty52 ty57 ty61 ty75 ty86 ty87 ty102 ty131 ty132 ty134 ty135 ty137 ty138 ty141 ty149 ty152 ty156 ty159 ty160 ty172 ty176 ty184 ty185 ty186 ty187 ty189 ty204 ty211 ty221 ty222 ty242 ty259
section
attribute [local simp] wl0 wl1 wl2 wl3 wl4 wl5 wl6 wl7 wl8 wl9 wl10 wl11 wl12 wl13 wl14 wl15 wl16 wl17 wl18 wl19 wl20
attribute [local simp high] evalOp_fieldP
attribute [local simp] ty140 ty137 ty135
attribute [local simp] fldV_p fldV_agg aggP_agg aggP_col aggP_val aggP_expr
theorem doer_fold:P.agg [doP]=doerP:=rfl
attribute [local simp] doer_fold
theorem v142_leaf (e:Expr) (cols:List Col) (h:e.args=[]):Cal 142 [L cols,e.p] [e.p,.bool false]:=⟨by
 have het:Expr.mk e.op e.n e.m e.kind e.lit [] e.rels=e:=by rw [← h];exact expr_eta e
 have msk:Msk 17592170184324 17592178704004:=⟨⟩
 refine CallP.of_bodyN 44 cfg_ok Tryz.func142 rfl rfl (by kernel_rfl) fun base=>?_;simp only [mkA,Nat.reduceAdd]
 refine wpA_ok 0 rfl fun ok0=>?_
 refine wpA_ok 1 rfl fun ok1=>?_
 exact (have hnd:AndN:=⟨⟩;walkX trivial trivial)⟩
theorem v142_no (e:Expr) (cols:List Col) (h0:¬ e.args.length=0) (h:(e.args.any fun a=>!isLit a)=true):Cal 142 [L cols,e.p] [e.p,.bool false]:=⟨by
 have h0':((e.args.length:Int) == 0)=false:=by simp;simpa using h0
 have msk:Msk 17592170184324 17592178704004:=⟨⟩
 refine CallP.of_bodyN 44 cfg_ok Tryz.func142 rfl rfl (by kernel_rfl) fun base=>?_;simp only [mkA,Nat.reduceAdd]
 refine wpA_ok 0 rfl fun ok0=>?_
 refine wpA_ok 1 rfl fun ok1=>?_
 exact (have hnd:AndN:=⟨⟩;walkX trivial trivial)⟩
attribute [local simp] litE mapA L cfg_obj0 in
theorem v142_yes (e:Expr) (cols:List Col) (k:Int) (hh:Has cols e k) (r:Val) (h0:¬ e.args.length=0) (h:(e.args.any fun a=>!isLit a)=false) (h223:Cal 223 [doerP,.int .i64 e.op,.lst (Val.ps (e.args.map Expr.lit))] [r.p]):Cal 142 [L cols,e.p] [(litE k r).p,.bool true]:=⟨by
 have h0':((e.args.length:Int) == 0)=false:=by simp;simpa using h0
 haveI:Cal 222 [.obj 0 [.lst (Col.ps cols)] 0,e.p] [.int .i64 k]:=cal222 e cols k hh
 have pc0:∀ {l:List Val},l=mapA Expr.lit [] e.args→CallP cfg Tryz.prog 223 [doerP,.int .i64 e.op,.lst (Val.ps l)] [r.p]:=fun {l} hl=>by rw [← map_mapA] at hl;subst hl;exact h223.out
 clear h223
 have hl:e.args.length ≤ 16:=wf_len hh.wf
 have hr:∀ i,i < e.args.length→roomFor (i + 1) 32=true:=fun i _=>roomFor_of (by omega) (by decide)
 clear hh
 have msk:Msk 17592170184324 17592178704004:=⟨⟩
 refine CallP.of_bodyN 44 cfg_ok Tryz.func142 rfl rfl (by kernel_rfl) fun base=>?_;simp only [mkA,Nat.reduceAdd]
 refine wpA_ok 0 rfl fun ok0=>?_
 refine wpA_ok 1 rfl fun ok1=>?_
 have ld0:LD (σ:=Nat × List Val) 0 4290773312 [8,29] (fun y_=>(fun i acc=>[(22,.p (.int .i64 i)),(6,.own 30 i)]) y_.1 y_.2) (fun y_=>(fun i acc=>[(30,.arr 3 (Val.ps acc) false)]) y_.1 y_.2) (fun y_=>(fun i acc=>InvL (i ≤ (e.args).length) (acc.length=i) (mapA Expr.lit acc (e.args.drop i)=mapA Expr.lit [] e.args)) y_.1 y_.2) (fun y_=>(fun i acc=>(e.args).length - i) y_.1 y_.2) ((0,[])) [30] (fun y_=>(fun i acc=>i < (e.args).length) y_.1 y_.2) (fun y_ (h:(fun i acc=>i < (e.args).length) y_.1 y_.2)=>(fun i acc (h:i < (e.args).length)=>(i + 1,acc ++ [e.args[i].lit])) y_.1 y_.2 h) (fun y_ (h:(fun i acc=>i < (e.args).length) y_.1 y_.2)=>(fun i acc (h:i < (e.args).length)=>(i + 1,acc ++ [e.args[i].lit])) y_.1 y_.2 h):=⟨⟩
 exact (have hnd:AndN:=⟨⟩;walkX trivial trivial)⟩
end
section
attribute [local simp] wl0 wl1 wl2 wl3 wl4 wl5 wl6 wl7 wl8 wl9 wl10 wl11 wl12 wl13 wl14 wl15 wl16 wl17 wl18 wl19 wl20
attribute [local simp high] evalOp_fieldP
attribute [local simp] ty211 ty172
attribute [local simp] fldV_p fldV_agg aggP_agg aggP_col aggP_val aggP_expr
def tab1:List Int:=[4,5,6,7,8,9,11,24,25,4,5,4,24,6,25,7]
def tab2:List Int:=[12,13,14,15,16,17,18,19,20,21,22,23,24,25,19,12]
def tab3:List Int:=[10,24,25,10,24,25,10,10,10,24,25,10,24,25,10,10]
def opT (k:Int) (q:Nat):Int:=if k == 1 then tab1.getD q 0 else if k == 2 then tab2.getD q 0 else tab3.getD q 0
def tameE (cols:List Col):Nat→Expr→Int→Expr
 | 0,raw,k=>tipE raw cols k
 | d + 1,raw,k=>if d=0 ∨ raw.args=[] then tipE raw cols k else growE (tameE cols d) raw (opT k (posI raw.op 16).toNat) k
theorem tab_get (l:List Int) (q:Nat) (h:q < l.length):∀ h':q < (l.map fun x=>V.p (.int .i64 x)).length,(l.map fun x=>V.p (.int .i64 x))[q]'h' = .p (.int .i64 (l.getD q 0)):=by
 intro h'
 simp [List.getD_eq_getElem?_getD,h]
theorem s128_tip (raw:Expr) (k d:Int) (cols:List Col) (hc:cols.length ≤ 1000000) (hs:raw.lit.text.size ≤ 4294967296) (h:d ≤ 1 ∨ raw.args=[]) :
  Cal 128 [raw.p,.lst (Col.ps cols),.lst [],.int .i64 k,.int .i64 d] [(tipE raw cols k).p]:=⟨by
 haveI:=cal179 raw cols k hc hs
 have hc':(decide (d ≤ 1) || ((raw.args.length:Int) == 0))=true:=by
  rcases h with h | h
  ·simp [h]
  ·simp [h]
 clear hc hs h
 have msk:Msk 73786958696205484992 73786976292690691008:=⟨⟩
 refine CallP.of_bodyN 66 cfg_ok Tryz.func128 rfl rfl (by kernel_rfl) fun base=>?_;simp only [mkA,Nat.reduceAdd]
 refine wpA_ok 0 rfl fun ok0=>?_
 refine wpA_ok 1 rfl fun ok1=>?_
 refine wpA_ok 2 rfl fun ok2=>?_
 refine wpA_ok 3 rfl fun ok3=>?_
 refine wpA_ok 4 rfl fun ok4=>?_
 exact walk⟩
theorem s128_grow (raw:Expr) (k d:Int) (cols:List Col) (q:Nat) (hq:posI raw.op 16=q) (h1:¬ d ≤ 1) (h2:¬ raw.args=[]) (y:Expr) (hy:Cal 180 [raw.p,.int .i64 (opT k q),.lst (Col.ps cols),.lst [],.int .i64 k,.int .i64 d] [y.p]) :
  Cal 128 [raw.p,.lst (Col.ps cols),.lst [],.int .i64 k,.int .i64 d] [y.p]:=⟨by
 have hq16:q < 16:=by have:=posI_lt raw.op 16 (by decide);omega
 have hle:q + 1 ≤ 16:=hq16
 have t1:=tab_get tab1 q hq16
 have t2:=tab_get tab2 q hq16
 have t3:=tab_get tab3 q hq16
 unfold opT at hy
 generalize tab1.getD q 0=v1 at *
 generalize tab2.getD q 0=v2 at *
 generalize tab3.getD q 0=v3 at *
 simp only [tab1,tab2,tab3,List.map_cons,List.map_nil] at t1 t2 t3
 have pc0:(k == 1)=true→CallP cfg Tryz.prog 180 [raw.p,.int .i64 v1,.lst (Col.ps cols),.lst [],.int .i64 k,.int .i64 d] [y.p]:=fun h=>by rw [if_pos h] at hy;exact hy.out
 have pc1:(k == 1)=false∧(k == 2)=true→CallP cfg Tryz.prog 180 [raw.p,.int .i64 v2,.lst (Col.ps cols),.lst [],.int .i64 k,.int .i64 d] [y.p]:=fun h=>by rw [if_neg (by simp [h.1]),if_pos h.2] at hy;exact hy.out
 have pc2:(k == 1)=false∧(k == 2)=false→CallP cfg Tryz.prog 180 [raw.p,.int .i64 v3,.lst (Col.ps cols),.lst [],.int .i64 k,.int .i64 d] [y.p]:=fun h=>by rw [if_neg (by simp [h.1]),if_neg (by simp [h.2])] at hy;exact hy.out
 clear hy
 have hd:decide (d ≤ 1)=false:=by simpa using h1
 clear h1
 have msk:Msk 73786958696205484992 73786976292690691008:=⟨⟩
 refine CallP.of_bodyN 66 cfg_ok Tryz.func128 rfl rfl (by kernel_rfl) fun base=>?_;simp only [mkA,Nat.reduceAdd]
 refine wpA_ok 0 rfl fun ok0=>?_
 refine wpA_ok 1 rfl fun ok1=>?_
 refine wpA_ok 2 rfl fun ok2=>?_
 refine wpA_ok 3 rfl fun ok3=>?_
 refine wpA_ok 4 rfl fun ok4=>?_
 exact walk⟩
mutual
def txtE:Expr→Prop
 | .mk _ _ _ _ v args _=>v.text.size ≤ 4294967296∧txtEs args
def txtEs:List Expr→Prop
 | []=>True
 | a :: r=>txtE a∧txtEs r
end
theorem txtEs_get {l:List Expr} (h:txtEs l):∀ (i:Nat) (hi:i < l.length),txtE l[i]:=by
 induction l with
 | nil=>intro i hi;simp at hi
 | cons e r ih=>
  intro i hi
  cases i with
  | zero=>exact h.1
  | succ i=>exact ih h.2 i (by simpa using hi)
theorem txtE_lit {e:Expr} (h:txtE e):e.lit.text.size ≤ 4294967296:=by cases e;exact h.1
theorem txtE_args {e:Expr} (h:txtE e):txtEs e.args:=by cases e;exact h.2
theorem cal128 (cols:List Col) (hc:cols.length ≤ 1000000):∀ (n:Nat),n ≤ 1000→∀ (raw:Expr) (k:Int),txtE raw→Cal 128 [raw.p,.lst (Col.ps cols),.lst [],.int .i64 k,.int .i64 (n:Int)] [(tameE cols n raw k).p]
 | 0,_,raw,k,h=>s128_tip raw k 0 cols hc (txtE_lit h) (.inl (by decide))
 | n + 1,hn,raw,k,h=>by
  unfold tameE
  by_cases h1:n=0 ∨ raw.args=[]
  ·rw [if_pos h1]
   exact s128_tip raw k _ cols hc (txtE_lit h) (h1.imp (fun h=>by subst h;decide) id)
  ·rw [if_neg h1]
   obtain ⟨q,hq⟩:=Int.eq_ofNat_of_zero_le (posI_nonneg raw.op 16)
   rw [hq,Int.toNat_natCast]
   refine s128_grow raw k _ cols q hq (by omega) (fun h=>h1 (.inr h)) _ ?_
   refine s180 raw _ k _ cols (tameE cols n) (fun h=>h1 (.inr h)) (wrap_i64 (by omega) (by omega)) fun j hj q' k'=>?_
   rw [show ((n + 1:Nat):Int) - 1=(n:Int) by omega]
   have hx:=txtEs_get (txtE_args h) j hj
   exact cal128 cols hc n (by omega) _ k' ⟨txtE_lit hx,txtE_args hx⟩
end
section
attribute [local simp] wl0 wl1 wl2 wl3 wl4 wl5 wl6 wl7 wl8 wl9 wl10 wl11 wl12 wl13 wl14 wl15 wl16 wl17 wl18 wl19 wl20
attribute [local simp high] evalOp_fieldP
attribute [local simp] ty172
attribute [local simp] fldV_p fldV_agg aggP_agg aggP_col aggP_val aggP_expr
attribute [local simp] kindL kindM_none kindM_some zeroC in
theorem cal127 (e:Expr) (cols:List Col) (hw:wf e=true):Cal 127 [e.p,.lst (Col.ps cols),.lst []] [(kindE cols e).1.p,.bool (kindE cols e).2]:=by
 induction hsz:e.size using Nat.strongRecOn generalizing e with
 | _ k ih=>
 subst hsz
 haveI rec127:∀ (i:Nat) (h:i < e.args.length),Cal 127 [e.args[i].p,.lst (Col.ps cols),.lst []] [(kindE cols e.args[i]).1.p,.bool (kindE cols e.args[i]).2]:=fun i h=>ih _ (Expr.size_get h) _ (wf_get hw h) rfl
 clear ih
 have hnode:=wf_node hw
 refine ⟨?_⟩
 have heq:=kindE_eq cols e
 by_cases h2:e.op=2
 ·have msk:Msk 40545011561907205446390145572912 40564819207303340847894502563888:=⟨⟩
  refine CallP.of_bodyN 105 cfg_ok Tryz.func127 rfl rfl (by kernel_rfl) fun base=>?_;simp only [mkA,Nat.reduceAdd]
  refine wpA_ok 0 rfl fun ok0=>?_
  refine wpA_ok 1 rfl fun ok1=>?_
  refine wpA_ok 2 rfl fun ok2=>?_
  have hwr:IntKind.wrap .i64 (0 - 1) = -1:=by decide
  have hwr2:IntKind.wrap .i64 (-1) = -1:=by decide
  have ld0:LD (σ:=Nat) 0 1152921504606323072 [] (fun y_=>(fun i=>[(8,.p (.int .i64 (-1)))]) y_) (fun y_=>(fun i=>[]) y_) (fun y_=>(fun i=>InvL (i ≤ 0) (True) ((0:Nat)=0)) y_) (fun y_=>(fun i=>0 - i) y_) (0) [] (fun y_=>(fun i=>i < 0) y_) (fun y_ (h:(fun i=>i < 0) y_)=>(fun i (h:i < 0)=>i + 1) y_ h) (fun y_ (h:(fun i=>i < 0) y_)=>(fun i (h:i < 0)=>i + 1) y_ h):=⟨⟩
  exact walk
 ·by_cases h1:e.op=1
  ·have hn0:0 ≤ e.n:=nodeR_col hnode (by simp [h1])
   obtain ⟨n,hn⟩:=Int.eq_ofNat_of_zero_le hn0
   clear hn0
   have msk:Msk 40545011561907205446390145572912 40564819207303340847894502563888:=⟨⟩
   refine CallP.of_bodyN 105 cfg_ok Tryz.func127 rfl rfl (by kernel_rfl) fun base=>?_;simp only [mkA,Nat.reduceAdd]
   refine wpA_ok 0 rfl fun ok0=>?_
   refine wpA_ok 1 rfl fun ok1=>?_
   refine wpA_ok 2 rfl fun ok2=>?_
   exact walk
  ·have pc0:∀ {l:List Col},l.length=e.args.length→CallP cfg Tryz.prog 78 [e.p,.lst (Col.ps l)] [(combined e l).1.p,.bool (combined e l).2]:=fun {l} hl=>(cal78 e l (fun h3=>by rw [hl];exact nodeR_args hnode (by simpa using h1) (by simpa using h2) h3) (fun h=>cal131 l h)).out
   clear hnode
   have msk:Msk 40545011561907205446390145572912 40564819207303340847894502563888:=⟨⟩
   refine CallP.of_bodyN 105 cfg_ok Tryz.func127 rfl rfl (by kernel_rfl) fun base=>?_;simp only [mkA,Nat.reduceAdd]
   refine wpA_ok 0 rfl fun ok0=>?_
   refine wpA_ok 1 rfl fun ok1=>?_
   refine wpA_ok 2 rfl fun ok2=>?_
   have hl:=okP_args ok0
   have hr:∀ i,i < e.args.length→roomFor (i + 1) 16=true:=fun i _=>roomFor_of (by omega) (by decide)
   have ld1:LD (σ:=Nat × List Col) 2 1267650562449297538539541503616 [11,98] (fun y_=>(fun i acc=>[(10,.p (.int .i64 i)),(9,.own 99 i)]) y_.1 y_.2) (fun y_=>(fun i acc=>[(99,.arr 2 (Col.ps acc) false)]) y_.1 y_.2) (fun y_=>(fun i acc=>InvL (i ≤ (e.args).length) (acc.length=i) (kindM e (kindL cols acc (e.args.drop i))=kindE cols e)) y_.1 y_.2) (fun y_=>(fun i acc=>(e.args).length - i) y_.1 y_.2) ((0,[])) [99] (fun y_=>(fun i acc=>i < (e.args).length) y_.1 y_.2) (fun y_ (h:(fun i acc=>i < (e.args).length) y_.1 y_.2)=>(fun i acc (h:i < (e.args).length)=>(i + 1,acc ++ [(kindE cols e.args[i]).1])) y_.1 y_.2 h) (fun y_ (h:(fun i acc=>i < (e.args).length) y_.1 y_.2)=>(fun i acc (h:i < (e.args).length)=>(i + 1,acc ++ [(kindE cols e.args[i]).1])) y_.1 y_.2 h):=⟨⟩
   exact walk
end
section
attribute [local simp] wl0 wl1 wl2 wl3 wl4 wl5 wl6 wl7 wl8 wl9 wl10 wl11 wl12 wl13 wl14 wl15 wl16 wl17 wl18 wl19 wl20
attribute [local simp high] evalOp_fieldP
attribute [local simp] ty172
attribute [local simp] fldV_p fldV_agg aggP_agg aggP_col aggP_val aggP_expr
def tameLoop (cols:List Col) (raw:Expr) (k:Int) (D:Nat) (i:Nat):Expr:=
 if h:i < D then (if decide (((D - i:Nat):Int) > 1) && decide (nodes (tameE cols (D - i) raw k) > 100) then tameLoop cols raw k D (i + 1) else tameE cols (D - i) raw k) else tameE cols (D - i) raw k
termination_by D - i
def tameIn (cols:List Col) (raw:Expr) (k:Int) (D:Nat):Expr:=
 if (shaped 8 raw && decide (nodes raw ≤ 40)) && ((kindE cols raw).2 && (kindE cols raw).1.kind == k) then raw else tameLoop cols raw k D 0
theorem cal75 (raw:Expr) (cols:List Col) (hc:cols.length ≤ 1000000) (k:Int) (D:Nat) (hD:D ≤ 100) (ht:txtE raw):Cal 75 [raw.p,.lst (Col.ps cols),.lst [],.int .i64 k,.int .i64 (D:Int)] [(tameIn cols raw k D).p]:=⟨by
 haveI c128:∀ i:Nat,Cal 128 [raw.p,.lst (Col.ps cols),.lst [],.int .i64 k,.int .i64 ((D - i:Nat):Int)] [(tameE cols (D - i) raw k).p]:=fun i=>cal128 cols hc (D - i) (by omega) raw k ht
 haveI c128':=c128 0
 simp only [Nat.sub_zero] at c128'
 clear ht
 unfold tameIn
 generalize hT:tameLoop cols raw k D 0=T
 by_cases hb:((shaped 8 raw && decide (nodes raw ≤ 40)) && ((kindE cols raw).2 && (kindE cols raw).1.kind == k))=true
 ·rw [if_pos hb]
  simp only [Bool.and_eq_true] at hb
  obtain ⟨⟨b1,b2⟩,b3,b4⟩:=hb
  haveI:=cal127 raw cols (shaped_wf raw b1)
  clear c128 c128' hT
  have msk:Msk 575897785169068992 576460752303408064:=⟨⟩
  refine CallP.of_bodyN 59 cfg_ok Tryz.func75 rfl rfl (by kernel_rfl) fun base=>?_;simp only [mkA,Nat.reduceAdd]
  refine wpA_ok 0 rfl fun ok0=>?_
  refine wpA_ok 1 rfl fun ok1=>?_
  refine wpA_ok 2 rfl fun ok2=>?_
  refine wpA_ok 3 rfl fun ok3=>?_
  refine wpA_ok 4 rfl fun ok4=>?_
  exact walk
 ·rw [if_neg hb]
  have msk:Msk 575897785169068992 576460752303408064:=⟨⟩
  refine CallP.of_bodyN 59 cfg_ok Tryz.func75 rfl rfl (by kernel_rfl) fun base=>?_;simp only [mkA,Nat.reduceAdd]
  refine wpA_ok 0 rfl fun ok0=>?_
  refine wpA_ok 1 rfl fun ok1=>?_
  refine wpA_ok 2 rfl fun ok2=>?_
  refine wpA_ok 3 rfl fun ok3=>?_
  refine wpA_ok 4 rfl fun ok4=>?_
  have st0:Stop 1:=⟨⟩
  refine walkX ?_ trivial
  all_goals first | intro h' h | intro h | skip
  refine ⟨?_⟩
  clear st0
  refine wpA_joinR ⟨mkT 59 [(10,.ref 10 0),(5,.ref 5 0),(0,.p raw.p),(1,.p (.lst (Col.ps cols))),(2,.p (.lst [])),(3,.p (.int .i64 k)),(4,.p (.int .i64 (D:Int)))],[(5,.cells [.p (.int .i64 raw.op),.p (.int .i64 raw.n),.p (.int .i64 raw.m),.p (.int .i64 raw.kind),.p (.int .i64 raw.lit.kind),.p (.int .i64 raw.lit.int),.p (.str raw.lit.text),.p (.lst (Expr.ps raw.args)),.p (.lst (Rel.ps raw.rels))]),(10,.cells [.p (.int .i64 0),.p (.int .i64 0),.p (.int .i64 0),.p (.int .i64 0),.p (.int .i64 0),.p (.int .i64 0),.p (.str ⟨#[]⟩),.nils,.nils])],[10,5]⟩ ?_ ?_
  ·clear c128 c128' hT
   cases hs:shaped 8 raw with
   | false=>
    clear hb
    exact walkX trivial trivial
    all_goals exact leJ_intro leS
   | true=>
    haveI:=cal127 raw cols (shaped_wf raw hs)
    rw [hs,Bool.true_and] at hb
    cases b2:decide (nodes raw ≤ 40)
    ·clear hb
     exact walkX trivial trivial
     all_goals exact leJ_intro leS
    ·rw [b2,Bool.true_and] at hb
     cases b3:(kindE cols raw).2
     ·clear hb
      exact walkX trivial trivial
      all_goals exact leJ_intro leS
     ·rw [b3,Bool.true_and] at hb
      have b4:((kindE cols raw).1.kind == k)=false:=by simpa using hb
      clear hb
      exact walkX trivial trivial
      all_goals exact leJ_intro leS
  ·clear hb
   have ld0:LD (σ:=Nat) 0 288221580058689552 [] (fun y_=>(fun i=>[(4,.p (.int .i64 ((D - i:Nat):Int)))]) y_) (fun y_=>(fun i=>[(13,.cells [.p (.int .i64 (tameE cols (D - i) raw k).op),.p (.int .i64 (tameE cols (D - i) raw k).n),.p (.int .i64 (tameE cols (D - i) raw k).m),.p (.int .i64 (tameE cols (D - i) raw k).kind),.p (.int .i64 (tameE cols (D - i) raw k).lit.kind),.p (.int .i64 (tameE cols (D - i) raw k).lit.int),.p (.str (tameE cols (D - i) raw k).lit.text),.p (.lst (Expr.ps (tameE cols (D - i) raw k).args)),.p (.lst (Rel.ps (tameE cols (D - i) raw k).rels))])]) y_) (fun y_=>(fun i=>InvL (i ≤ D) (True) (tameLoop cols raw k D i=T)) y_) (fun y_=>(fun i=>D - i) y_) (0) [] (fun y_=>(fun i=>i < D∧(D - i:Nat) > 1) y_) (fun y_ (h:(fun i=>i < D∧(D - i:Nat) > 1) y_)=>(fun i (h:i < D∧(D - i:Nat) > 1)=>i + 1) y_ h) (fun y_ (h:(fun i=>i < D∧(D - i:Nat) > 1) y_)=>(fun i (h:i < D∧(D - i:Nat) > 1)=>i + 1) y_ h):=⟨⟩
   have st0:Stop 7:=⟨⟩
   have st1:Stop 9:=⟨⟩
   refine walkX ?_ ?_
   ·intro x0 hi0 hn0 ny0 nz0 hj0
    first | intro h' h | intro h | skip
    refine ⟨?_⟩
    clear st0 st1
    have hi:x0 < D:=by omega
    have h1:((D - x0:Nat):Int) > 1:=by omega
    have hw:IntKind.wrap .i64 (((D - x0:Nat):Int) - 1)=((D - (x0 + 1):Nat):Int):=by
     rw [show ((D - (x0 + 1):Nat):Int)=((D - x0:Nat):Int) - 1 by omega]
     exact wrap_i64 (by omega) (by omega)
    haveI c:=c128 (x0 + 1)
    have hd:=hn0
    have h100:nodes (tameE cols (D - x0) raw k) > 100:=by omega
    rw [tameLoop,dif_pos hi,if_pos (by rw [decide_eq_true h1,decide_eq_true h100];rfl)] at hd
    clear c128 c128' hT
    refine walkX ?_ trivial
    all_goals first | intro h' h | intro h | skip
    refine again_nx ny0 ⟨hi,by omega⟩ (by dsimp only;omega) ⟨by dsimp only;omega,trivial,hd⟩ leS
   ·intro x0 hi0 hn0 ny0 nz0 hj0
    first | intro h' h | intro h | skip
    refine ⟨?_⟩
    clear st0 st1
    have hd:tameE cols (D - x0) raw k=T:=by
     rw [← hn0,tameLoop]
     split
     ·rw [if_neg]
      intro hx
      simp only [Bool.and_eq_true,decide_eq_true_eq] at hx
      simp only [Bool.and_eq_false_iff,decide_eq_false_iff_not] at h
      omega
     ·rfl
    rw [← hd]
    clear ld0 hn0 hd ny0 nz0 hT h c128 c128'
    generalize tameE cols (D - x0) raw k=y
    exact walk⟩
end
section
attribute [local simp] wl0 wl1 wl2 wl3 wl4 wl5 wl6 wl7 wl8 wl9 wl10 wl11 wl12 wl13 wl14 wl15 wl16 wl17 wl18 wl19 wl20
attribute [local simp high] evalOp_fieldP
attribute [local simp] fldV_p fldV_agg aggP_agg aggP_col aggP_val aggP_expr
mutual
theorem cutE_txt:∀ {e:Expr} {l:Int},txtE (cutE l e).1
 | .mk op n m k v args rels,l=>by
  simp only [cutE,txtE]
  refine ⟨?_,cutL_txt trivial⟩
  unfold cutTxt
  rw [ByteArray.size_extract]
  split <;> omega
theorem cutL_txt:∀ {r:List Expr} {l:Int} {acc:List Expr},txtEs acc→txtEs (cutL l acc r).1
 | [],l,acc,h=>h
 | a :: r,l,acc,h=>by
  rw [cutL_cons]
  split
  ·refine cutL_txt ?_
   have:∀ {acc:List Expr},txtEs acc→txtEs (acc ++ [(cutE l a).1]):=by
    intro acc
    induction acc with
    | nil=>intro _;exact ⟨cutE_txt,trivial⟩
    | cons b r ih=>intro h;exact ⟨h.1,ih h.2⟩
   exact this h
  ·exact h
end
theorem tipL_good (k:Int):∀ (l:List Col) (i:Nat) (acc:List Expr),(∀ a ∈ acc,a.args=[]∧a.rels=[])→∀ a ∈ tipL k i acc l,a.args=[]∧a.rels=[]
 | [],i,acc,h=>h
 | c :: r,i,acc,h=>by
  unfold tipL
  split
  ·refine tipL_good k r (i + 1) _ fun a ha=>?_
   rcases List.mem_append.1 ha with h' | h'
   ·exact h a h'
   ·have:a=colE i:=by simpa using h'
    subst this;exact ⟨rfl,rfl⟩
  ·exact tipL_good k r (i + 1) acc h
theorem tipE_good (raw:Expr) (cols:List Col) (k:Int):bareE (tipE raw cols k)∧(tipE raw cols k).size=1:=by
 have key:∀ a:Expr,a.args=[]∧a.rels=[]→bareE a∧a.size=1:=by
  rintro ⟨op,n,m,k,v,args,rels⟩ ⟨h1,h2⟩
  simp only [Expr.args,Expr.rels] at h1 h2
  subst h1;subst h2
  exact ⟨⟨trivial,fun r hr=>by cases hr⟩,rfl⟩
 unfold tipE
 split
 ·exact key _ (tipL_good k cols 0 [] (fun a ha=>by cases ha) _ (List.getElem_mem _))
 ·unfold tipV
  split
  ·exact key _ ⟨rfl,rfl⟩
  ·exact key _ ⟨rfl,rfl⟩
theorem tameE_good (cols:List Col):∀ (n:Nat) (raw:Expr) (k:Int),bareE (tameE cols n raw k)∧(tameE cols n raw k).size ≤ 6 ^ n
 | 0,raw,k=>by have:=tipE_good raw cols k;exact ⟨this.1,by show (tipE raw cols k).size ≤ _;rw [this.2];decide⟩
 | n + 1,raw,k=>by
  unfold tameE
  have hp:1 ≤ 6 ^ n:=Nat.one_le_pow _ _ (by decide)
  have hpp:6 ^ (n + 1)=6 * 6 ^ n:=by rw [Nat.pow_succ,Nat.mul_comm]
  split
  ·have:=tipE_good raw cols k
   exact ⟨this.1,by rw [this.2];omega⟩
  ·unfold growE opE
   generalize opT k (posI raw.op 16).toNat=op
   have hb:=grN_bound raw op
   have hl:∀ (l:List Nat),bareEs (l.map fun i=>tameE cols n (argN raw i) (kindAt op (grN raw op) (grK raw op k) i))∧Expr.sizes (l.map fun i=>tameE cols n (argN raw i) (kindAt op (grN raw op) (grK raw op k) i)) ≤ l.length * 6 ^ n:=by
    intro l
    induction l with
    | nil=>exact ⟨trivial,by simp [Expr.sizes]⟩
    | cons a r ih=>
     have h1:=tameE_good cols n (argN raw a) (kindAt op (grN raw op) (grK raw op k) a)
     refine ⟨⟨h1.1,ih.1⟩,?_⟩
     simp only [List.map_cons,Expr.sizes,List.length_cons,Nat.add_mul,Nat.one_mul]
     omega
   have h:=hl (List.range (grN raw op).toNat)
   refine ⟨⟨h.1,fun r hr=>by cases hr⟩,?_⟩
   simp only [Expr.size]
   have h5:(List.range (grN raw op).toNat).length ≤ 5:=by simp;omega
   have h6:(List.range (grN raw op).toNat).length * 6 ^ n ≤ 5 * 6 ^ n:=Nat.mul_le_mul_right _ h5
   omega
theorem tameIn_good (cols:List Col) (raw:Expr) (k:Int) (hb:bareE raw) (hs:raw.size ≤ 420):bareE (tameIn cols raw k 5)∧(tameIn cols raw k 5).size ≤ 500000:=by
 unfold tameIn
 split
 ·exact ⟨hb,by omega⟩
 ·have:∀ (m i:Nat),5 - i ≤ m→bareE (tameLoop cols raw k 5 i)∧(tameLoop cols raw k 5 i).size ≤ 500000:=by
   intro m
   induction m with
   | zero=>
    intro i hi
    rw [tameLoop,dif_neg (by omega)]
    have:=tameE_good cols (5 - i) raw k
    rw [show 5 - i=0 by omega] at this ⊢
    exact ⟨this.1,by have:=this.2;omega⟩
   | succ m ih=>
    intro i hi
    have hg:=tameE_good cols (5 - i) raw k
    have h6:6 ^ (5 - i) ≤ 6 ^ 5:=Nat.pow_le_pow_right (by decide) (by omega)
    have hg':bareE (tameE cols (5 - i) raw k)∧(tameE cols (5 - i) raw k).size ≤ 500000:=⟨hg.1,by have:=hg.2;omega⟩
    rw [tameLoop]
    split
    ·split
     ·exact ih (i + 1) (by omega)
     ·exact hg'
    ·exact hg'
  exact this 5 0 (by omega)
theorem cal30 (raw:Expr) (cols:List Col) (hc:cols.length ≤ 1000000) (k:Int) (ht:txtE raw):Cal 30 [raw.p,.lst (Col.ps cols),.int .i64 k,.int .i64 5] [(tameIn cols raw k 5).p]:=⟨by
 haveI c75:Cal 75 [raw.p,.lst (Col.ps cols),.lst [],.int .i64 k,.int .i64 5] [(tameIn cols raw k 5).p]:=cal75 raw cols hc k 5 (by decide) ht
 clear ht hc
 have msk:Msk 16096 16096:=⟨⟩
 refine CallP.of_bodyN 14 cfg_ok Tryz.func30 rfl rfl (by kernel_rfl) fun base=>?_;simp only [mkA,Nat.reduceAdd]
 refine wpA_ok 0 rfl fun ok0=>?_
 refine wpA_ok 1 rfl fun ok1=>?_
 refine wpA_ok 2 rfl fun ok2=>?_
 refine wpA_ok 3 rfl fun ok3=>?_
 exact walk⟩
theorem tameCols_len (l:List Col):(tameCols l).length ≤ 1000000:=by
 have:∀ (l:List Col) (i:Nat) (acc:List Col),acc.length=i→i ≤ 4→(tcL i acc l).length ≤ 4:=by
  intro l
  induction l with
  | nil=>intro i acc h hi;unfold tcL;omega
  | cons c r ih=>
   intro i acc h hi
   unfold tcL
   split
   ·exact ih _ _ (by simp [h]) (by omega)
   ·omega
 unfold tameCols
 split
 ·simp
 ·have:=this l 0 [] rfl (by omega);omega
def oneC (rawCols:List Col) (tame:Bool):List Col:=if tame then tameCols (cut18 rawCols) else cut18 rawCols
def oneE (raw:Expr) (rawCols:List Col) (k:Int) (tame:Bool):Expr:=if tame then tameIn (tameCols (cut18 rawCols)) (cut420 raw) k 5 else cut420 raw
theorem oneE_good (raw:Expr) (rawCols:List Col) (k:Int) (tame:Bool):bareE (oneE raw rawCols k tame)∧(oneE raw rawCols k tame).size ≤ 500000:=by
 have h:=cut420_good raw
 unfold oneE
 cases tame
 ·exact ⟨h.1,by have:=h.2;simp only [Bool.false_eq_true,if_false];omega⟩
 ·exact tameIn_good _ _ k h.1 h.2
theorem cal14 (raw:Expr) (rawCols:List Col) (k:Int) (tame:Bool) (hr:rawE raw):Cal 14 [raw.p,.lst (Col.ps rawCols),.int .i64 k,.bool tame] [(oneE raw rawCols k tame).p,.lst (Col.ps (oneC rawCols tame))]:=⟨by
 haveI c46:=cal46 raw hr
 haveI c48:=cal48 (cut18 rawCols)
 haveI c30:=cal30 (cut420 raw) (tameCols (cut18 rawCols)) (tameCols_len _) k (by unfold cut420;exact cutE_txt)
 clear hr
 unfold oneE oneC
 cases tame
 ·have msk:Msk 33485024 33550560:=⟨⟩
  refine CallP.of_bodyN 25 cfg_ok Tryz.func14 rfl rfl (by kernel_rfl) fun base=>?_;simp only [mkA,Nat.reduceAdd]
  refine wpA_ok 0 rfl fun ok0=>?_
  refine wpA_ok 1 rfl fun ok1=>?_
  refine wpA_ok 2 rfl fun ok2=>?_
  refine wpA_ok 3 rfl fun ok3=>?_
  exact walk
 ·have msk:Msk 33485024 33550560:=⟨⟩
  refine CallP.of_bodyN 25 cfg_ok Tryz.func14 rfl rfl (by kernel_rfl) fun base=>?_;simp only [mkA,Nat.reduceAdd]
  refine wpA_ok 0 rfl fun ok0=>?_
  refine wpA_ok 1 rfl fun ok1=>?_
  refine wpA_ok 2 rfl fun ok2=>?_
  refine wpA_ok 3 rfl fun ok3=>?_
  exact walk⟩
end
end Go.Proofs.YtgiedlcjlalpcaaGreat
