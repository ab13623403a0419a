/- Part of a proof: K5 L1 L2 L3 K7 K9 L4 L5. -/
import Derived.Test.YtgiedlcjlalpcaaGreatPb06
import Derived.Test.YtgiedlcjlalpcaaGreatPb12
import Derived.Test.YtgiedlcjlalpcaaGreatPc01
set_option linter.all false
namespace Go.Proofs.YtgiedlcjlalpcaaGreat
open Go.Abs
set_option maxRecDepth 100000
set_option maxHeartbeats 4000000
attribute [local irreducible] wpA Again LeJ
attribute [local simp high] mkT_getD
attribute [local simp] runM_nil runM_cons mG_some mC_none mC_un mC_gd mV_some mV_none mD_some mP_some mP_none pickV_bool pickV_int specE_pick specE_move specE_assign specE_alloc specE_box specE_build specE_buildSlice specE_load specE_store specE_nilCheck specE_binOp specE_unOp specE_convert specE_makeFunc specE_slice specE_fieldAddr specE_field specE_indexAddr specE_index specE_extract specE_call cond_false_r cond_true_m callPure touches_move touches_assign touches_box touches_load touches_nilCheck touches_unOp touches_convert touches_fieldAddr touches_field touches_extract touches_pick touches_store touches_binOp touches_indexAddr touches_index touches_alloc touches_build touches_buildSlice touches_makeFunc touches_slice touches_call touches_builtin V.names V.namesL callOf_fn callOf_builtin callOf callResW cfg_imp wantedA evalOp_move evalOp_assign evalOp_pick evalOp_alloc evalOp_box evalOp_build evalOp_buildSlice evalOp_load evalOp_store evalOp_nilCheck evalOp_binOp evalOp_unOp evalOp_convert evalOp_makeFunc evalOp_slice evalOp_fieldAddr evalOp_field evalOp_indexAddr evalOp_index evalOp_extract evalOp_builtin opnd_tmp opnd_const opnd_func headM dropA mkT_set mkT_idx mkT_get mkT_len lookA more_true more_false constV boolV St.put getB setB V.cells cells_agg cells_int cells_bool cells_str cells_lst cells_fn cells_nilp cells_nilf cells_nilm cells_imm cells_obj cells_imap mkAgg mkFn allP partV partP placesOf fillV spliceV Ty.agg oneV oneP natOf binV_int binV_str binV_bool_eql binV_ptr_nil_eql binV_ptr_imm_eql binV_ptr_obj_eql binV_ptr_ref_eql binV_func_nil_eql binV_func_fn_eql binV_func_fv_eql binV_bool_neq binV_ptr_nil_neq binV_ptr_imm_neq binV_ptr_obj_neq binV_ptr_ref_neq binV_func_nil_neq binV_func_fn_neq binV_func_fv_neq intBin strBin cfg_ty callRes toP toPs resV addedP appendV partsToP resultPs resultVs St.head roomFor_of wrap_succ wrap_nat sizesOk_nil sizesOk_cons elemOk_int elemOk_bool elemOk_str elemOk_lst elemOk_fn List.getElem?_eq_getElem bne w64 val_cells val_fold val_eta col_cells col_fold col_eta rel_cells expr_cells expr_fold expr_fold0 expr_fold1 expr_fold2 expr_eta expr_op expr_n expr_m expr_kind expr_lit expr_args expr_rels eps_nil eps_len eps_get eps_app eps_take eps_drop eps_ok vps_nil vps_len vps_get vps_app vps_take vps_drop vps_ok cps_nil cps_len cps_get cps_app cps_take cps_drop cps_ok rps_nil rps_len rps_get eps_idx vps_idx cps_idx rps_idx ips_nil ips_len ips_get ips_idx ips_ok elemOk_e elemOk_v elemOk_c ips_app ips_take ips_drop el1 ea1 es1 el2 ea2 es2 el3 ea3 es3 elc eac vl1 va1 vs1 vl2 va2 vs2 vl3 va3 vs3 vlc vac cl1 ca1 cs1 cl2 ca2 cs2 cl3 ca3 cs3 clc cac il1 ia1 is1 il2 ia2 is2 il3 ia3 is3 ilc iac binV_val_eql binV_val_neq binV_col_eql ty2 ty3 ty4 ty5 ty9 ty22 ty23 ty25 ty26 ty27 ty29 ty30 ty34 ty43 ty52 ty57 ty61 ty75 ty86 ty87 ty102 ty131 ty132 ty134 ty135 ty137 ty138 ty141 ty149 ty152 ty156 ty159 ty160 ty172 ty176 ty184 ty185 ty186 ty187 ty189 ty204 ty211 ty221 ty222 ty242 ty259
section
attribute [local simp] wl0 wl1 wl2 wl3 wl4 wl5 wl6 wl7 wl8 wl9 wl10 wl11 wl12 wl13 wl14 wl15 wl16 wl17 wl18 wl19 wl20
attribute [local simp high] evalOp_fieldP
attribute [local simp] fldV_p fldV_agg aggP_agg aggP_col aggP_val aggP_expr
theorem eps_tail (a:Expr) (l:List Expr):(Expr.ps (a :: l)).tail=Expr.ps l:=rfl
attribute [local simp] eps_tail
theorem cal157 (e:Expr) (i:Nat) (hi:i < e.args.length):Cal 157 [e.p,.int .i64 i] [(withoutE e i).p]:=⟨by
 by_cases h2:e.args.length=2
 ·obtain ⟨a,b,hab⟩:∃ a b,e.args=[a,b]:=by
   match h:e.args with
   | [a,b]=>exact ⟨a,b,rfl⟩
   | []=>rw [h] at h2;simp at h2
   | [_]=>rw [h] at h2;simp at h2
   | _ :: _ :: _ :: _=>rw [h] at h2;simp at h2
  have r1:roomFor 0 112=true:=by decide
  have r2:roomFor 1 112=true:=by decide
  match i,hi with
  | 0,_=>
   rw [show withoutE e 0=b by simp [withoutE,oneOr,hab,hdE]]
   exact (show CallP cfg Tryz.prog 157 [e.p,.int .i64 0] [b.p] from by
    have msk:Msk 528482248 536870856:=⟨⟩
    refine CallP.of_bodyN 29 cfg_ok Tryz.func157 rfl rfl (by kernel_rfl) fun base=>?_;simp only [mkA,Nat.reduceAdd]
    refine wpA_ok 0 rfl fun ok0=>?_
    refine wpA_ok 1 rfl fun ok1=>?_
    exact walk)
  | 1,_=>
   rw [show withoutE e 1=a by simp [withoutE,oneOr,hab,hdE]]
   exact (show CallP cfg Tryz.prog 157 [e.p,.int .i64 1] [a.p] from by
    have msk:Msk 528482248 536870856:=⟨⟩
    refine CallP.of_bodyN 29 cfg_ok Tryz.func157 rfl rfl (by kernel_rfl) fun base=>?_;simp only [mkA,Nat.reduceAdd]
    refine wpA_ok 0 rfl fun ok0=>?_
    refine wpA_ok 1 rfl fun ok1=>?_
    exact walk)
  | i + 2,hi=>omega
 ·rw [show withoutE e i=setA e (e.args.take i ++ e.args.drop (i + 1)) by
   unfold withoutE oneOr
   rw [if_neg]
   simp only [List.length_append,List.length_take,List.length_drop,beq_iff_eq]
   omega]
  simp only [setA]
  have h9:¬ ((i:Int) + ((e.args.length - (i + 1):Nat):Int)=1):=by omega
  have msk:Msk 528482248 536870856:=⟨⟩
  refine CallP.of_bodyN 29 cfg_ok Tryz.func157 rfl rfl (by kernel_rfl) fun base=>?_;simp only [mkA,Nat.reduceAdd]
  refine wpA_ok 0 rfl fun ok0=>?_
  refine wpA_ok 1 rfl fun ok1=>?_
  have hl:=okP_args ok0
  have h1:i ≤ e.args.length:=by omega
  have h2:min i e.args.length=i:=by omega
  have h3:i + 1 ≤ e.args.length:=by omega
  have h4:roomFor i 112=true:=roomFor_of (by omega) (by decide)
  have h5:roomFor (i + (e.args.length - (i + 1))) 112=true:=roomFor_of (by omega) (by decide)
  have h6:IntKind.wrap .i64 ((i:Int) + 1)=(i:Int) + 1:=wrap_succ (by omega)
  have h7:(0:Int) ≤ (i:Int) + 1:=by omega
  have h8:((i:Int) + 1).toNat=i + 1:=by omega
  exact walk⟩
end
section
attribute [local simp] wl0 wl1 wl2 wl3 wl4 wl5 wl6 wl7 wl8 wl9 wl10 wl11 wl12 wl13 wl14 wl15 wl16 wl17 wl18 wl19 wl20
attribute [local simp high] evalOp_fieldP
attribute [local simp] fldV_p fldV_agg aggP_agg aggP_col aggP_val aggP_expr
theorem first2_eq (e:Expr) (cols:List Col) (n:Nat) (h3:∀ i,i < n→i < e.args.length) (i:Nat):first2 e cols n i=if h:i < n then
  (if (kindE cols (e.args[i]'(h3 i h))).1.null then first2 e cols n (i + 1) else (if i=0 then hdE e.args else setA e (e.args.take (i + 1)),true))
 else (e,false):=by
 rw [first2]
 split
 ·rename_i h
  rw [getD_E _ _ (h3 i h)];rfl
 ·rfl
attribute [local simp] first1 setA in
theorem cal97 (e:Expr) (cols:List Col) (hw:wf e=true) (n:Nat) (hn:e.args.length=n + 1):Cal 97 [e.p,.lst (Col.ps cols)] [(firstE e cols).1.p,.bool (firstE e cols).2]:=⟨by
 have pc0:∀ {i:Nat},i < e.args.length→CallP cfg Tryz.prog 157 [e.p,.int .i64 i] [(withoutE e i).p]:=fun {i} hi=>(cal157 e i hi).out
 haveI c94:∀ (i:Nat) (h:i < e.args.length),Cal 94 [e.args[i].p,.lst (Col.ps cols)] [(kindE cols e.args[i]).1.p]:=fun i h=>cal94 _ _ (wf_get hw h)
 have hl:=wf_len hw
 have heq:firstE e cols=first1 e cols e.args 0:=rfl
 have hn1:e.args.length - 1=n:=by omega
 have h0:∀ h:0 < e.args.length,e.args[0]'h=hdE e.args:=fun h=>hdE_get h
 have hc:∀ i:Nat,((i:Int) + 1 < (e.args.length:Int))=(i < n):=fun i=>by rw [hn];simp
 have h1:∀ i,i < n→i + 1 ≤ e.args.length:=fun i _=>by omega
 have h2:∀ i,i < n→min (i + 1) e.args.length=i + 1:=fun i _=>by omega
 have h3:∀ i,i < n→i < e.args.length:=fun i _=>by omega
 have hst1:Hid (∀ i:Nat,_):=⟨first2_eq e cols n h3⟩
 have h4:∀ i,i < n→roomFor (i + 1) 112=true:=fun i _=>roomFor_of (by omega) (by decide)
 have h7:∀ i:Nat,(0:Int) ≤ (i:Int) + 1:=fun i=>by omega
 have h8:∀ i:Nat,((i:Int) + 1).toNat=i + 1:=fun i=>by omega
 have hn2:n ≤ 15:=by omega
 clear hw hn
 have msk:Msk 285977475750551048 288230376151711240:=⟨⟩
 refine CallP.of_bodyN 58 cfg_ok Tryz.func97 rfl rfl (by kernel_rfl) fun base=>?_;simp only [mkA,Nat.reduceAdd]
 refine wpA_ok 0 rfl fun ok0=>?_
 refine wpA_ok 1 rfl fun ok1=>?_
 have ld0:LD (σ:=Nat) 0 33554016 [] (fun y_=>(fun i=>[(6,.p (.int .i64 i))]) y_) (fun y_=>(fun i=>[]) y_) (fun y_=>(fun i=>InvL (i ≤ (e.args).length) (True) (first1 e cols (e.args.drop i) i=firstE e cols)) y_) (fun y_=>(fun i=>(e.args).length - i) y_) (0) [] (fun y_=>(fun i=>i < (e.args).length) y_) (fun y_ (h:(fun i=>i < (e.args).length) y_)=>(fun i (h:i < (e.args).length)=>i + 1) y_ h) (fun y_ (h:(fun i=>i < (e.args).length) y_)=>(fun i (h:i < (e.args).length)=>i + 1) y_ h):=⟨⟩
 have ld1:LD (σ:=Nat) 2 144115188042301856 [8,42] (fun y_=>(fun i=>[(7,.p (.int .i64 i))]) y_) (fun y_=>(fun i=>[]) y_) (fun y_=>(fun i=>InvL (i ≤ n) (True) (first2 e cols n i=first2 e cols n 0)) y_) (fun y_=>(fun i=>n - i) y_) (0) [] (fun y_=>(fun i=>i < n) y_) (fun y_ (h:(fun i=>i < n) y_)=>(fun i (h:i < n)=>i + 1) y_ h) (fun y_ (h:(fun i=>i < n) y_)=>(fun i (h:i < n)=>i + 1) y_ h):=⟨⟩
 exact walk⟩
end
section
attribute [local simp] wl0 wl1 wl2 wl3 wl4 wl5 wl6 wl7 wl8 wl9 wl10 wl11 wl12 wl13 wl14 wl15 wl16 wl17 wl18 wl19 wl20
attribute [local simp high] evalOp_fieldP
attribute [local simp] fldV_p fldV_agg aggP_agg aggP_col aggP_val aggP_expr
section
variable (e:Expr) (cols:List Col) (hw:wf e=true)
include hw
theorem v99_4 (h:e.op=4) (a b:Expr) (hab:e.args=[a,b]):Cal 99 [e.p,.lst (Col.ps cols)] [(if isV b (intW 0) then (a,true) else if isV a (intW 0) then (b,true) else (e,false)).1.p,.bool (if isV b (intW 0) then (a,true) else if isV a (intW 0) then (b,true) else (e,false)).2]:=⟨by
 haveI:=cal94 a cols (wf_arg hw a (by simp [hab]))
 haveI:=cal94 b cols (wf_arg hw b (by simp [hab]))
 have het:Expr.mk 4 e.n e.m e.kind e.lit [a,b] e.rels=e:=by rw [← hab,← h];exact expr_eta e
 try simp only [nullE]
 have msk:Msk 340282366901131422539660617853962287112 340282366901131422539660617853962287112:=⟨⟩
 refine CallP.of_bodyN 128 cfg_ok Tryz.func99 rfl rfl (by kernel_rfl) fun base=>?_;simp only [mkA,Nat.reduceAdd]
 refine wpA_ok 0 rfl fun ok0=>?_
 refine wpA_ok 1 rfl fun ok1=>?_
 exact walk⟩
theorem v99_5 (h:e.op=5) (a b:Expr) (hab:e.args=[a,b]):Cal 99 [e.p,.lst (Col.ps cols)] [(if isV b (intW 0) then (a,true) else (e,false)).1.p,.bool (if isV b (intW 0) then (a,true) else (e,false)).2]:=⟨by
 haveI:=cal94 a cols (wf_arg hw a (by simp [hab]))
 haveI:=cal94 b cols (wf_arg hw b (by simp [hab]))
 have het:Expr.mk 5 e.n e.m e.kind e.lit [a,b] e.rels=e:=by rw [← hab,← h];exact expr_eta e
 try simp only [nullE]
 have msk:Msk 340282366901131422539660617853962287112 340282366901131422539660617853962287112:=⟨⟩
 refine CallP.of_bodyN 128 cfg_ok Tryz.func99 rfl rfl (by kernel_rfl) fun base=>?_;simp only [mkA,Nat.reduceAdd]
 refine wpA_ok 0 rfl fun ok0=>?_
 refine wpA_ok 1 rfl fun ok1=>?_
 exact walk⟩
theorem v99_6 (h:e.op=6) (a b:Expr) (hab:e.args=[a,b]):Cal 99 [e.p,.lst (Col.ps cols)] [(if isV b (intW 1) then (a,true) else if isV a (intW 1) then (b,true) else if isV b (intW 0) && !nullE cols a || isV a (intW 0) && !nullE cols b then (litE 1 (intW 0),true) else (e,false)).1.p,.bool (if isV b (intW 1) then (a,true) else if isV a (intW 1) then (b,true) else if isV b (intW 0) && !nullE cols a || isV a (intW 0) && !nullE cols b then (litE 1 (intW 0),true) else (e,false)).2]:=⟨by
 haveI:=cal94 a cols (wf_arg hw a (by simp [hab]))
 haveI:=cal94 b cols (wf_arg hw b (by simp [hab]))
 have het:Expr.mk 6 e.n e.m e.kind e.lit [a,b] e.rels=e:=by rw [← hab,← h];exact expr_eta e
 try simp only [nullE]
 have msk:Msk 340282366901131422539660617853962287112 340282366901131422539660617853962287112:=⟨⟩
 refine CallP.of_bodyN 128 cfg_ok Tryz.func99 rfl rfl (by kernel_rfl) fun base=>?_;simp only [mkA,Nat.reduceAdd]
 refine wpA_ok 0 rfl fun ok0=>?_
 refine wpA_ok 1 rfl fun ok1=>?_
 exact walk⟩
theorem v99_7 (h:e.op=7) (a b:Expr) (hab:e.args=[a,b]):Cal 99 [e.p,.lst (Col.ps cols)] [(if isV b (intW 1) then (a,true) else (e,false)).1.p,.bool (if isV b (intW 1) then (a,true) else (e,false)).2]:=⟨by
 haveI:=cal94 a cols (wf_arg hw a (by simp [hab]))
 haveI:=cal94 b cols (wf_arg hw b (by simp [hab]))
 have het:Expr.mk 7 e.n e.m e.kind e.lit [a,b] e.rels=e:=by rw [← hab,← h];exact expr_eta e
 try simp only [nullE]
 have msk:Msk 340282366901131422539660617853962287112 340282366901131422539660617853962287112:=⟨⟩
 refine CallP.of_bodyN 128 cfg_ok Tryz.func99 rfl rfl (by kernel_rfl) fun base=>?_;simp only [mkA,Nat.reduceAdd]
 refine wpA_ok 0 rfl fun ok0=>?_
 refine wpA_ok 1 rfl fun ok1=>?_
 exact walk⟩
theorem v99_8 (h:e.op=8) (a b:Expr) (hab:e.args=[a,b]):Cal 99 [e.p,.lst (Col.ps cols)] [((e,false)).1.p,.bool ((e,false)).2]:=⟨by
 haveI:=cal94 a cols (wf_arg hw a (by simp [hab]))
 haveI:=cal94 b cols (wf_arg hw b (by simp [hab]))
 have het:Expr.mk 8 e.n e.m e.kind e.lit [a,b] e.rels=e:=by rw [← hab,← h];exact expr_eta e
 try simp only [nullE]
 have msk:Msk 340282366901131422539660617853962287112 340282366901131422539660617853962287112:=⟨⟩
 refine CallP.of_bodyN 128 cfg_ok Tryz.func99 rfl rfl (by kernel_rfl) fun base=>?_;simp only [mkA,Nat.reduceAdd]
 refine wpA_ok 0 rfl fun ok0=>?_
 refine wpA_ok 1 rfl fun ok1=>?_
 exact walk⟩
theorem v99_10 (h:e.op=10) (a b:Expr) (hab:e.args=[a,b]):Cal 99 [e.p,.lst (Col.ps cols)] [(if isV b (textW ⟨#[]⟩) then (a,true) else if isV a (textW ⟨#[]⟩) then (b,true) else (e,false)).1.p,.bool (if isV b (textW ⟨#[]⟩) then (a,true) else if isV a (textW ⟨#[]⟩) then (b,true) else (e,false)).2]:=⟨by
 haveI:=cal94 a cols (wf_arg hw a (by simp [hab]))
 haveI:=cal94 b cols (wf_arg hw b (by simp [hab]))
 have het:Expr.mk 10 e.n e.m e.kind e.lit [a,b] e.rels=e:=by rw [← hab,← h];exact expr_eta e
 try simp only [nullE]
 have msk:Msk 340282366901131422539660617853962287112 340282366901131422539660617853962287112:=⟨⟩
 refine CallP.of_bodyN 128 cfg_ok Tryz.func99 rfl rfl (by kernel_rfl) fun base=>?_;simp only [mkA,Nat.reduceAdd]
 refine wpA_ok 0 rfl fun ok0=>?_
 refine wpA_ok 1 rfl fun ok1=>?_
 exact walk⟩
theorem v99_9 (h:e.op=9) (a:Expr) (hab:e.args=[a]):Cal 99 [e.p,.lst (Col.ps cols)] [e.p,.bool false]:=⟨by
 haveI:=cal94 a cols (wf_arg hw a (by simp [hab]))
 have het:Expr.mk 9 e.n e.m e.kind e.lit [a] e.rels=e:=by rw [← hab,← h];exact expr_eta e
 have msk:Msk 340282366901131422539660617853962287112 340282366901131422539660617853962287112:=⟨⟩
 refine CallP.of_bodyN 128 cfg_ok Tryz.func99 rfl rfl (by kernel_rfl) fun base=>?_;simp only [mkA,Nat.reduceAdd]
 refine wpA_ok 0 rfl fun ok0=>?_
 refine wpA_ok 1 rfl fun ok1=>?_
 exact walk⟩
theorem v99_11 (h:e.op=11) (a:Expr) (hab:e.args=[a]):Cal 99 [e.p,.lst (Col.ps cols)] [e.p,.bool false]:=⟨by
 haveI:=cal94 a cols (wf_arg hw a (by simp [hab]))
 have het:Expr.mk 11 e.n e.m e.kind e.lit [a] e.rels=e:=by rw [← hab,← h];exact expr_eta e
 have msk:Msk 340282366901131422539660617853962287112 340282366901131422539660617853962287112:=⟨⟩
 refine CallP.of_bodyN 128 cfg_ok Tryz.func99 rfl rfl (by kernel_rfl) fun base=>?_;simp only [mkA,Nat.reduceAdd]
 refine wpA_ok 0 rfl fun ok0=>?_
 refine wpA_ok 1 rfl fun ok1=>?_
 exact walk⟩
end
end
section
attribute [local simp] wl0 wl1 wl2 wl3 wl4 wl5 wl6 wl7 wl8 wl9 wl10 wl11 wl12 wl13 wl14 wl15 wl16 wl17 wl18 wl19 wl20
attribute [local simp high] evalOp_fieldP
attribute [local simp] fldV_p fldV_agg aggP_agg aggP_col aggP_val aggP_expr
theorem case1_eq (e:Expr) (n:Nat) (hn:e.args.length=n + 1) (i:Nat):case1 e n i=if h:i < n then
  (if isLit (e.args[i]'(by omega)) then
   (oneOr e (if trueV (e.args[i]'(by omega)).lit then e.args.take i ++ [e.args[i + 1]'(by omega)] else e.args.take i ++ e.args.drop (i + 2)),true)
  else case1 e n (i + 2))
 else case2 e n 1:=by
 rw [case1]
 split
 ·rename_i h
  rw [getD_E _ _ (by omega),getD_E _ _ (by omega)]
 ·rfl
theorem case2_eq (e:Expr) (n:Nat) (hn:e.args.length=n + 1) (i:Nat):case2 e n i=if h:i < n then (if sameE (e.args[i]'(by omega)) (lastE e.args) then case2 e n (i + 2) else (e,false)) else (lastE e.args,true):=by
 rw [case2]
 split
 ·rename_i h
  rw [getD_E _ _ (by omega)]
 ·rfl
theorem lastE_get {l:List Expr} {n:Nat} (h:l.length=n + 1):l[n]'(by omega)=lastE l:=by
 have h0:0 < l.length:=by omega
 rw [show lastE l=l.getLast (List.ne_nil_of_length_pos h0) by cases l with | nil=>simp at h0 | cons a r=>rfl]
 rw [List.getLast_eq_getElem]
 congr 1;omega
attribute [local simp] oneOr setA in
theorem cal96 (e:Expr) (hw:wf e=true) (n:Nat) (hn:e.args.length=n + 1) (h2:2 ≤ n):Cal 96 [e.p] [(casesE e).1.p,.bool (casesE e).2]:=⟨by
 have hl:=wf_len hw
 have hst0:Hid (∀ i:Nat,_):=⟨case1_eq e n hn⟩
 have hst1:Hid (∀ i:Nat,_):=⟨fun i:Nat=>case2_eq e n hn (i + 1)⟩
 have heq:casesE e=case1 e n 0:=by rw [casesE,hn];rfl
 have hlast:=lastE_get hn
 have hwn:IntKind.wrap .i64 ((n:Int) + 1 - 1)=(n:Int):=by rw [Int.add_sub_cancel];exact wrap_nat (by omega)
 have hwn':IntKind.wrap .i64 (n:Int)=(n:Int):=wrap_nat (by omega)
 have g1:∀ i,i < n→i ≤ n:=fun i _=>by omega
 have g2:∀ i,i < n→i + 1 ≤ n:=fun i _=>by omega
 have g3:∀ i,i < n→i + 2 ≤ n + 1:=fun i _=>by omega
 have g4:∀ i,i < n→min i (n + 1)=i:=fun i _=>by omega
 have g5:∀ i,i < n→i < n + 1:=fun i _=>by omega
 have g6:∀ i,i < n→roomFor (i + 1) 112=true:=fun i _=>roomFor_of (by omega) (by decide)
 have g6':∀ i,i < n→roomFor i 112=true:=fun i _=>roomFor_of (by omega) (by decide)
 have g7:∀ i:Nat,(0:Int) ≤ (i:Int) + 1:=fun i=>by omega
 have g8:∀ i:Nat,((i:Int) + 1).toNat=i + 1:=fun i=>by omega
 have g9:∀ i:Nat,(0:Int) ≤ (i:Int) + 2:=fun i=>by omega
 have g10:∀ i:Nat,((i:Int) + 2).toNat=i + 2:=fun i=>by omega
 have g11:∀ i:Nat,i < n→IntKind.wrap .i64 ((i:Int) + 2)=(i:Int) + 2:=fun i h=>wrap_nat (n:=i + 2) (by omega)
 have g12:∀ i:Nat,i < n→i + (n + 1 - (i + 2))=n - 1:=fun i h=>by omega
 have g13:∀ i:Nat,i < n→i + (n - (i + 1))=n - 1:=fun i h=>by omega
 have g14:0 < n - 1:=by omega
 have g15:roomFor (n - 1) 112=true:=roomFor_of (by omega) (by decide)
 have g16:∀ i,i < n→i + 1 < n + 1:=fun i _=>by omega
 have g17:∀ i:Nat,((i:Int) + 1 < (n:Int))=(i + 1 < n):=fun i=>by simp;omega
 have g18:∀ i:Nat,i + 1 < n→i + 1 < n + 1:=fun i _=>by omega
 have g19:∀ i:Nat,i + 1 < n→IntKind.wrap .i64 ((i:Int) + 1 + 2)=(i:Int) + 2 + 1:=fun i h=>by rw [show (i:Int) + 1 + 2=((i + 3:Nat):Int) by omega,wrap_nat (by omega)];omega
 have g20:∀ (i:Nat) (h:i < n) (h2:0 < (e.args.take i ++ [e.args[i + 1]'(by omega)]).length),(e.args.take i ++ [e.args[i + 1]'(by omega)])[0]'h2=hdE (e.args.take i ++ [e.args[i + 1]'(by omega)]):=fun i h h2=>hdE_get h2
 have g21:∀ (i:Nat) (h:0 < (e.args.take i ++ e.args.drop (i + 2)).length),(e.args.take i ++ e.args.drop (i + 2))[0]'h=hdE (e.args.take i ++ e.args.drop (i + 2)):=fun i h=>hdE_get h
 have g22:e.args.take (n + 1)=e.args:=by rw [← hn,List.take_length]
 clear hw
 have msk:Msk 4913072160507239492172627712 4951760157141521099596496640:=⟨⟩
 refine CallP.of_bodyN 92 cfg_ok Tryz.func96 rfl rfl (by kernel_rfl) fun base=>?_;simp only [mkA,Nat.reduceAdd]
 refine wpA_ok 0 rfl fun ok0=>?_
 have ld0:LD (σ:=Nat) 0 590295810358705647720 [6,32,44,47] (fun y_=>(fun i=>[(5,.p (.int .i64 i))]) y_) (fun y_=>(fun i=>[]) y_) (fun y_=>(fun i=>InvL (i ≤ n + 1) (True) (case1 e n i=casesE e)) y_) (fun y_=>(fun i=>n + 1 - i) y_) (0) [] (fun y_=>(fun i=>i < n) y_) (fun y_ (h:(fun i=>i < n) y_)=>(fun i (h:i < n)=>i + 2) y_ h) (fun y_ (h:(fun i=>i < n) y_)=>(fun i (h:i < n)=>i + 2) y_ h):=⟨⟩
 have ld1:LD (σ:=Nat) 2 154741914614862175656738952 [] (fun y_=>(fun i=>[(7,.p (.int .i64 ((i:Int) + 1)))]) y_) (fun y_=>(fun i=>[]) y_) (fun y_=>(fun i=>InvL (i ≤ n) (True) (case2 e n (i + 1)=case2 e n 1)) y_) (fun y_=>(fun i=>n - i) y_) (0) [] (fun y_=>(fun i=>i + 1 < n) y_) (fun y_ (h:(fun i=>i + 1 < n) y_)=>(fun i (h:i + 1 < n)=>i + 2) y_ h) (fun y_ (h:(fun i=>i + 1 < n) y_)=>(fun i (h:i + 1 < n)=>i + 2) y_ h):=⟨⟩
 set_option hygiene false in
 repeat' (first
  | (refine wpA_seqD cfg_ok mix msk (by decide +kernel) fun K hK=>?_)
  | (refine wpA_seq ?_)
  | (refine wpA_block ?_)
  | (refine thenR_normal ?_)
  | (refine thenR_ret ?_)
  | (refine thenR_exit ?_)
  | (refine blockR_normal ?_)
  | (refine blockR_ret ?_)
  | (refine blockR_same ?_)
  | (refine blockR_other rfl ?_)
  | (refine wpA_skip ?_)
  | (refine wpA_ret ?_)
  | (refine wpA_exit ?_)
  | (refine wpA_regD cfg_ok mix msk (by decide +kernel) fun K hK=>?_)
  | (refine hK.out _ _ _ _ _ (by first | (intro h;cases h;done) | (intro _;kernel_rfl)) ?_;clear hK;clear K;try simp only [dropA,Nat.reducePow,Nat.reduceDiv,Nat.reduceMod, ↓reduceIte,Nat.reduceOr,Nat.zero_ne_one])
  | (refine wpA_condD msk (by first | (simp -implicitDefEqProofs [*];done) | (simp -implicitDefEqProofs [*];rfl)) ?_;try simp only [dropA,Nat.reducePow,Nat.reduceDiv,Nat.reduceMod, ↓reduceIte,Nat.reduceOr,Nat.zero_ne_one])
  | (refine bodyR_ret (by first | (simp -implicitDefEqProofs [*];done) | (simp -implicitDefEqProofs [*];rfl)) ?_)
  | (refine bodyR_normal (by first | (simp -implicitDefEqProofs [*];done) | (simp -implicitDefEqProofs [*];rfl)) ?_)
  | (refine runM_id ?_;simp -implicitDefEqProofs)
  | (refine mV_id ?_;simp -implicitDefEqProofs [*])
  | (refine mG_id ?_;simp -implicitDefEqProofs [*])
  | (refine mD_id ?_;simp -implicitDefEqProofs [*])
  | (refine mQ_intro Cal.out ?_)
  | (refine mR_intro (fun _=>Cal.out) ?_)
  | (refine mR_no ?_)
  | (refine mQ_id ?_;simp -implicitDefEqProofs [*])
  | (refine mR_id ?_;simp -implicitDefEqProofs [*])
  | (refine goB_true ?_)
  | (refine goB_false ?_)
  | (refine headLD ld0 leS (by first | exact ⟨by first | exact Nat.zero_le _ | omega,by first | trivial | (simp -implicitDefEqProofs [*];done),by first | rfl | (simp -implicitDefEqProofs [*];done)⟩ | (simp -implicitDefEqProofs [*];done)) ?_;rintro x0 ⟨hi0,hs0,hn0⟩ ny0 nz0;(try simp only [headM,List.nil_append,List.cons_append,dropA,Nat.reducePow,Nat.reduceDiv,Nat.reduceMod, ↓reduceIte,Nat.reduceOr,Nat.zero_ne_one]);have hj0:x0.1 ≤ 4294967296:=by omega)
  | (refine headLD ld0 leS (by first | exact ⟨by first | exact Nat.zero_le _ | omega,by first | trivial | (simp -implicitDefEqProofs [*];done),by first | rfl | (simp -implicitDefEqProofs [*];done)⟩ | (simp -implicitDefEqProofs [*];done)) ?_;rintro x0 ⟨hi0,hs0,hn0⟩ ny0 nz0;(try simp only [headM,List.nil_append,List.cons_append,dropA,Nat.reducePow,Nat.reduceDiv,Nat.reduceMod, ↓reduceIte,Nat.reduceOr,Nat.zero_ne_one]);have hj0:x0 ≤ 4294967296:=by omega)
  | (refine headLD ld1 leS (by first | exact ⟨by first | exact Nat.zero_le _ | omega,by first | trivial | (simp -implicitDefEqProofs [*];done),by first | rfl | (simp -implicitDefEqProofs [*];done)⟩ | (simp -implicitDefEqProofs [*];done)) ?_;rintro x1 ⟨hi1,hs1,hn1⟩ ny1 nz1;(try simp only [headM,List.nil_append,List.cons_append,dropA,Nat.reducePow,Nat.reduceDiv,Nat.reduceMod, ↓reduceIte,Nat.reduceOr,Nat.zero_ne_one]);have hj1:x1.1 ≤ 4294967296:=by omega)
  | (refine headLD ld1 leS (by first | exact ⟨by first | exact Nat.zero_le _ | omega,by first | trivial | (simp -implicitDefEqProofs [*];done),by first | rfl | (simp -implicitDefEqProofs [*];done)⟩ | (simp -implicitDefEqProofs [*];done)) ?_;rintro x1 ⟨hi1,hs1,hn1⟩ ny1 nz1;(try simp only [headM,List.nil_append,List.cons_append,dropA,Nat.reducePow,Nat.reduceDiv,Nat.reduceMod, ↓reduceIte,Nat.reduceOr,Nat.zero_ne_one]);have hj1:x1 ≤ 4294967296:=by omega)
  | (refine goB_intro (fun h=>?_) (fun h=>?_) <;> (try simp only [Bool.not_eq_true',Bool.not_eq_false',Bool.not_eq_true,Bool.not_eq_false,Bool.and_eq_true,Bool.or_eq_false_iff,and_assoc,decide_eq_true_eq,decide_eq_false_iff_not,Nat.not_lt,Nat.not_le,Int.ofNat_lt,Int.ofNat_le,Int.not_lt,Int.not_le] at h) <;> (try have g:=ne_of_beqI h) <;> (repeat (have h':=And.left h;replace h:=And.right h)) <;> (try (have hz0:=Eq.symm hn0;rw [List.drop_eq_nil_of_le h] at hz0;simp -implicitDefEqProofs at hz0)) <;> (try (have hz1:=Eq.symm hn1;rw [List.drop_eq_nil_of_le h] at hz1;simp -implicitDefEqProofs at hz1)) <;> (try (have hz3:=Eq.symm hn3;rw [List.drop_eq_nil_of_le h] at hz3;simp -implicitDefEqProofs at hz3)) <;> (try (have hz0:=Eq.symm hn0;rw [hst0.out] at hz0;rw [dif_neg (by first | exact Nat.not_lt.mpr h | omega)] at hz0)) <;> (try (have hz1:=Eq.symm hn1;rw [hst1.out] at hz1;rw [dif_neg (by first | exact Nat.not_lt.mpr h | omega)] at hz1)) <;> (try (have hz2:=Eq.symm hn2;rw [hst2.out] at hz2;rw [dif_neg (by first | exact Nat.not_lt.mpr h | omega)] at hz2)) <;> (try (have hz3:=Eq.symm hn3;rw [hst3.out] at hz3;rw [dif_neg (by first | exact Nat.not_lt.mpr h | omega)] at hz3))))
 all_goals first
  | (refine again_nx ny1 (by assumption) (by dsimp only;omega) ?_ leS;rw [hst1.out,dif_pos (by assumption),if_pos (by assumption)] at hn1;exact ⟨by dsimp only;omega,trivial,hn1⟩)
  | (refine again_nx ny0 (by assumption) (by dsimp only;omega) ?_ leS;rw [hst0.out,dif_pos (by assumption),if_neg (by simp [*])] at hn0;exact ⟨by dsimp only;omega,trivial,hn0⟩)
  | (rw [hst0.out,dif_neg (by omega)] at hn0;rw [hst1.out,dif_pos (by assumption),if_neg (by simp [*])] at hn1;rw [← hn0,← hn1])
  | (rw [hst0.out,dif_neg (by omega)] at hn0;rw [hst1.out,dif_neg (by omega)] at hn1;rw [← hn0,← hn1])
  | (rw [hst0.out,dif_pos (by assumption),if_pos (by assumption)] at hn0;rw [← hn0];simp [*])⟩
end
section
attribute [local simp] wl0 wl1 wl2 wl3 wl4 wl5 wl6 wl7 wl8 wl9 wl10 wl11 wl12 wl13 wl14 wl15 wl16 wl17 wl18 wl19 wl20
attribute [local simp high] evalOp_fieldP
attribute [local simp] fldV_p fldV_agg aggP_agg aggP_col aggP_val aggP_expr
attribute [local simp] constL litE allSmall_nil allSmall_app in
theorem cal91 (e:Expr) (cols:List Col) (hw:wf e=true) (h79:∀ l:List Val,l.length=e.args.length→allSmall l=true→Cal 79 [e.p,.lst (Val.ps l)] [(valueV e l).p]):Cal 91 [e.p,.lst (Col.ps cols)] [(constantE e cols).1.p,.bool (constantE e cols).2]:=⟨by
 haveI:=cal94 e cols hw
 have pc0:∀ {l:List Val},(e.args.length ≤ l.length∧l.length ≤ e.args.length∧allSmall l=true)→CallP cfg Tryz.prog 79 [e.p,.lst (Val.ps l)] [(valueV e l).p]:=fun {l} h=>(h79 l (by omega) h.2.2).out
 clear h79
 have hsm:∀ (i:Nat) (h:i < e.args.length),isLit e.args[i]=true→smallV e.args[i].lit=true:=by
  intro i h hl
  have h1:=wf_node (wf_get hw h)
  have h3:e.args[i].op=3:=by simpa [isLit] using hl
  simp only [smallV,decide_eq_true_eq]
  exact rightV_size (nodeR_lit h1 h3).1
 rw [show constantE e cols=constL e cols [] e.args from rfl]
 have msk:Msk 1099509526280 1099511627528:=⟨⟩
 refine CallP.of_bodyN 40 cfg_ok Tryz.func91 rfl rfl (by kernel_rfl) fun base=>?_;simp only [mkA,Nat.reduceAdd]
 refine wpA_ok 0 rfl fun ok0=>?_
 refine wpA_ok 1 rfl fun ok1=>?_
 have hl:=okP_args ok0
 have hr:∀ i,i < e.args.length→roomFor (i + 1) 32=true:=fun i _=>roomFor_of (by omega) (by decide)
 have ld0:LD (σ:=Nat × List Val) 0 4294967264 [30] (fun y_=>(fun i acc=>[(7,.p (.int .i64 i)),(6,.own 31 i)]) y_.1 y_.2) (fun y_=>(fun i acc=>[(31,.arr 3 (Val.ps acc) false)]) y_.1 y_.2) (fun y_=>(fun i acc=>InvL (i ≤ (e.args).length) (acc.length=i∧allSmall acc=true) (constL e cols acc (e.args.drop i)=constL e cols [] e.args)) y_.1 y_.2) (fun y_=>(fun i acc=>(e.args).length - i) y_.1 y_.2) ((0,[])) [31] (fun y_=>(fun i acc=>i < (e.args).length) y_.1 y_.2) (fun y_ (h:(fun i acc=>i < (e.args).length) y_.1 y_.2)=>(fun i acc (h:i < (e.args).length)=>(i + 1,acc ++ [e.args[i].lit])) y_.1 y_.2 h) (fun y_ (h:(fun i acc=>i < (e.args).length) y_.1 y_.2)=>(fun i acc (h:i < (e.args).length)=>(i + 1,acc ++ [e.args[i].lit])) y_.1 y_.2 h):=⟨⟩
 exact walk⟩
end
section
attribute [local simp] wl0 wl1 wl2 wl3 wl4 wl5 wl6 wl7 wl8 wl9 wl10 wl11 wl12 wl13 wl14 wl15 wl16 wl17 wl18 wl19 wl20
attribute [local simp high] evalOp_fieldP
attribute [local simp] fldV_p fldV_agg aggP_agg aggP_col aggP_val aggP_expr
def goneW (l:List Expr) (a:Expr) (n:Nat) (g:Bool) (k:Nat):Bool:=if k < n then goneW l a n (g || sameE (l.getD k zeroE) a) (k + 1) else g
termination_by n - k
theorem goneW_eq (l:List Expr) (a:Expr) (n:Nat) (hn:n ≤ l.length) (x:Nat × Bool):goneW l a n x.2 x.1=if h:x.1 < n then goneW l a n (x.2 || sameE (l[x.1]'(by omega)) a) (x.1 + 1) else x.2:=by
 rw [goneW]
 split
 ·rename_i h
  have:x.1 < l.length:=by omega
  simp [List.getD_eq_getElem?_getD,this,h]
 ·rfl
theorem goneW_L (l:List Expr) (a:Expr) (n:Nat) (hn:n ≤ l.length):∀ (d k:Nat) (g:Bool),n - k=d→goneL a g ((l.take n).drop k)=goneW l a n g k:=by
 intro d
 induction d with
 | zero=>
  intro k g h
  rw [goneW,if_neg (by omega),List.drop_eq_nil_of_le (by simp;omega)]
  rfl
 | succ d ih=>
  intro k g h
  have hk:k < (l.take n).length:=by simp;omega
  have hk':k < l.length:=by omega
  rw [goneW,if_pos (by omega),List.drop_eq_getElem_cons hk]
  simp only [goneL]
  rw [ih (k + 1) _ (by omega)]
  simp [List.getD_eq_getElem?_getD,hk']
attribute [local simp] Nat.add_assoc
attribute [local simp] list1 list2 list3 goneL joins spliceE setA in
theorem cal92 (e:Expr) (and:Bool) (hw:wf e=true):Cal 92 [e.p,.bool and] [(listedE e and).1.p,.bool (listedE e and).2]:=⟨by
 have pc0:∀ {i:Nat},i < e.args.length→CallP cfg Tryz.prog 157 [e.p,.int .i64 i] [(withoutE e i).p]:=fun {i} hi=>(cal157 e i hi).out
 have hl:=wf_len hw
 have hargs:∀ (i:Nat) (h:i < e.args.length),e.args[i].args.length ≤ 16:=fun i h=>wf_len (wf_get hw h)
 have w1:IntKind.wrap .i64 ((e.args.length:Int) - 1)=(e.args.length:Int) - 1:=by
  by_cases h:e.args.length=0
  ·rw [h];rfl
  ·exact wrap_of (by omega) (by omega)
 have w2:∀ (i:Nat) (h:i < e.args.length),IntKind.wrap .i64 ((e.args.length:Int) - 1 + (e.args[i].args.length:Int))=(e.args.length:Int) - 1 + (e.args[i].args.length:Int):=fun i h=>wrap_of (by omega) (by have:=hargs i h;omega)
 have h1:∀ i,i < e.args.length→i ≤ e.args.length:=fun i _=>by omega
 have h2:∀ i,i < e.args.length→min i e.args.length=i:=fun i _=>by omega
 have h3:∀ i,i < e.args.length→i + 1 ≤ e.args.length:=fun i _=>by omega
 have h4:∀ i,i < e.args.length→roomFor i 112=true:=fun i _=>roomFor_of (by omega) (by decide)
 have h5:∀ (i:Nat) (h:i < e.args.length),roomFor (i + e.args[i].args.length) 112=true:=fun i h=>roomFor_of (by have:=hargs i h;omega) (by decide)
 have h6:∀ (i:Nat) (h:i < e.args.length),roomFor (i + (e.args[i].args.length + (e.args.length - (i + 1)))) 112=true:=fun i h=>roomFor_of (by have:=hargs i h;omega) (by decide)
 have h7:∀ i:Nat,(0:Int) ≤ (i:Int) + 1:=fun i=>by omega
 have h8:∀ i:Nat,((i:Int) + 1).toNat=i + 1:=fun i=>by omega
 clear hargs hw
 have msk:Msk 659286660750472473212937180587956826120 680564733841876926926749214863536418824:=⟨⟩
 refine CallP.of_bodyN 129 cfg_ok Tryz.func92 rfl rfl (by kernel_rfl) fun base=>?_;simp only [mkA,Nat.reduceAdd]
 refine wpA_ok 0 rfl fun ok0=>?_
 refine wpA_ok 1 rfl fun ok1=>?_
 have ld0:LD (σ:=Nat) 0 2361183241434822602976 [7,44] (fun y_=>(fun i=>[(6,.p (.int .i64 i))]) y_) (fun y_=>(fun i=>[]) y_) (fun y_=>(fun i=>InvL (i ≤ (e.args).length) (True) (list1 e and (e.args.drop i) i=listedE e and)) y_) (fun y_=>(fun i=>(e.args).length - i) y_) (0) [] (fun y_=>(fun i=>i < (e.args).length) y_) (fun y_ (h:(fun i=>i < (e.args).length) y_)=>(fun i (h:i < (e.args).length)=>i + 1) y_ h) (fun y_ (h:(fun i=>i < (e.args).length) y_)=>(fun i (h:i < (e.args).length)=>i + 1) y_ h):=⟨⟩
 have ld1:LD (σ:=Nat) 2 649037107314492270324877218547488 [] (fun y_=>(fun i=>[(8,.p (.int .i64 i))]) y_) (fun y_=>(fun i=>[]) y_) (fun y_=>(fun i=>InvL (i ≤ (e.args).length) (True) (list2 e and (e.args.drop i) i=list2 e and e.args 0)) y_) (fun y_=>(fun i=>(e.args).length - i) y_) (0) [] (fun y_=>(fun i=>i < (e.args).length) y_) (fun y_ (h:(fun i=>i < (e.args).length) y_)=>(fun i (h:i < (e.args).length)=>i + 1) y_ h) (fun y_ (h:(fun i=>i < (e.args).length) y_)=>(fun i (h:i < (e.args).length)=>i + 1) y_ h):=⟨⟩
 set_option hygiene false in
 repeat' (first
  | (refine wpA_seqD cfg_ok mix msk (by decide +kernel) fun K hK=>?_)
  | (refine wpA_seq ?_)
  | (refine wpA_block ?_)
  | (refine thenR_normal ?_)
  | (refine thenR_ret ?_)
  | (refine thenR_exit ?_)
  | (refine blockR_normal ?_)
  | (refine blockR_ret ?_)
  | (refine blockR_same ?_)
  | (refine blockR_other rfl ?_)
  | (refine wpA_skip ?_)
  | (refine wpA_ret ?_)
  | (refine wpA_exit ?_)
  | (refine wpA_regD cfg_ok mix msk (by decide +kernel) fun K hK=>?_)
  | (refine hK.out _ _ _ _ _ (by first | (intro h;cases h;done) | (intro _;kernel_rfl)) ?_;clear hK;clear K;try simp only [dropA,Nat.reducePow,Nat.reduceDiv,Nat.reduceMod, ↓reduceIte,Nat.reduceOr,Nat.zero_ne_one])
  | (refine wpA_condD msk (by first | (simp -implicitDefEqProofs [*];done) | (simp -implicitDefEqProofs [*];rfl)) ?_;try simp only [dropA,Nat.reducePow,Nat.reduceDiv,Nat.reduceMod, ↓reduceIte,Nat.reduceOr,Nat.zero_ne_one])
  | (refine bodyR_ret (by first | (simp -implicitDefEqProofs [*];done) | (simp -implicitDefEqProofs [*];rfl)) ?_)
  | (refine bodyR_normal (by first | (simp -implicitDefEqProofs [*];done) | (simp -implicitDefEqProofs [*];rfl)) ?_)
  | (refine runM_id ?_;simp -implicitDefEqProofs)
  | (refine mV_id ?_;simp -implicitDefEqProofs [*])
  | (refine mG_id ?_;simp -implicitDefEqProofs [*])
  | (refine mD_id ?_;simp -implicitDefEqProofs [*])
  | (refine mQ_intro Cal.out ?_)
  | (refine mR_intro (fun _=>Cal.out) ?_)
  | (refine mR_no ?_)
  | (refine mQ_intro (pc0 (by first | assumption | omega | (simp -implicitDefEqProofs [*];done) | (simp -implicitDefEqProofs;omega))) ?_)
  | (refine mR_intro (fun hw=>pc0 (by first | assumption | omega | (simp -implicitDefEqProofs [*];done) | (simp -implicitDefEqProofs at hw;simp -implicitDefEqProofs [*];done))) ?_)
  | (refine mQ_id ?_;simp -implicitDefEqProofs [*])
  | (refine mR_id ?_;simp -implicitDefEqProofs [*])
  | (refine goB_true ?_)
  | (refine goB_false ?_)
  | (refine headLD ld0 leS (by first | exact ⟨by first | exact Nat.zero_le _ | omega,by first | trivial | (simp -implicitDefEqProofs [*];done),by first | rfl | (simp -implicitDefEqProofs [*];done)⟩ | (simp -implicitDefEqProofs [*];done)) ?_;rintro x0 ⟨hi0,hs0,hn0⟩ ny0 nz0;(try simp only [headM,List.nil_append,List.cons_append,dropA,Nat.reducePow,Nat.reduceDiv,Nat.reduceMod, ↓reduceIte,Nat.reduceOr,Nat.zero_ne_one]);have hj0:x0.1 ≤ 4294967296:=by omega)
  | (refine headLD ld0 leS (by first | exact ⟨by first | exact Nat.zero_le _ | omega,by first | trivial | (simp -implicitDefEqProofs [*];done),by first | rfl | (simp -implicitDefEqProofs [*];done)⟩ | (simp -implicitDefEqProofs [*];done)) ?_;rintro x0 ⟨hi0,hs0,hn0⟩ ny0 nz0;(try simp only [headM,List.nil_append,List.cons_append,dropA,Nat.reducePow,Nat.reduceDiv,Nat.reduceMod, ↓reduceIte,Nat.reduceOr,Nat.zero_ne_one]);have hj0:x0 ≤ 4294967296:=by omega)
  | (refine headLD ld1 leS (by first | exact ⟨by first | exact Nat.zero_le _ | omega,by first | trivial | (simp -implicitDefEqProofs [*];done),by first | rfl | (simp -implicitDefEqProofs [*];done)⟩ | (simp -implicitDefEqProofs [*];done)) ?_;rintro x1 ⟨hi1,hs1,hn1⟩ ny1 nz1;(try simp only [headM,List.nil_append,List.cons_append,dropA,Nat.reducePow,Nat.reduceDiv,Nat.reduceMod, ↓reduceIte,Nat.reduceOr,Nat.zero_ne_one]);have hj1:x1.1 ≤ 4294967296:=by omega)
  | (refine headLD ld1 leS (by first | exact ⟨by first | exact Nat.zero_le _ | omega,by first | trivial | (simp -implicitDefEqProofs [*];done),by first | rfl | (simp -implicitDefEqProofs [*];done)⟩ | (simp -implicitDefEqProofs [*];done)) ?_;rintro x1 ⟨hi1,hs1,hn1⟩ ny1 nz1;(try simp only [headM,List.nil_append,List.cons_append,dropA,Nat.reducePow,Nat.reduceDiv,Nat.reduceMod, ↓reduceIte,Nat.reduceOr,Nat.zero_ne_one]);have hj1:x1 ≤ 4294967296:=by omega)
  | (refine goB_intro (fun h=>?_) (fun h=>?_) <;> (try simp only [Bool.not_eq_true',Bool.not_eq_false',Bool.not_eq_true,Bool.not_eq_false,Bool.and_eq_true,Bool.or_eq_false_iff,and_assoc,decide_eq_true_eq,decide_eq_false_iff_not,Nat.not_lt,Nat.not_le,Int.ofNat_lt,Int.ofNat_le,Int.not_lt,Int.not_le] at h) <;> (try have g:=ne_of_beqI h) <;> (repeat (have h':=And.left h;replace h:=And.right h)) <;> (try (have hz0:=Eq.symm hn0;rw [List.drop_eq_nil_of_le h] at hz0;simp -implicitDefEqProofs at hz0)) <;> (try (have hz1:=Eq.symm hn1;rw [List.drop_eq_nil_of_le h] at hz1;simp -implicitDefEqProofs at hz1)) <;> (try (have hz3:=Eq.symm hn3;rw [List.drop_eq_nil_of_le h] at hz3;simp -implicitDefEqProofs at hz3)) <;> (try (have hz0:=Eq.symm hn0;rw [hst0.out] at hz0;rw [dif_neg (by first | exact Nat.not_lt.mpr h | omega)] at hz0)) <;> (try (have hz1:=Eq.symm hn1;rw [hst1.out] at hz1;rw [dif_neg (by first | exact Nat.not_lt.mpr h | omega)] at hz1)) <;> (try (have hz2:=Eq.symm hn2;rw [hst2.out] at hz2;rw [dif_neg (by first | exact Nat.not_lt.mpr h | omega)] at hz2)) <;> (try (have hz3:=Eq.symm hn3;rw [hst3.out] at hz3;rw [dif_neg (by first | exact Nat.not_lt.mpr h | omega)] at hz3))))
 ·rw [List.drop_eq_getElem_cons (by assumption)] at hn0
  rw [← hn0]
  have g1:joins e e.args[x0]=true:=by
   simp only [joins,Bool.and_eq_true,decide_eq_true_eq]
   exact ⟨by first | assumption | simp [*],h⟩
  simp only [list1]
  rw [if_pos g1]
  simp [spliceE,setA]
 ·refine again_nx ny0 (by assumption) (by dsimp only;omega) ?_ leS
  rw [List.drop_eq_getElem_cons (by assumption)] at hn0
  have hj:joins e e.args[x0]=false:=h
  simp only [list1] at hn0
  rw [if_neg (by rw [hj];simp)] at hn0
  exact ⟨by dsimp only;omega,trivial,hn0⟩
 ·have hgone:goneL e.args[x1] (isV e.args[x1] (boolW and)) (e.args.take x1)=goneW e.args e.args[x1] x1 (isV e.args[x1] (boolW and)) 0:=goneW_L e.args e.args[x1] x1 (by omega) x1 0 (isV e.args[x1] (boolW and)) rfl
  have hst2:Hid (∀ x:Nat × Bool,_):=⟨goneW_eq e.args e.args[x1] x1 (by omega)⟩
  have b2:∀ k,k < x1→k < e.args.length:=fun k hk=>by omega
  have ld2:LD (σ:=Nat × Bool) 4 40564741836050885511627321378304 [] (fun y_=>(fun k g=>[(10,.p (.int .i64 k)),(9,.p (.bool g))]) y_.1 y_.2) (fun y_=>(fun k g=>[]) y_.1 y_.2) (fun y_=>(fun k g=>InvL (k ≤ x1) (True) (goneW e.args e.args[x1] x1 g k=goneW e.args e.args[x1] x1 (isV e.args[x1] (boolW and)) 0)) y_.1 y_.2) (fun y_=>(fun k g=>x1 - k) y_.1 y_.2) ((0,isV e.args[x1] (boolW and))) [] (fun y_=>(fun k g=>k < x1) y_.1 y_.2) (fun y_ (h:(fun k g=>k < x1) y_.1 y_.2)=>(fun k g (h:k < x1)=>(k + 1,g || sameE (e.args[k]'(by omega)) e.args[x1])) y_.1 y_.2 h) (fun y_ (h:(fun k g=>k < x1) y_.1 y_.2)=>(fun k g (h:k < x1)=>(k + 1,g || sameE (e.args[k]'(by omega)) e.args[x1])) y_.1 y_.2 h):=⟨⟩
  set_option hygiene false in
  repeat' (first
   | (refine wpA_seqD cfg_ok mix msk (by decide +kernel) fun K hK=>?_)
   | (refine wpA_seq ?_)
   | (refine wpA_block ?_)
   | (refine thenR_normal ?_)
   | (refine thenR_ret ?_)
   | (refine thenR_exit ?_)
   | (refine blockR_normal ?_)
   | (refine blockR_ret ?_)
   | (refine blockR_same ?_)
   | (refine blockR_other rfl ?_)
   | (refine wpA_skip ?_)
   | (refine wpA_ret ?_)
   | (refine wpA_exit ?_)
   | (refine wpA_regD cfg_ok mix msk (by decide +kernel) fun K hK=>?_)
   | (refine hK.out _ _ _ _ _ (by first | (intro h;cases h;done) | (intro _;kernel_rfl)) ?_;clear hK;clear K;try simp only [dropA,Nat.reducePow,Nat.reduceDiv,Nat.reduceMod, ↓reduceIte,Nat.reduceOr,Nat.zero_ne_one])
   | (refine wpA_condD msk (by first | (simp -implicitDefEqProofs [*];done) | (simp -implicitDefEqProofs [*];rfl)) ?_;try simp only [dropA,Nat.reducePow,Nat.reduceDiv,Nat.reduceMod, ↓reduceIte,Nat.reduceOr,Nat.zero_ne_one])
   | (refine bodyR_ret (by first | (simp -implicitDefEqProofs [*];done) | (simp -implicitDefEqProofs [*];rfl)) ?_)
   | (refine bodyR_normal (by first | (simp -implicitDefEqProofs [*];done) | (simp -implicitDefEqProofs [*];rfl)) ?_)
   | (refine runM_id ?_;simp -implicitDefEqProofs)
   | (refine mV_id ?_;simp -implicitDefEqProofs [*])
   | (refine mG_id ?_;simp -implicitDefEqProofs [*])
   | (refine mD_id ?_;simp -implicitDefEqProofs [*])
   | (refine mQ_intro Cal.out ?_)
   | (refine mR_intro (fun _=>Cal.out) ?_)
   | (refine mR_no ?_)
   | (refine mQ_intro (pc0 (by first | assumption | omega | (simp -implicitDefEqProofs [*];done) | (simp -implicitDefEqProofs;omega))) ?_)
   | (refine mR_intro (fun hw=>pc0 (by first | assumption | omega | (simp -implicitDefEqProofs [*];done) | (simp -implicitDefEqProofs at hw;simp -implicitDefEqProofs [*];done))) ?_)
   | (refine mQ_id ?_;simp -implicitDefEqProofs [*])
   | (refine mR_id ?_;simp -implicitDefEqProofs [*])
   | (refine goB_true ?_)
   | (refine goB_false ?_)
   | (refine headLD ld0 leS (by first | exact ⟨by first | exact Nat.zero_le _ | omega,by first | trivial | (simp -implicitDefEqProofs [*];done),by first | rfl | (simp -implicitDefEqProofs [*];done)⟩ | (simp -implicitDefEqProofs [*];done)) ?_;rintro x0 ⟨hi0,hs0,hn0⟩ ny0 nz0;(try simp only [headM,List.nil_append,List.cons_append,dropA,Nat.reducePow,Nat.reduceDiv,Nat.reduceMod, ↓reduceIte,Nat.reduceOr,Nat.zero_ne_one]);have hj0:x0.1 ≤ 4294967296:=by omega)
   | (refine headLD ld0 leS (by first | exact ⟨by first | exact Nat.zero_le _ | omega,by first | trivial | (simp -implicitDefEqProofs [*];done),by first | rfl | (simp -implicitDefEqProofs [*];done)⟩ | (simp -implicitDefEqProofs [*];done)) ?_;rintro x0 ⟨hi0,hs0,hn0⟩ ny0 nz0;(try simp only [headM,List.nil_append,List.cons_append,dropA,Nat.reducePow,Nat.reduceDiv,Nat.reduceMod, ↓reduceIte,Nat.reduceOr,Nat.zero_ne_one]);have hj0:x0 ≤ 4294967296:=by omega)
   | (refine headLD ld1 leS (by first | exact ⟨by first | exact Nat.zero_le _ | omega,by first | trivial | (simp -implicitDefEqProofs [*];done),by first | rfl | (simp -implicitDefEqProofs [*];done)⟩ | (simp -implicitDefEqProofs [*];done)) ?_;rintro x1 ⟨hi1,hs1,hn1⟩ ny1 nz1;(try simp only [headM,List.nil_append,List.cons_append,dropA,Nat.reducePow,Nat.reduceDiv,Nat.reduceMod, ↓reduceIte,Nat.reduceOr,Nat.zero_ne_one]);have hj1:x1.1 ≤ 4294967296:=by omega)
   | (refine headLD ld1 leS (by first | exact ⟨by first | exact Nat.zero_le _ | omega,by first | trivial | (simp -implicitDefEqProofs [*];done),by first | rfl | (simp -implicitDefEqProofs [*];done)⟩ | (simp -implicitDefEqProofs [*];done)) ?_;rintro x1 ⟨hi1,hs1,hn1⟩ ny1 nz1;(try simp only [headM,List.nil_append,List.cons_append,dropA,Nat.reducePow,Nat.reduceDiv,Nat.reduceMod, ↓reduceIte,Nat.reduceOr,Nat.zero_ne_one]);have hj1:x1 ≤ 4294967296:=by omega)
   | (refine headLD ld2 leS (by first | exact ⟨by first | exact Nat.zero_le _ | omega,by first | trivial | (simp -implicitDefEqProofs [*];done),by first | rfl | (simp -implicitDefEqProofs [*];done)⟩ | (simp -implicitDefEqProofs [*];done)) ?_;rintro x2 ⟨hi2,hs2,hn2⟩ ny2 nz2;(try simp only [headM,List.nil_append,List.cons_append,dropA,Nat.reducePow,Nat.reduceDiv,Nat.reduceMod, ↓reduceIte,Nat.reduceOr,Nat.zero_ne_one]);have hj2:x2.1 ≤ 4294967296:=by omega)
   | (refine headLD ld2 leS (by first | exact ⟨by first | exact Nat.zero_le _ | omega,by first | trivial | (simp -implicitDefEqProofs [*];done),by first | rfl | (simp -implicitDefEqProofs [*];done)⟩ | (simp -implicitDefEqProofs [*];done)) ?_;rintro x2 ⟨hi2,hs2,hn2⟩ ny2 nz2;(try simp only [headM,List.nil_append,List.cons_append,dropA,Nat.reducePow,Nat.reduceDiv,Nat.reduceMod, ↓reduceIte,Nat.reduceOr,Nat.zero_ne_one]);have hj2:x2 ≤ 4294967296:=by omega)
   | (refine goB_intro (fun h=>?_) (fun h=>?_) <;> (try simp only [Bool.not_eq_true',Bool.not_eq_false',Bool.not_eq_true,Bool.not_eq_false,Bool.and_eq_true,Bool.or_eq_false_iff,and_assoc,decide_eq_true_eq,decide_eq_false_iff_not,Nat.not_lt,Nat.not_le,Int.ofNat_lt,Int.ofNat_le,Int.not_lt,Int.not_le] at h) <;> (try have g:=ne_of_beqI h) <;> (repeat (have h':=And.left h;replace h:=And.right h)) <;> (try (have hz0:=Eq.symm hn0;rw [List.drop_eq_nil_of_le h] at hz0;simp -implicitDefEqProofs at hz0)) <;> (try (have hz1:=Eq.symm hn1;rw [List.drop_eq_nil_of_le h] at hz1;simp -implicitDefEqProofs at hz1)) <;> (try (have hz3:=Eq.symm hn3;rw [List.drop_eq_nil_of_le h] at hz3;simp -implicitDefEqProofs at hz3)) <;> (try (have hz0:=Eq.symm hn0;rw [hst0.out] at hz0;rw [dif_neg (by first | exact Nat.not_lt.mpr h | omega)] at hz0)) <;> (try (have hz1:=Eq.symm hn1;rw [hst1.out] at hz1;rw [dif_neg (by first | exact Nat.not_lt.mpr h | omega)] at hz1)) <;> (try (have hz2:=Eq.symm hn2;rw [hst2.out] at hz2;rw [dif_neg (by first | exact Nat.not_lt.mpr h | omega)] at hz2)) <;> (try (have hz3:=Eq.symm hn3;rw [hst3.out] at hz3;rw [dif_neg (by first | exact Nat.not_lt.mpr h | omega)] at hz3))))
  ·refine again_nx ny2 (by assumption) (by dsimp only;omega) ?_ leS
   rw [hst2.out,dif_pos h] at hn2
   exact ⟨by dsimp only;omega,trivial,hn2⟩
  ·rw [hst2.out,dif_neg (by omega)] at hn2
   rw [List.drop_eq_getElem_cons (by assumption)] at hn1
   simp only [list2] at hn1
   rw [hgone,← hn2,if_pos h] at hn1
   rw [hz0,← hn1]
  ·refine again_nx ny1 (by assumption) (by dsimp only;omega) ?_ leS
   rw [hst2.out,dif_neg (by omega)] at hn2
   rw [List.drop_eq_getElem_cons (by assumption)] at hn1
   simp only [list2] at hn1
   rw [hgone,← hn2,if_neg (by rw [h];simp)] at hn1
   exact ⟨by dsimp only;omega,trivial,hn1⟩
 ·have ld3:LD (σ:=Nat) 6 340281717883831146609921041119727061024 [] (fun y_=>(fun i=>[(11,.p (.int .i64 i))]) y_) (fun y_=>(fun i=>[]) y_) (fun y_=>(fun i=>InvL (i ≤ (e.args).length) (True) (list3 e and (e.args.drop i)=list3 e and e.args)) y_) (fun y_=>(fun i=>(e.args).length - i) y_) (0) [] (fun y_=>(fun i=>i < (e.args).length) y_) (fun y_ (h:(fun i=>i < (e.args).length) y_)=>(fun i (h:i < (e.args).length)=>i + 1) y_ h) (fun y_ (h:(fun i=>i < (e.args).length) y_)=>(fun i (h:i < (e.args).length)=>i + 1) y_ h):=⟨⟩
  exact walk⟩
end
section
attribute [local simp] wl0 wl1 wl2 wl3 wl4 wl5 wl6 wl7 wl8 wl9 wl10 wl11 wl12 wl13 wl14 wl15 wl16 wl17 wl18 wl19 wl20
attribute [local simp high] evalOp_fieldP
attribute [local simp] fldV_p fldV_agg aggP_agg aggP_col aggP_val aggP_expr
theorem cal93 (a:Expr) (hw:wf a=true):Cal 93 [a.p] [(notE a).1.p,.bool (notE a).2]:=by
 by_cases h21:a.op=21
 ·have hi:=nodeR_inner (wf_node hw) (by omega) (by omega) (by omega)
  obtain ⟨x,hx⟩:=len1 ((inner_len hi).1 (by omega))
  rw [show notE a=(x,true) by simp [notE,h21,hx,hdE]]
  exact v93_21 a h21 x hx
 ·by_cases h12:12 ≤ a.op∧a.op ≤ 17
  ·rw [show notE a=(opE (opposite a.op) a.args,true) by simp [notE,h21,h12]]
   exact v93_12 a h12
  ·by_cases h19:a.op=19 ∨ a.op=20
   ·rw [show notE a=(opE (39 - a.op) (a.args.map notL),true) by
     unfold notE
     rw [if_neg (by simpa using h21),if_neg (by simpa using h12),if_pos (by simpa using h19)]
     rfl]
    exact v93_19 a h19
   ·rw [show notE a=(a,false) by
     unfold notE
     rw [if_neg (by simpa using h21),if_neg (by simpa using h12),if_neg (by simpa using h19)]]
    exact v93_no a h21 h12 (by omega) (by omega)
end
section
attribute [local simp] wl0 wl1 wl2 wl3 wl4 wl5 wl6 wl7 wl8 wl9 wl10 wl11 wl12 wl13 wl14 wl15 wl16 wl17 wl18 wl19 wl20
attribute [local simp high] evalOp_fieldP
attribute [local simp] fldV_p fldV_agg aggP_agg aggP_col aggP_val aggP_expr
section
variable (e:Expr) (cols:List Col) (hw:wf e=true)
include hw
theorem s57_none (h:e.args=[]):Cal 57 [e.p,.lst (Col.ps cols)] [e.p,.bool false]:=⟨by
 have het:Expr.mk e.op e.n e.m e.kind e.lit [] e.rels=e:=by rw [← h];exact expr_eta e
 have msk:Msk 85029048264947072000383635074424237576 85070591730234615865843651857933663752:=⟨⟩
 refine CallP.of_bodyN 126 cfg_ok Tryz.func57 rfl rfl (by kernel_rfl) fun base=>?_;simp only [mkA,Nat.reduceAdd]
 refine wpA_ok 0 rfl fun ok0=>?_
 refine wpA_ok 1 rfl fun ok1=>?_
 exact walk⟩
variable (h91:Cal 91 [e.p,.lst (Col.ps cols)] [(constantE e cols).1.p,.bool (constantE e cols).2])
include h91
theorem s57_const (h0:((e.args.length:Int) == 0)=false) (hc:(constantE e cols).2=true):Cal 57 [e.p,.lst (Col.ps cols)] [(constantE e cols).1.p,.bool true]:=⟨by
 have msk:Msk 85029048264947072000383635074424237576 85070591730234615865843651857933663752:=⟨⟩
 refine CallP.of_bodyN 126 cfg_ok Tryz.func57 rfl rfl (by kernel_rfl) fun base=>?_;simp only [mkA,Nat.reduceAdd]
 refine wpA_ok 0 rfl fun ok0=>?_
 refine wpA_ok 1 rfl fun ok1=>?_
 exact walk⟩
variable (h0:((e.args.length:Int) == 0)=false) (hc:(constantE e cols).2=false)
include h0 hc
theorem s57_19 (h:e.op=19):Cal 57 [e.p,.lst (Col.ps cols)] [((listedE e true).1).p,.bool ((listedE e true).2)]:=⟨by
 haveI:=cal92 e true hw
 have msk:Msk 85029048264947072000383635074424237576 85070591730234615865843651857933663752:=⟨⟩
 refine CallP.of_bodyN 126 cfg_ok Tryz.func57 rfl rfl (by kernel_rfl) fun base=>?_;simp only [mkA,Nat.reduceAdd]
 refine wpA_ok 0 rfl fun ok0=>?_
 refine wpA_ok 1 rfl fun ok1=>?_
 exact walk⟩
theorem s57_20 (h:e.op=20):Cal 57 [e.p,.lst (Col.ps cols)] [((listedE e false).1).p,.bool ((listedE e false).2)]:=⟨by
 haveI:=cal92 e false hw
 have msk:Msk 85029048264947072000383635074424237576 85070591730234615865843651857933663752:=⟨⟩
 refine CallP.of_bodyN 126 cfg_ok Tryz.func57 rfl rfl (by kernel_rfl) fun base=>?_;simp only [mkA,Nat.reduceAdd]
 refine wpA_ok 0 rfl fun ok0=>?_
 refine wpA_ok 1 rfl fun ok1=>?_
 exact walk⟩
theorem s57_21 (h:e.op=21) (a:Expr) (hab:e.args=[a]):Cal 57 [e.p,.lst (Col.ps cols)] [((notE a).1).p,.bool ((notE a).2)]:=⟨by
 haveI:=cal93 a (wf_arg hw a (by simp [hab]))
 have msk:Msk 85029048264947072000383635074424237576 85070591730234615865843651857933663752:=⟨⟩
 refine CallP.of_bodyN 126 cfg_ok Tryz.func57 rfl rfl (by kernel_rfl) fun base=>?_;simp only [mkA,Nat.reduceAdd]
 refine wpA_ok 0 rfl fun ok0=>?_
 refine wpA_ok 1 rfl fun ok1=>?_
 exact walk⟩
theorem s57_22 (h:e.op=22) (a:Expr) (hab:e.args=[a]):Cal 57 [e.p,.lst (Col.ps cols)] [(truthE false).p,.bool (!(kindE cols a).1.null)]:=⟨by
 haveI:=cal94 a cols (wf_arg hw a (by simp [hab]))
 have msk:Msk 85029048264947072000383635074424237576 85070591730234615865843651857933663752:=⟨⟩
 refine CallP.of_bodyN 126 cfg_ok Tryz.func57 rfl rfl (by kernel_rfl) fun base=>?_;simp only [mkA,Nat.reduceAdd]
 refine wpA_ok 0 rfl fun ok0=>?_
 refine wpA_ok 1 rfl fun ok1=>?_
 exact walk⟩
theorem s57_23 (h:e.op=23) (a:Expr) (hab:e.args=[a]):Cal 57 [e.p,.lst (Col.ps cols)] [(a).p,.bool (!(kindE cols a).1.null)]:=⟨by
 haveI:=cal94 a cols (wf_arg hw a (by simp [hab]))
 have msk:Msk 85029048264947072000383635074424237576 85070591730234615865843651857933663752:=⟨⟩
 refine CallP.of_bodyN 126 cfg_ok Tryz.func57 rfl rfl (by kernel_rfl) fun base=>?_;simp only [mkA,Nat.reduceAdd]
 refine wpA_ok 0 rfl fun ok0=>?_
 refine wpA_ok 1 rfl fun ok1=>?_
 exact walk⟩
theorem s57_18 (h:e.op=18) (a b:Expr) (hab:e.args=[a,b]):Cal 57 [e.p,.lst (Col.ps cols)] [((sameStepE cols a b).1).p,.bool ((sameStepE cols a b).2)]:=⟨by
 haveI:=cal95 e cols hw a b hab
 have msk:Msk 85029048264947072000383635074424237576 85070591730234615865843651857933663752:=⟨⟩
 refine CallP.of_bodyN 126 cfg_ok Tryz.func57 rfl rfl (by kernel_rfl) fun base=>?_;simp only [mkA,Nat.reduceAdd]
 refine wpA_ok 0 rfl fun ok0=>?_
 refine wpA_ok 1 rfl fun ok1=>?_
 exact walk⟩
theorem s57_24 (h:e.op=24) (n:Nat) (hn:e.args.length=n + 1) (h2:2 ≤ n):Cal 57 [e.p,.lst (Col.ps cols)] [((casesE e).1).p,.bool ((casesE e).2)]:=⟨by
 haveI:=cal96 e hw n hn h2
 have msk:Msk 85029048264947072000383635074424237576 85070591730234615865843651857933663752:=⟨⟩
 refine CallP.of_bodyN 126 cfg_ok Tryz.func57 rfl rfl (by kernel_rfl) fun base=>?_;simp only [mkA,Nat.reduceAdd]
 refine wpA_ok 0 rfl fun ok0=>?_
 refine wpA_ok 1 rfl fun ok1=>?_
 exact walk⟩
theorem s57_25 (h:e.op=25) (n:Nat) (hn:e.args.length=n + 1):Cal 57 [e.p,.lst (Col.ps cols)] [((firstE e cols).1).p,.bool ((firstE e cols).2)]:=⟨by
 haveI:=cal97 e cols hw n hn
 have msk:Msk 85029048264947072000383635074424237576 85070591730234615865843651857933663752:=⟨⟩
 refine CallP.of_bodyN 126 cfg_ok Tryz.func57 rfl rfl (by kernel_rfl) fun base=>?_;simp only [mkA,Nat.reduceAdd]
 refine wpA_ok 0 rfl fun ok0=>?_
 refine wpA_ok 1 rfl fun ok1=>?_
 exact walk⟩
attribute [local simp] strictL litE in
theorem s57_s (h:4 ≤ e.op∧e.op ≤ 17) (hcmp:12 ≤ e.op→Cal 98 [e.p,.lst (Col.ps cols)] [(comparedE e cols (hdE e.args) (lastE e.args)).1.p,.bool (comparedE e cols (hdE e.args) (lastE e.args)).2])
  (hcom:e.op < 12→Cal 99 [e.p,.lst (Col.ps cols)] [(computedE e cols).1.p,.bool (computedE e cols).2]):Cal 57 [e.p,.lst (Col.ps cols)] [(strictL e cols e.args).1.p,.bool (strictL e cols e.args).2]:=⟨by
 have h19:¬ e.op=19:=by omega
 have h20:¬ e.op=20:=by omega
 have h21:¬ e.op=21:=by omega
 have h22:¬ e.op=22:=by omega
 have h23:¬ e.op=23:=by omega
 have h18:¬ e.op=18:=by omega
 have h24:¬ e.op=24:=by omega
 have h25:¬ e.op=25:=by omega
 have h17:e.op ≤ 17:=h.2
 haveI:=cal94 e cols hw
 clear h
 by_cases h12:12 ≤ e.op
 ·haveI:=hcmp h12
  clear hcmp hcom
  have msk:Msk 85029048264947072000383635074424237576 85070591730234615865843651857933663752:=⟨⟩
  refine CallP.of_bodyN 126 cfg_ok Tryz.func57 rfl rfl (by kernel_rfl) fun base=>?_;simp only [mkA,Nat.reduceAdd]
  refine wpA_ok 0 rfl fun ok0=>?_
  refine wpA_ok 1 rfl fun ok1=>?_
  have hl:=okP_args ok0
  have ld0:LD (σ:=Nat) 1 324517315718387441402881121452320 [] (fun y_=>(fun i=>[(8,.p (.int .i64 i))]) y_) (fun y_=>(fun i=>[]) y_) (fun y_=>(fun i=>InvL (i ≤ (e.args).length) (True) (strictL e cols (e.args.drop i)=strictL e cols e.args)) y_) (fun y_=>(fun i=>(e.args).length - i) y_) (0) [] (fun y_=>(fun i=>i < (e.args).length) y_) (fun y_ (h:(fun i=>i < (e.args).length) y_)=>(fun i (h:i < (e.args).length)=>i + 1) y_ h) (fun y_ (h:(fun i=>i < (e.args).length) y_)=>(fun i (h:i < (e.args).length)=>i + 1) y_ h):=⟨⟩
  exact walk
 ·haveI:=hcom (by omega)
  have h12':¬ 12 ≤ e.op:=h12
  clear hcmp hcom
  have msk:Msk 85029048264947072000383635074424237576 85070591730234615865843651857933663752:=⟨⟩
  refine CallP.of_bodyN 126 cfg_ok Tryz.func57 rfl rfl (by kernel_rfl) fun base=>?_;simp only [mkA,Nat.reduceAdd]
  refine wpA_ok 0 rfl fun ok0=>?_
  refine wpA_ok 1 rfl fun ok1=>?_
  have hl:=okP_args ok0
  have ld0:LD (σ:=Nat) 1 324517315718387441402881121452320 [] (fun y_=>(fun i=>[(8,.p (.int .i64 i))]) y_) (fun y_=>(fun i=>[]) y_) (fun y_=>(fun i=>InvL (i ≤ (e.args).length) (True) (strictL e cols (e.args.drop i)=strictL e cols e.args)) y_) (fun y_=>(fun i=>(e.args).length - i) y_) (0) [] (fun y_=>(fun i=>i < (e.args).length) y_) (fun y_ (h:(fun i=>i < (e.args).length) y_)=>(fun i (h:i < (e.args).length)=>i + 1) y_ h) (fun y_ (h:(fun i=>i < (e.args).length) y_)=>(fun i (h:i < (e.args).length)=>i + 1) y_ h):=⟨⟩
  exact walk⟩
end
end
end Go.Proofs.YtgiedlcjlalpcaaGreat
