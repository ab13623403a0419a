/- Own part of a proof: I11 C9 U10. -/
import Derived.Test.YtgiedlcjlalpcaaGreatCb02
import Derived.Test.YtgiedlcjlalpcaaGreatPb08
import Derived.Test.YtgiedlcjlalpcaaGreatPb13
import Derived.Test.YtgiedlcjlalpcaaGreatPb17
import Derived.Test.YtgiedlcjlalpcaaGreatPb19
import Derived.Test.YtgiedlcjlalpcaaGreatPc04
set_option linter.all false
namespace Go.Proofs.YtgiedlcjlalpcaaGreat
open Go.Abs
set_option maxRecDepth 100000
set_option maxHeartbeats 4000000
attribute [local irreducible] wpA Again LeJ
attribute [local simp high] mkT_getD
attribute [local simp] runM_nil runM_cons mG_some mC_none mC_un mC_gd mV_some mV_none mD_some mP_some mP_none pickV_bool pickV_int specE_pick specE_move specE_assign specE_alloc specE_box specE_build specE_buildSlice specE_load specE_store specE_nilCheck specE_binOp specE_unOp specE_convert specE_makeFunc specE_slice specE_fieldAddr specE_field specE_indexAddr specE_index specE_extract specE_call cond_false_r cond_true_m callPure touches_move touches_assign touches_box touches_load touches_nilCheck touches_unOp touches_convert touches_fieldAddr touches_field touches_extract touches_pick touches_store touches_binOp touches_indexAddr touches_index touches_alloc touches_build touches_buildSlice touches_makeFunc touches_slice touches_call touches_builtin V.names V.namesL callOf_fn callOf_builtin callOf callResW cfg_imp wantedA evalOp_move evalOp_assign evalOp_pick evalOp_alloc evalOp_box evalOp_build evalOp_buildSlice evalOp_load evalOp_store evalOp_nilCheck evalOp_binOp evalOp_unOp evalOp_convert evalOp_makeFunc evalOp_slice evalOp_fieldAddr evalOp_field evalOp_indexAddr evalOp_index evalOp_extract evalOp_builtin opnd_tmp opnd_const opnd_func headM dropA mkT_set mkT_idx mkT_get mkT_len lookA more_true more_false constV boolV St.put getB setB V.cells cells_agg cells_int cells_bool cells_str cells_lst cells_fn cells_nilp cells_nilf cells_nilm cells_imm cells_obj cells_imap mkAgg mkFn allP partV partP placesOf fillV spliceV Ty.agg oneV oneP natOf binV_int binV_str binV_bool_eql binV_ptr_nil_eql binV_ptr_imm_eql binV_ptr_obj_eql binV_ptr_ref_eql binV_func_nil_eql binV_func_fn_eql binV_func_fv_eql binV_bool_neq binV_ptr_nil_neq binV_ptr_imm_neq binV_ptr_obj_neq binV_ptr_ref_neq binV_func_nil_neq binV_func_fn_neq binV_func_fv_neq intBin strBin cfg_ty callRes toP toPs resV addedP appendV partsToP resultPs resultVs St.head roomFor_of wrap_succ wrap_nat sizesOk_nil sizesOk_cons elemOk_int elemOk_bool elemOk_str elemOk_lst elemOk_fn List.getElem?_eq_getElem bne w64 val_cells val_fold val_eta col_cells col_fold col_eta rel_cells expr_cells expr_fold expr_fold0 expr_fold1 expr_fold2 expr_eta expr_op expr_n expr_m expr_kind expr_lit expr_args expr_rels eps_nil eps_len eps_get eps_app eps_take eps_drop eps_ok vps_nil vps_len vps_get vps_app vps_take vps_drop vps_ok cps_nil cps_len cps_get cps_app cps_take cps_drop cps_ok rps_nil rps_len rps_get eps_idx vps_idx cps_idx rps_idx ips_nil ips_len ips_get ips_idx ips_ok elemOk_e elemOk_v elemOk_c ips_app ips_take ips_drop el1 ea1 es1 el2 ea2 es2 el3 ea3 es3 elc eac vl1 va1 vs1 vl2 va2 vs2 vl3 va3 vs3 vlc vac cl1 ca1 cs1 cl2 ca2 cs2 cl3 ca3 cs3 clc cac il1 ia1 is1 il2 ia2 is2 il3 ia3 is3 ilc iac binV_val_eql binV_val_neq binV_col_eql ty2 ty3 ty4 ty5 ty9 ty22 ty23 ty25 ty26 ty27 ty29 ty30 ty34 ty43 ty52 ty57 ty61 ty75 ty86 ty87 ty102 ty131 ty132 ty134 ty135 ty137 ty138 ty141 ty149 ty152 ty156 ty159 ty160 ty172 ty176 ty184 ty185 ty186 ty187 ty189 ty204 ty211 ty221 ty222 ty242 ty259
section
attribute [local simp] wl0 wl1 wl2 wl3 wl4 wl5 wl6 wl7 wl8 wl9 wl10 wl11 wl12 wl13 wl14 wl15 wl16 wl17 wl18 wl19 wl20
attribute [local simp high] evalOp_fieldP
attribute [local simp] fldV_p fldV_agg aggP_agg aggP_col aggP_val aggP_expr
theorem call19:Cal 19 [] [.bool true]:=⟨by
 haveI h16:=c16n
 haveI h27a:=c27a
 haveI h27b:=c27b
 haveI h25:=c25n
 haveI h23:=c23n
 have hs:=sameE_refl nrY
 unfold nrE nrY at *
 unfold knE eqE4 at *
 unfold rjE at *
 have msk:Msk 170141183460469231731687303715884081152 170141183460469231731687303715884081152:=⟨⟩
 refine CallP.of_bodyN 127 cfg_ok Tryz.func19 rfl rfl (by kernel_rfl) fun base=>?_;simp only [mkA,Nat.reduceAdd]
 exact walk⟩
end
section
attribute [local simp] wl0 wl1 wl2 wl3 wl4 wl5 wl6 wl7 wl8 wl9 wl10 wl11 wl12 wl13 wl14 wl15 wl16 wl17 wl18 wl19 wl20
attribute [local simp high] evalOp_fieldP
attribute [local simp] fldV_p fldV_agg aggP_agg aggP_col aggP_val aggP_expr
def cdL (q:Nat→Expr):List Expr→Bool→Nat→List Expr→List Expr × Bool
 | acc,ch,_,[]=>(acc,ch)
 | acc,ch,i,a :: r=>cdL q (acc ++ [q i]) (ch || !sameE (q i) a) (i + 1) r
theorem cdL_eq (q:Nat→Expr) (xs:List Expr):∀ (l:List Expr) (i:Nat) (ch:Bool) (acc:List Expr),i + l.length=xs.length→(∀ (j:Nat) (h:j < xs.length),q j=xs[j])→acc=xs.take i→cdL q acc ch i l=(xs,ch || !eqL sameE (xs.drop i) l)
 | [],i,ch,acc,h,hq,ha=>by rw [List.drop_eq_nil_of_le (by simp at h;omega),cdL,ha,List.take_of_length_le (by simp at h;omega)];simp [eqL]
 | a :: r,i,ch,acc,h,hq,ha=>by
  simp only [List.length_cons] at h
  have hi:i < xs.length:=by omega
  rw [cdL,cdL_eq q xs r (i + 1) _ _ (by omega) hq (by rw [ha,hq i hi,List.take_succ_eq_append_getElem hi]),List.drop_eq_getElem_cons hi,eqL,hq i hi]
  cases ch <;> cases sameE xs[i] a <;> simp
section
variable (e s y:Expr) (cols:List Col)
theorem r24_null (c20:Cal 20 [e.p,.lst (Col.ps cols)] [s.p]) (h:isNull s=true):Cal 24 [e.p,.lst (Col.ps cols)] [(truthE false).p]:=⟨by
 have msk:Msk 614018259411760514155153387016 633825300114114700748351602184:=⟨⟩
 refine CallP.of_bodyN 99 cfg_ok Tryz.func24 rfl rfl (by kernel_rfl) fun base=>?_;simp only [mkA,Nat.reduceAdd]
 refine wpA_ok 0 rfl fun ok0=>?_
 refine wpA_ok 1 rfl fun ok1=>?_
 exact walk⟩
theorem r24_istrue (c20:Cal 20 [e.p,.lst (Col.ps cols)] [s.p]) (hn:isNull s=false) (h:s.op=23) (a:Expr) (ha:s.args=[a]) (c24:Cal 24 [a.p,.lst (Col.ps cols)] [y.p]):Cal 24 [e.p,.lst (Col.ps cols)] [y.p]:=⟨by
 have msk:Msk 614018259411760514155153387016 633825300114114700748351602184:=⟨⟩
 refine CallP.of_bodyN 99 cfg_ok Tryz.func24 rfl rfl (by kernel_rfl) fun base=>?_;simp only [mkA,Nat.reduceAdd]
 refine wpA_ok 0 rfl fun ok0=>?_
 refine wpA_ok 1 rfl fun ok1=>?_
 exact walk⟩
theorem r24_coal (c20:Cal 20 [e.p,.lst (Col.ps cols)] [s.p]) (hn:isNull s=false) (h:s.op=25) (a b:Expr) (ha:s.args=[a,b]) (hb:isV b (boolW false)=true) (c24:Cal 24 [a.p,.lst (Col.ps cols)] [y.p]):Cal 24 [e.p,.lst (Col.ps cols)] [y.p]:=⟨by
 have msk:Msk 614018259411760514155153387016 633825300114114700748351602184:=⟨⟩
 refine CallP.of_bodyN 99 cfg_ok Tryz.func24 rfl rfl (by kernel_rfl) fun base=>?_;simp only [mkA,Nat.reduceAdd]
 refine wpA_ok 0 rfl fun ok0=>?_
 refine wpA_ok 1 rfl fun ok1=>?_
 exact walk⟩
theorem r24_else (c20:Cal 20 [e.p,.lst (Col.ps cols)] [s.p]) (hn:isNull s=false) (h23:(s.op == 23)=false) (h19:(s.op == 19)=false) (h20:(s.op == 20)=false) (h25:(s.op == 25)=false):Cal 24 [e.p,.lst (Col.ps cols)] [s.p]:=by
 cases hg:s.args[1]?
 all_goals
  refine ⟨?_⟩
  have msk:Msk 614018259411760514155153387016 633825300114114700748351602184:=⟨⟩
  refine CallP.of_bodyN 99 cfg_ok Tryz.func24 rfl rfl (by kernel_rfl) fun base=>?_;simp only [mkA,Nat.reduceAdd]
  refine wpA_ok 0 rfl fun ok0=>?_
  refine wpA_ok 1 rfl fun ok1=>?_
  exact walk
theorem r24_coal1 (n m k:Int) (v:Val) (a b c:Expr) (l:List Expr) (r:List Rel) (c20:Cal 20 [e.p,.lst (Col.ps cols)] [(Expr.mk 25 n m k v (a :: b :: c :: l) r).p]) (hn:isNull (Expr.mk 25 n m k v (a :: b :: c :: l) r)=false) :
  Cal 24 [e.p,.lst (Col.ps cols)] [(Expr.mk 25 n m k v (a :: b :: c :: l) r).p]:=⟨by
 have hl:(((l.length:Int) + 1 + 1 + 1) == 2)=false:=by simp;omega
 have msk:Msk 614018259411760514155153387016 633825300114114700748351602184:=⟨⟩
 refine CallP.of_bodyN 99 cfg_ok Tryz.func24 rfl rfl (by kernel_rfl) fun base=>?_;simp only [mkA,Nat.reduceAdd]
 refine wpA_ok 0 rfl fun ok0=>?_
 refine wpA_ok 1 rfl fun ok1=>?_
 exact walk⟩
theorem r24_coal2 (n m k:Int) (v:Val) (a b:Expr) (r:List Rel) (c20:Cal 20 [e.p,.lst (Col.ps cols)] [(Expr.mk 25 n m k v [a,b] r).p]) (hn:isNull (Expr.mk 25 n m k v [a,b] r)=false) (hb:isV b (boolW false)=false) :
  Cal 24 [e.p,.lst (Col.ps cols)] [(Expr.mk 25 n m k v [a,b] r).p]:=⟨by
 have msk:Msk 614018259411760514155153387016 633825300114114700748351602184:=⟨⟩
 refine CallP.of_bodyN 99 cfg_ok Tryz.func24 rfl rfl (by kernel_rfl) fun base=>?_;simp only [mkA,Nat.reduceAdd]
 refine wpA_ok 0 rfl fun ok0=>?_
 refine wpA_ok 1 rfl fun ok1=>?_
 exact walk⟩
attribute [local simp] cdL in
theorem r24_same (hop:s.op=19 ∨ s.op=20) (xs:List Expr) (q:Nat→Expr) (c20:Cal 20 [e.p,.lst (Col.ps cols)] [s.p]) (hn:isNull s=false) (h16:s.args.length ≤ 16)
  (rec24:∀ (i:Nat) (h1:i < s.args.length),Cal 24 [s.args[i].p,.lst (Col.ps cols)] [(q i).p]) (hC:cdL q [] false 0 s.args=(xs,false)):Cal 24 [e.p,.lst (Col.ps cols)] [s.p]:=⟨by
 have hr:∀ i,i < s.args.length→roomFor (i + 1) 112=true:=fun i _=>roomFor_of (by omega) (by decide)
 have o2:(s.op == 23)=false:=by simp;omega
 have o3:(s.op == 25)=false:=by simp;omega
 have o4:(s.op == 20) = !(s.op == 19):=by rcases hop with h | h <;> rw [h] <;> rfl
 clear hop
 cases hg1:s.args[1]?
 all_goals
  have msk:Msk 614018259411760514155153387016 633825300114114700748351602184:=⟨⟩
  refine CallP.of_bodyN 99 cfg_ok Tryz.func24 rfl rfl (by kernel_rfl) fun base=>?_;simp only [mkA,Nat.reduceAdd]
  refine wpA_ok 0 rfl fun ok0=>?_
  refine wpA_ok 1 rfl fun ok1=>?_
  have ld0:LD (σ:=Nat × List Expr × Bool) 1 9903520309671356180765606336 [8,90] (fun y_=>(fun i acc ch=>[(7,.p (.int .i64 i)),(6,.p (.bool ch))]) y_.1 y_.2.1 y_.2.2) (fun y_=>(fun i acc ch=>[(5,.cells [.p (.int .i64 s.op),.p (.int .i64 s.n),.p (.int .i64 s.m),.p (.int .i64 s.kind),.p (.int .i64 s.lit.kind),.p (.int .i64 s.lit.int),.p (.str s.lit.text),.own 91 i,.p (.lst (Rel.ps s.rels))]),(91,.arr 9 (Expr.ps acc) false)]) y_.1 y_.2.1 y_.2.2) (fun y_=>(fun i acc ch=>InvL (i ≤ (s.args).length) (acc.length=i) (cdL q acc ch i (s.args.drop i)=(xs,false))) y_.1 y_.2.1 y_.2.2) (fun y_=>(fun i acc ch=>(s.args).length - i) y_.1 y_.2.1 y_.2.2) ((0,[],false)) [91] (fun y_=>(fun i acc ch=>i < (s.args).length) y_.1 y_.2.1 y_.2.2) (fun y_ (h:(fun i acc ch=>i < (s.args).length) y_.1 y_.2.1 y_.2.2)=>(fun i acc ch (h:i < (s.args).length)=>(i + 1,acc ++ [q i],ch || !sameE (q i) s.args[i])) y_.1 y_.2.1 y_.2.2 h) (fun y_ (h:(fun i acc ch=>i < (s.args).length) y_.1 y_.2.1 y_.2.2)=>(fun i acc ch (h:i < (s.args).length)=>(i + 1,acc ++ [q i],ch || !sameE (q i) s.args[i])) y_.1 y_.2.1 y_.2.2 h):=⟨⟩
  have st0:Stop 18:=⟨⟩
  refine walkX ?_ trivial
  intro x0 hi0 hs0 hn0 ny0 nz0 hj0
  first | intro h' h | intro h | skip
  refine ⟨?_⟩
  clear st0
  obtain ⟨i0,acc,ch⟩:=x0
  dsimp only at *
  rw [List.drop_eq_nil_of_le (by omega)] at hn0
  simp only [cdL,Prod.mk.injEq] at hn0
  obtain ⟨rfl,rfl⟩:=hn0
  clear ld0 ny0 nz0 hi0 hj0 hC hr rec24
  exact walk⟩
attribute [local simp] cdL in
theorem r24_go (hop:s.op=19 ∨ s.op=20) (xs:List Expr) (q:Nat→Expr) (c20:Cal 20 [e.p,.lst (Col.ps cols)] [s.p]) (hn:isNull s=false) (h16:s.args.length ≤ 16)
  (rec24:∀ (i:Nat) (h1:i < s.args.length),Cal 24 [s.args[i].p,.lst (Col.ps cols)] [(q i).p]) (hC:cdL q [] false 0 s.args=(xs,true))
  (c24:Cal 24 [(Expr.mk s.op s.n s.m s.kind s.lit xs s.rels).p,.lst (Col.ps cols)] [y.p]):Cal 24 [e.p,.lst (Col.ps cols)] [y.p]:=⟨by
 have hr:∀ i,i < s.args.length→roomFor (i + 1) 112=true:=fun i _=>roomFor_of (by omega) (by decide)
 have o2:(s.op == 23)=false:=by simp;omega
 have o3:(s.op == 25)=false:=by simp;omega
 have o4:(s.op == 20) = !(s.op == 19):=by rcases hop with h | h <;> rw [h] <;> rfl
 clear hop
 cases hg1:s.args[1]?
 all_goals
  have msk:Msk 614018259411760514155153387016 633825300114114700748351602184:=⟨⟩
  refine CallP.of_bodyN 99 cfg_ok Tryz.func24 rfl rfl (by kernel_rfl) fun base=>?_;simp only [mkA,Nat.reduceAdd]
  refine wpA_ok 0 rfl fun ok0=>?_
  refine wpA_ok 1 rfl fun ok1=>?_
  have ld0:LD (σ:=Nat × List Expr × Bool) 1 9903520309671356180765606336 [8,90] (fun y_=>(fun i acc ch=>[(7,.p (.int .i64 i)),(6,.p (.bool ch))]) y_.1 y_.2.1 y_.2.2) (fun y_=>(fun i acc ch=>[(5,.cells [.p (.int .i64 s.op),.p (.int .i64 s.n),.p (.int .i64 s.m),.p (.int .i64 s.kind),.p (.int .i64 s.lit.kind),.p (.int .i64 s.lit.int),.p (.str s.lit.text),.own 91 i,.p (.lst (Rel.ps s.rels))]),(91,.arr 9 (Expr.ps acc) false)]) y_.1 y_.2.1 y_.2.2) (fun y_=>(fun i acc ch=>InvL (i ≤ (s.args).length) (acc.length=i) (cdL q acc ch i (s.args.drop i)=(xs,true))) y_.1 y_.2.1 y_.2.2) (fun y_=>(fun i acc ch=>(s.args).length - i) y_.1 y_.2.1 y_.2.2) ((0,[],false)) [91] (fun y_=>(fun i acc ch=>i < (s.args).length) y_.1 y_.2.1 y_.2.2) (fun y_ (h:(fun i acc ch=>i < (s.args).length) y_.1 y_.2.1 y_.2.2)=>(fun i acc ch (h:i < (s.args).length)=>(i + 1,acc ++ [q i],ch || !sameE (q i) s.args[i])) y_.1 y_.2.1 y_.2.2 h) (fun y_ (h:(fun i acc ch=>i < (s.args).length) y_.1 y_.2.1 y_.2.2)=>(fun i acc ch (h:i < (s.args).length)=>(i + 1,acc ++ [q i],ch || !sameE (q i) s.args[i])) y_.1 y_.2.1 y_.2.2 h):=⟨⟩
  have st0:Stop 18:=⟨⟩
  refine walkX ?_ trivial
  intro x0 hi0 hs0 hn0 ny0 nz0 hj0
  first | intro h' h | intro h | skip
  refine ⟨?_⟩
  clear st0
  obtain ⟨i0,acc,ch⟩:=x0
  dsimp only at *
  rw [List.drop_eq_nil_of_le (by omega)] at hn0
  simp only [cdL,Prod.mk.injEq] at hn0
  obtain ⟨rfl,rfl⟩:=hn0
  clear ld0 ny0 nz0 hi0 hj0 hC hr rec24
  exact walk⟩
end
theorem notNull_op {s:Expr} (h:s.op ≠ 3):isNull s=false:=by unfold isNull;simp [h]
theorem cal24 {cols:List Col} {e y:Expr} (h:CondS cols e y):Has cols e 2→Cal 24 [e.p,.lst (Col.ps cols)] [y.p]:=by
 induction h with
 | lit e s hs h=>
  intro hk
  have c20:=cal20 hs hk
  have hsk:=simp_has hs hk
  cases hn:isNull s with
  | false=>
   have ht:truthE (isTrue s)=s:=by
    rcases lit_cond hsk h with hz | ht
    ·unfold isNull at hn;simp [h,hz] at hn
    ·exact ht
   rw [ht]
   exact r24_else e s cols c20 hn (by simp [h]) (by simp [h]) (by simp [h]) (by simp [h])
  | true=>
   have ht:isTrue s=false:=by
    unfold isNull at hn
    simp [h] at hn
    unfold isTrue
    have:(s.lit == boolW true)=false:=by
     rw [beq_eq_false_iff_ne]
     intro hq
     rw [hq] at hn
     cases hn
    rw [this];simp
   rw [ht]
   exact r24_null e s cols c20 hn
 | istrue e s y a hs h ha hy ih=>intro hk;exact r24_istrue e s y cols (cal20 hs hk) (notNull_op (by omega)) h a ha (ih (has_istrue_elim (simp_has hs hk) h ha))
 | coal e s y a b hs h ha hb hy ih=>intro hk;exact r24_coal e s y cols (cal20 hs hk) (notNull_op (by omega)) h a b ha hb (ih (has_coal_elim (simp_has hs hk) h a (by rw [ha];simp)))
 | coal1 e n m k v a b c l r hs=>intro hk;exact r24_coal1 e cols n m k v a b c l r (cal20 hs hk) (notNull_op (by simp [Expr.op]))
 | coal2 e n m k v a b r hs hb=>intro hk;exact r24_coal2 e cols n m k v a b r (cal20 hs hk) (notNull_op (by simp [Expr.op])) hb
 | other e s hs h3 h23 h19 h20 h25=>intro hk;exact r24_else e s cols (cal20 hs hk) (notNull_op (by simpa using h3)) h23 h19 h20 h25
 | same e s xs hs hop hl h hq ih=>
  intro hk
  have hs2:=simp_has hs hk
  have hargs:=has_list_elim hs2 hop
  have hlen:=wf_len hs2.wf
  exact r24_same e s cols hop xs (fun i=>xs.getD i zeroE) (cal20 hs hk) (notNull_op (by rcases hop with h | h <;> omega)) (by omega) (fun i h1=>by
   have:=ih i h1 (by omega) (hargs _ (List.getElem_mem _))
   rw [getD_E xs i (by omega)];exact this) (by rw [cdL_eq (fun i=>xs.getD i zeroE) xs s.args 0 false [] (by omega) (fun j h=>getD_E xs j h) rfl,List.drop_zero,hq];rfl)
 | go e s y xs hs hop hl h hq hy ih ihy=>
  intro hk
  have hs2:=simp_has hs hk
  have hargs:=has_list_elim hs2 hop
  have hx:∀ a ∈ xs,Has cols a 2:=by
   intro a ha
   obtain ⟨i,hi,rfl⟩:=List.getElem_of_mem ha
   exact cond_has (h i (by omega) hi) (hargs _ (List.getElem_mem _))
  have hlen:=wf_len hs2.wf
  have hi:=nodeR_inner (wf_node hs2.wf) (by rcases hop with h | h <;> omega) (by rcases hop with h | h <;> omega) (by rcases hop with h | h <;> omega)
  have hset:Expr.mk s.op s.n s.m s.kind s.lit xs s.rels=opE s.op xs:=setA_opE hi (nodeR_rels (wf_node hs2.wf)) xs
  exact r24_go e s y cols hop xs (fun i=>xs.getD i zeroE) (cal20 hs hk) (notNull_op (by rcases hop with h | h <;> omega)) (by omega) (fun i h1=>by
   have:=ih i h1 (by omega) (hargs _ (List.getElem_mem _))
   rw [getD_E xs i (by omega)];exact this) (by rw [cdL_eq (fun i=>xs.getD i zeroE) xs s.args 0 false [] (by omega) (fun j h=>getD_E xs j h) rfl,List.drop_zero,hq];rfl)
   (by rw [hset];exact ihy (go_has hs2 hop hl hx))
end
section
attribute [local simp] wl0 wl1 wl2 wl3 wl4 wl5 wl6 wl7 wl8 wl9 wl10 wl11 wl12 wl13 wl14 wl15 wl16 wl17 wl18 wl19 wl20
attribute [local simp high] evalOp_fieldP
attribute [local simp] fldV_p fldV_agg aggP_agg aggP_col aggP_val aggP_expr
theorem law4_bad (raw e:Expr) (rawCols cols:List Col) (tame:Bool) (he:Cal 14 [raw.p,.lst (Col.ps rawCols),.int .i64 2,.bool tame] [e.p,.lst (Col.ps cols)])
  (h23:Cal 23 [e.p,.lst (Col.ps cols)] [zeroE.p,.int .i64 (badE e cols true)]) (hb:badE e cols true ≠ 0) (c19:Cal 19 [] [.bool true]):Cal 4 [raw.p,.lst (Col.ps rawCols),.bool tame] [.bool true]:=⟨by
 haveI c17:=call17 e cols true
 have hs:=sameE_refl zeroE
 have hne:(badE e cols true != 0)=true:=by simpa [bne] using hb
 have hne':(badE e cols true == 0)=false:=by simpa using hb
 clear hb
 generalize badE e cols true=b at *
 have msk:Msk 36893452961973264432 36893488147419095088:=⟨⟩
 refine CallP.of_bodyN 65 cfg_ok Tryz.func4 rfl rfl (by kernel_rfl) fun base=>?_;simp only [mkA,Nat.reduceAdd]
 refine wpA_ok 0 rfl fun ok0=>?_
 refine wpA_ok 1 rfl fun ok1=>?_
 refine wpA_ok 2 rfl fun ok2=>?_
 exact walk⟩
theorem law4_large (raw e y:Expr) (rawCols cols:List Col) (tame:Bool) (he:Cal 14 [raw.p,.lst (Col.ps rawCols),.int .i64 2,.bool tame] [e.p,.lst (Col.ps cols)])
  (h23:Cal 23 [e.p,.lst (Col.ps cols)] [zeroE.p,.int .i64 2]) (hb:badE e cols true=0) (c24:Cal 24 [e.p,.lst (Col.ps cols)] [y.p]) (hl:nodes y > 400) (c19:Cal 19 [] [.bool true]):Cal 4 [raw.p,.lst (Col.ps rawCols),.bool tame] [.bool true]:=⟨by
 haveI c17:=call17 e cols true
 rw [hb] at c17
 have hs:=sameE_refl zeroE
 have hl':decide (nodes y > 400)=true:=by simpa using hl
 clear hb hl
 have msk:Msk 36893452961973264432 36893488147419095088:=⟨⟩
 refine CallP.of_bodyN 65 cfg_ok Tryz.func4 rfl rfl (by kernel_rfl) fun base=>?_;simp only [mkA,Nat.reduceAdd]
 refine wpA_ok 0 rfl fun ok0=>?_
 refine wpA_ok 1 rfl fun ok1=>?_
 refine wpA_ok 2 rfl fun ok2=>?_
 exact walk⟩
theorem law4_good (raw e y:Expr) (rawCols cols:List Col) (tame:Bool) (he:Cal 14 [raw.p,.lst (Col.ps rawCols),.int .i64 2,.bool tame] [e.p,.lst (Col.ps cols)])
  (h23:Cal 23 [e.p,.lst (Col.ps cols)] [y.p,.int .i64 0]) (hb:badE e cols true=0) (c24:Cal 24 [e.p,.lst (Col.ps cols)] [y.p]) (hl:¬ nodes y > 400) (c19:Cal 19 [] [.bool true]):Cal 4 [raw.p,.lst (Col.ps rawCols),.bool tame] [.bool true]:=⟨by
 haveI c17:=call17 e cols true
 rw [hb] at c17
 have hs:=sameE_refl y
 have hl':decide (nodes y > 400)=false:=by simpa using hl
 clear hb hl
 have msk:Msk 36893452961973264432 36893488147419095088:=⟨⟩
 refine CallP.of_bodyN 65 cfg_ok Tryz.func4 rfl rfl (by kernel_rfl) fun base=>?_;simp only [mkA,Nat.reduceAdd]
 refine wpA_ok 0 rfl fun ok0=>?_
 refine wpA_ok 1 rfl fun ok1=>?_
 refine wpA_ok 2 rfl fun ok2=>?_
 exact walk⟩
theorem law4 (raw:Expr) (rawCols:List Col) (tame:Bool) (hr:rawE raw):Cal 4 [raw.p,.lst (Col.ps rawCols),.bool tame] [.bool true]:=by
 have c19:=call19
 have c14:=cal14 raw rawCols 2 tame hr
 obtain ⟨hg,hs⟩:=oneE_good raw rawCols 2 tame
 generalize oneE raw rawCols 2 tame=e at *
 generalize oneC rawCols tame=cols at *
 by_cases hb:badE e cols true=0
 ·obtain ⟨hk,hc,hf⟩:=badT_has hb
  obtain ⟨y,hy,_⟩:=cond_ex hk
  have hw:=(cond_has hy hk).wf
  have hd:=Nat.le_trans (deep_cond hy) (form_deep hf)
  have hfit:=fit_nodes hw hd
  have h23:=cal23_ok e cols y hg hs hb hy
  have c24:=cal24 hy hk
  by_cases hl:nodes y > 400
  ·rw [hfit,decide_eq_false (by omega)] at h23
   exact law4_large raw e y rawCols cols tame c14 h23 hb c24 hl c19
  ·rw [hfit,decide_eq_true (by omega)] at h23
   exact law4_good raw e y rawCols cols tame c14 h23 hb c24 hl c19
 ·exact law4_bad raw e rawCols cols tame c14 (cal23_bad e cols hg hs hb) hb c19
end
end Go.Proofs.YtgiedlcjlalpcaaGreat
