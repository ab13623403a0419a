/- Own part of a proof: I11 U12. -/
import Derived.Test.YtgiedlcjlalpcaaGreatCd02
set_option linter.all false
namespace Go.Proofs.YtgiedlcjlalpcaaGreat
open Go.Abs
set_option maxRecDepth 100000
set_option maxHeartbeats 4000000
attribute [local irreducible] wpA Again LeJ
attribute [local simp high] mkT_getD
attribute [local simp] runM_nil runM_cons mG_some mC_none mC_un mC_gd mV_some mV_none mD_some mP_some mP_none pickV_bool pickV_int specE_pick specE_move specE_assign specE_alloc specE_box specE_build specE_buildSlice specE_load specE_store specE_nilCheck specE_binOp specE_unOp specE_convert specE_makeFunc specE_slice specE_fieldAddr specE_field specE_indexAddr specE_index specE_extract specE_call cond_false_r cond_true_m callPure touches_move touches_assign touches_box touches_load touches_nilCheck touches_unOp touches_convert touches_fieldAddr touches_field touches_extract touches_pick touches_store touches_binOp touches_indexAddr touches_index touches_alloc touches_build touches_buildSlice touches_makeFunc touches_slice touches_call touches_builtin V.names V.namesL callOf_fn callOf_builtin callOf callResW cfg_imp wantedA evalOp_move evalOp_assign evalOp_pick evalOp_alloc evalOp_box evalOp_build evalOp_buildSlice evalOp_load evalOp_store evalOp_nilCheck evalOp_binOp evalOp_unOp evalOp_convert evalOp_makeFunc evalOp_slice evalOp_fieldAddr evalOp_field evalOp_indexAddr evalOp_index evalOp_extract evalOp_builtin opnd_tmp opnd_const opnd_func headM dropA mkT_set mkT_idx mkT_get mkT_len lookA more_true more_false constV boolV St.put getB setB V.cells cells_agg cells_int cells_bool cells_str cells_lst cells_fn cells_nilp cells_nilf cells_nilm cells_imm cells_obj cells_imap mkAgg mkFn allP partV partP placesOf fillV spliceV Ty.agg oneV oneP natOf binV_int binV_str binV_bool_eql binV_ptr_nil_eql binV_ptr_imm_eql binV_ptr_obj_eql binV_ptr_ref_eql binV_func_nil_eql binV_func_fn_eql binV_func_fv_eql binV_bool_neq binV_ptr_nil_neq binV_ptr_imm_neq binV_ptr_obj_neq binV_ptr_ref_neq binV_func_nil_neq binV_func_fn_neq binV_func_fv_neq intBin strBin cfg_ty callRes toP toPs resV addedP appendV partsToP resultPs resultVs St.head roomFor_of wrap_succ wrap_nat sizesOk_nil sizesOk_cons elemOk_int elemOk_bool elemOk_str elemOk_lst elemOk_fn List.getElem?_eq_getElem bne w64 val_cells val_fold val_eta col_cells col_fold col_eta rel_cells expr_cells expr_fold expr_fold0 expr_fold1 expr_fold2 expr_eta expr_op expr_n expr_m expr_kind expr_lit expr_args expr_rels eps_nil eps_len eps_get eps_app eps_take eps_drop eps_ok vps_nil vps_len vps_get vps_app vps_take vps_drop vps_ok cps_nil cps_len cps_get cps_app cps_take cps_drop cps_ok rps_nil rps_len rps_get eps_idx vps_idx cps_idx rps_idx ips_nil ips_len ips_get ips_idx ips_ok elemOk_e elemOk_v elemOk_c ips_app ips_take ips_drop el1 ea1 es1 el2 ea2 es2 el3 ea3 es3 elc eac vl1 va1 vs1 vl2 va2 vs2 vl3 va3 vs3 vlc vac cl1 ca1 cs1 cl2 ca2 cs2 cl3 ca3 cs3 clc cac il1 ia1 is1 il2 ia2 is2 il3 ia3 is3 ilc iac binV_val_eql binV_val_neq binV_col_eql ty2 ty3 ty4 ty5 ty9 ty22 ty23 ty25 ty26 ty27 ty29 ty30 ty34 ty43 ty52 ty57 ty61 ty75 ty86 ty87 ty102 ty131 ty132 ty134 ty135 ty137 ty138 ty141 ty149 ty152 ty156 ty159 ty160 ty172 ty176 ty184 ty185 ty186 ty187 ty189 ty204 ty211 ty221 ty222 ty242 ty259
section
attribute [local simp] wl0 wl1 wl2 wl3 wl4 wl5 wl6 wl7 wl8 wl9 wl10 wl11 wl12 wl13 wl14 wl15 wl16 wl17 wl18 wl19 wl20
attribute [local simp high] evalOp_fieldP
attribute [local simp] fldV_p fldV_agg aggP_agg aggP_col aggP_val aggP_expr
theorem call19:Cal 19 [] [.bool true]:=⟨by
 haveI h16:=c16n
 haveI h27a:=c27a
 haveI h27b:=c27b
 haveI h25:=c25n
 haveI h23:=c23n
 have hs:=sameE_refl nrY
 unfold nrE nrY at *
 unfold knE eqE4 at *
 unfold rjE at *
 have msk:Msk 170141183460469231731687303715884081152 170141183460469231731687303715884081152:=⟨⟩
 refine CallP.of_bodyN 127 cfg_ok Tryz.func19 rfl rfl (by kernel_rfl) fun base=>?_;simp only [mkA,Nat.reduceAdd]
 exact walk⟩
end
section
attribute [local simp] wl0 wl1 wl2 wl3 wl4 wl5 wl6 wl7 wl8 wl9 wl10 wl11 wl12 wl13 wl14 wl15 wl16 wl17 wl18 wl19 wl20
attribute [local simp high] evalOp_fieldP
attribute [local simp] fldV_p fldV_agg aggP_agg aggP_col aggP_val aggP_expr
theorem law8_not (raw e x y:Expr) (rawCols cols:List Col) (bx by_:Bool) (he:Cal 14 [raw.p,.lst (Col.ps rawCols),.int .i64 2,.bool true] [e.p,.lst (Col.ps cols)])
  (h16:Cal 16 [e.p,.lst (Col.ps cols)] [(if bx then x else zeroE).p,.int .i64 (if bx then 0 else 2)]) (h23:Cal 23 [e.p,.lst (Col.ps cols)] [(if by_ then y else zeroE).p,.int .i64 (if by_ then 0 else 2)])
  (hn:(bx && by_)=false) (c19:Cal 19 [] [.bool true]):Cal 8 [raw.p,.lst (Col.ps rawCols)] [.bool true]:=by
 have key:∀ b c:Bool,bx=b→by_=c→Cal 8 [raw.p,.lst (Col.ps rawCols)] [.bool true]:=by
  intro b c hb hc
  subst hb;subst hc
  cases bx <;> cases by_
  ·simp only [Bool.false_eq_true,if_false] at h16 h23
   refine ⟨?_⟩
   have msk:Msk 20282409603651670422847739527176 20282409603651670423947251154952:=⟨⟩
   refine CallP.of_bodyN 104 cfg_ok Tryz.func8 rfl rfl (by kernel_rfl) fun base=>?_;simp only [mkA,Nat.reduceAdd]
   refine wpA_ok 0 rfl fun ok0=>?_
   refine wpA_ok 1 rfl fun ok1=>?_
   exact walk
  ·simp only [Bool.false_eq_true,if_false,if_true] at h16 h23
   refine ⟨?_⟩
   have msk:Msk 20282409603651670422847739527176 20282409603651670423947251154952:=⟨⟩
   refine CallP.of_bodyN 104 cfg_ok Tryz.func8 rfl rfl (by kernel_rfl) fun base=>?_;simp only [mkA,Nat.reduceAdd]
   refine wpA_ok 0 rfl fun ok0=>?_
   refine wpA_ok 1 rfl fun ok1=>?_
   exact walk
  ·simp only [Bool.false_eq_true,if_false,if_true] at h16 h23
   refine ⟨?_⟩
   have msk:Msk 20282409603651670422847739527176 20282409603651670423947251154952:=⟨⟩
   refine CallP.of_bodyN 104 cfg_ok Tryz.func8 rfl rfl (by kernel_rfl) fun base=>?_;simp only [mkA,Nat.reduceAdd]
   refine wpA_ok 0 rfl fun ok0=>?_
   refine wpA_ok 1 rfl fun ok1=>?_
   exact walk
  ·cases hn
 exact key bx by_ rfl rfl
theorem law8_yes (raw e x y:Expr) (rawCols cols:List Col) (he:Cal 14 [raw.p,.lst (Col.ps rawCols),.int .i64 2,.bool true] [e.p,.lst (Col.ps cols)])
  (h16:Cal 16 [e.p,.lst (Col.ps cols)] [x.p,.int .i64 0]) (h23:Cal 23 [e.p,.lst (Col.ps cols)] [y.p,.int .i64 0])
  (h16x:Cal 16 [x.p,.lst (Col.ps cols)] [x.p,.int .i64 0]) (h23y:Cal 23 [y.p,.lst (Col.ps cols)] [y.p,.int .i64 0]) (h16y:Cal 16 [y.p,.lst (Col.ps cols)] [y.p,.int .i64 0]) (c19:Cal 19 [] [.bool true]):Cal 8 [raw.p,.lst (Col.ps rawCols)] [.bool true]:=⟨by
 have hs:=sameE_refl x
 have hs2:=sameE_refl y
 have msk:Msk 20282409603651670422847739527176 20282409603651670423947251154952:=⟨⟩
 refine CallP.of_bodyN 104 cfg_ok Tryz.func8 rfl rfl (by kernel_rfl) fun base=>?_;simp only [mkA,Nat.reduceAdd]
 refine wpA_ok 0 rfl fun ok0=>?_
 refine wpA_ok 1 rfl fun ok1=>?_
 exact walk⟩
theorem law8 (raw:Expr) (rawCols:List Col) (hr:rawE raw):Cal 8 [raw.p,.lst (Col.ps rawCols)] [.bool true]:=by
 have c19:=call19
 have c14:=cal14 raw rawCols 2 true hr
 obtain ⟨hg,hs⟩:=oneE_good raw rawCols 2 true
 obtain ⟨hk,hf,hc⟩:=oneE_tame raw rawCols 2 rfl
 generalize oneE raw rawCols 2 true=e at *
 generalize oneC rawCols true=cols at *
 have hb1:=has_bad hk hf hc false (fun h=>by cases h)
 have hb2:=has_bad hk hf hc true (fun _=>rfl)
 obtain ⟨x,hx,_⟩:=simp_ex (wt e) (Nat.le_refl _) hk
 obtain ⟨y,hy,_⟩:=cond_ex hk
 have hxk:=simp_has hx hk
 have hyk:=cond_has hy hk
 have hxd:=Nat.le_trans (deep_simp hx) (form_deep hf)
 have hyd:=Nat.le_trans (deep_cond hy) (form_deep hf)
 have h16:=cal16_ok e x cols hg hs hb1 hx
 have h23:=cal23_ok e cols y hg hs hb2 hy
 cases hfx:(fitE 400 1 x).1 with
 | false=>rw [hfx] at h16;exact law8_not raw e x y rawCols cols _ _ c14 h16 h23 (by simp) c19
 | true=>
  cases hfy:(fitE 400 1 y).1 with
  | false=>rw [hfx] at h16;rw [hfy] at h23;exact law8_not raw e x y rawCols cols _ _ c14 h16 h23 (by simp) c19
  | true=>
   obtain ⟨fx,gx,sx⟩:=again_ok hxk hxd hfx
   obtain ⟨fy,gy,sy⟩:=again_ok hyk hyd hfy
   have k16x:=cal16_ok x x cols gx sx (has_bad hxk fx hc false (fun h=>by cases h)) (simp_idem hx)
   have k16y:=cal16_ok y y cols gy sy (has_bad hyk fy hc false (fun h=>by cases h)) (cond_idem hy).1
   have k23y:=cal23_ok y cols y gy sy (has_bad hyk fy hc true (fun _=>rfl)) (cond_idem hy).2
   rw [hfx] at h16 k16x
   rw [hfy] at h23 k16y k23y
   exact law8_yes raw e x y rawCols cols c14 h16 h23 k16x k23y k16y c19
end
end Go.Proofs.YtgiedlcjlalpcaaGreat
