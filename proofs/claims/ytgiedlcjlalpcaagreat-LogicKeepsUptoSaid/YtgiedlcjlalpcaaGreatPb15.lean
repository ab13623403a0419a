/- Part of a proof: E5 E6 V3 U2 U4 U5. -/
import Derived.Test.YtgiedlcjlalpcaaGreatPb06
import Derived.Test.YtgiedlcjlalpcaaGreatPb07
import Derived.Test.YtgiedlcjlalpcaaGreatPb08
import Derived.Test.YtgiedlcjlalpcaaGreatPb09
import Derived.Test.YtgiedlcjlalpcaaGreatPb12
import Derived.Test.YtgiedlcjlalpcaaGreatPb13
import Derived.Test.YtgiedlcjlalpcaaGreatPb14
set_option linter.all false
namespace Go.Proofs.YtgiedlcjlalpcaaGreat
open Go.Abs
set_option maxRecDepth 100000
set_option maxHeartbeats 4000000
attribute [local irreducible] wpA Again LeJ
attribute [local simp high] mkT_getD
attribute [local simp] runM_nil runM_cons mG_some mC_none mC_un mC_gd mV_some mV_none mD_some mP_some mP_none pickV_bool pickV_int specE_pick specE_move specE_assign specE_alloc specE_box specE_build specE_buildSlice specE_load specE_store specE_nilCheck specE_binOp specE_unOp specE_convert specE_makeFunc specE_slice specE_fieldAddr specE_field specE_indexAddr specE_index specE_extract specE_call cond_false_r cond_true_m callPure touches_move touches_assign touches_box touches_load touches_nilCheck touches_unOp touches_convert touches_fieldAddr touches_field touches_extract touches_pick touches_store touches_binOp touches_indexAddr touches_index touches_alloc touches_build touches_buildSlice touches_makeFunc touches_slice touches_call touches_builtin V.names V.namesL callOf_fn callOf_builtin callOf callResW cfg_imp wantedA evalOp_move evalOp_assign evalOp_pick evalOp_alloc evalOp_box evalOp_build evalOp_buildSlice evalOp_load evalOp_store evalOp_nilCheck evalOp_binOp evalOp_unOp evalOp_convert evalOp_makeFunc evalOp_slice evalOp_fieldAddr evalOp_field evalOp_indexAddr evalOp_index evalOp_extract evalOp_builtin opnd_tmp opnd_const opnd_func headM dropA mkT_set mkT_idx mkT_get mkT_len lookA more_true more_false constV boolV St.put getB setB V.cells cells_agg cells_int cells_bool cells_str cells_lst cells_fn cells_nilp cells_nilf cells_nilm cells_imm cells_obj cells_imap mkAgg mkFn allP partV partP placesOf fillV spliceV Ty.agg oneV oneP natOf binV_int binV_str binV_bool_eql binV_ptr_nil_eql binV_ptr_imm_eql binV_ptr_obj_eql binV_ptr_ref_eql binV_func_nil_eql binV_func_fn_eql binV_func_fv_eql binV_bool_neq binV_ptr_nil_neq binV_ptr_imm_neq binV_ptr_obj_neq binV_ptr_ref_neq binV_func_nil_neq binV_func_fn_neq binV_func_fv_neq intBin strBin cfg_ty callRes toP toPs resV addedP appendV partsToP resultPs resultVs St.head roomFor_of wrap_succ wrap_nat sizesOk_nil sizesOk_cons elemOk_int elemOk_bool elemOk_str elemOk_lst elemOk_fn List.getElem?_eq_getElem bne w64 val_cells val_fold val_eta col_cells col_fold col_eta rel_cells expr_cells expr_fold expr_fold0 expr_fold1 expr_fold2 expr_eta expr_op expr_n expr_m expr_kind expr_lit expr_args expr_rels eps_nil eps_len eps_get eps_app eps_take eps_drop eps_ok vps_nil vps_len vps_get vps_app vps_take vps_drop vps_ok cps_nil cps_len cps_get cps_app cps_take cps_drop cps_ok rps_nil rps_len rps_get eps_idx vps_idx cps_idx rps_idx ips_nil ips_len ips_get ips_idx ips_ok elemOk_e elemOk_v elemOk_c ips_app ips_take ips_drop el1 ea1 es1 el2 ea2 es2 el3 ea3 es3 elc eac vl1 va1 vs1 vl2 va2 vs2 vl3 va3 vs3 vlc vac cl1 ca1 cs1 cl2 ca2 cs2 cl3 ca3 cs3 clc cac il1 ia1 is1 il2 ia2 is2 il3 ia3 is3 ilc iac binV_val_eql binV_val_neq binV_col_eql ty2 ty3 ty4 ty5 ty9 ty22 ty23 ty25 ty26 ty27 ty29 ty30 ty34 ty43 ty52 ty57 ty61 ty75 ty86 ty87 ty102 ty131 ty132 ty134 ty135 ty137 ty138 ty141 ty149 ty152 ty156 ty159 ty160 ty172 ty176 ty184 ty185 ty186 ty187 ty189 ty204 ty211 ty221 ty222 ty242 ty259
section
attribute [local simp] wl0 wl1 wl2 wl3 wl4 wl5 wl6 wl7 wl8 wl9 wl10 wl11 wl12 wl13 wl14 wl15 wl16 wl17 wl18 wl19 wl20
attribute [local simp high] evalOp_fieldP
attribute [local simp] ty135 ty137 ty221 ty222 ty176 ty102
attribute [local simp] fldV_p fldV_agg aggP_agg aggP_col aggP_val aggP_expr
attribute [local simp] runK_nil runK_cons goG_true goG_false goC_none goC_some goV_some goV_none goD_some goD_none
attribute [local simp] evalOp_mapUpdate evalOp_makeMap
theorem callM201 (op:Int) (h:Fn) (fa fc:List P) (ks vs:List P) (hk:idxP .i64 op ks 0=some none) :
  CallM cfg Tryz.prog 201 [(1000,.cells [.fn (.func 196) [] [.ref 1001 0]]),(1001,.cells [.mp 1002]),(1002,.map ks vs)] [.p (.int .i64 op),.p (.fn h fa fc),.ref 1000 0] []
   [(1000,.cells [.fn (.func 196) [] [.ref 1001 0]]),(1001,.cells [.mp 1002]),(1002,.map (ks ++ [.int .i64 op]) (vs ++ [strictP (.fn (.func 202) [] [.imm [.fn h fa fc] 0])]))]:=by
 have msk:Msk 488 488:=⟨⟩
 refine CallM.of_body cfg_ok Tryz.func201 rfl rfl fun base=>?_
 rw [show startM Tryz.f201 [.p (.int .i64 op),.p (.fn h fa fc),.ref 1000 0] [(1000,.cells [.fn (.func 196) [] [.ref 1001 0]]),(1001,.cells [.mp 1002]),(1002,.map ks vs)]=⟨mkT 9 [(0,.p (.int .i64 op)),(1,.p (.fn h fa fc)),(2,.ref 1000 0)],[(1000,.cells [.fn (.func 196) [] [.ref 1001 0]]),(1001,.cells [.mp 1002]),(1002,.map ks vs)],[1000,1001,1002]⟩ by kernel_rfl]
 have st0:Stop 1:=⟨⟩
 refine walkX ?_ trivial
 all_goals first | intro h' h | intro h | skip
 refine ⟨?_⟩
 clear st0
 refine wpA_regK cfg_ok fun K hK=>?_
 simp -implicitDefEqProofs [*]
 refine goX_intro (x_lendM (fun n=>n + 1) (callM196 op (.func 202) [] [.imm [.fn h fa fc] 0] ks vs hk) rfl (by simp -implicitDefEqProofs [callArgs];rfl) (by simp -implicitDefEqProofs [argM,dom];exact ⟨rfl,rfl⟩) (by rfl) (by rfl) (by simp [getB,renB,renVs,renV,setB]) (by rfl) (by rfl) (by rfl) (by rfl)) ?_
 rintro S' rfl
 refine runK_id ?_
 simp -implicitDefEqProofs [*,lentB,lentU,renBs,dom,renB,renV,renVs,resVV]
 refine hK.out _ _ ?_;clear hK;clear K
 refine bodyM_normal (bodyM_of rfl rfl trivial ?_ (by rfl) (by rfl) (by rfl))
 simp [getB,leK,leT,leV,strictP]
theorem callM204 (op:Int) (h:Fn) (fa fc:List P) (ks vs:List P) (hk:idxP .i64 op ks 0=some none) :
  CallM cfg Tryz.prog 204 [(1000,.cells [.fn (.func 196) [] [.ref 1001 0]]),(1001,.cells [.mp 1002]),(1002,.map ks vs)] [.p (.int .i64 op),.p (.fn h fa fc),.ref 1000 0] []
   [(1000,.cells [.fn (.func 196) [] [.ref 1001 0]]),(1001,.cells [.mp 1002]),(1002,.map (ks ++ [.int .i64 op]) (vs ++ [strictP (.fn (.func 205) [] [.imm [.fn h fa fc] 0])]))]:=by
 have msk:Msk 488 488:=⟨⟩
 refine CallM.of_body cfg_ok Tryz.func204 rfl rfl fun base=>?_
 rw [show startM Tryz.f204 [.p (.int .i64 op),.p (.fn h fa fc),.ref 1000 0] [(1000,.cells [.fn (.func 196) [] [.ref 1001 0]]),(1001,.cells [.mp 1002]),(1002,.map ks vs)]=⟨mkT 9 [(0,.p (.int .i64 op)),(1,.p (.fn h fa fc)),(2,.ref 1000 0)],[(1000,.cells [.fn (.func 196) [] [.ref 1001 0]]),(1001,.cells [.mp 1002]),(1002,.map ks vs)],[1000,1001,1002]⟩ by kernel_rfl]
 have st0:Stop 1:=⟨⟩
 refine walkX ?_ trivial
 all_goals first | intro h' h | intro h | skip
 refine ⟨?_⟩
 clear st0
 refine wpA_regK cfg_ok fun K hK=>?_
 simp -implicitDefEqProofs [*]
 refine goX_intro (x_lendM (fun n=>n + 1) (callM196 op (.func 205) [] [.imm [.fn h fa fc] 0] ks vs hk) rfl (by simp -implicitDefEqProofs [callArgs];rfl) (by simp -implicitDefEqProofs [argM,dom];exact ⟨rfl,rfl⟩) (by rfl) (by rfl) (by simp [getB,renB,renVs,renV,setB]) (by rfl) (by rfl) (by rfl) (by rfl)) ?_
 rintro S' rfl
 refine runK_id ?_
 simp -implicitDefEqProofs [*,lentB,lentU,renBs,dom,renB,renV,renVs,resVV]
 refine hK.out _ _ ?_;clear hK;clear K
 refine bodyM_normal (bodyM_of rfl rfl trivial ?_ (by rfl) (by rfl) (by rfl))
 simp [getB,leK,leT,leV,strictP]
theorem callM220:CallM cfg Tryz.prog 220 [(1000,.map [.int .i64 4,.int .i64 5,.int .i64 6,.int .i64 7,.int .i64 8,.int .i64 9,.int .i64 10,.int .i64 11,.int .i64 12,.int .i64 13,.int .i64 14,.int .i64 15,.int .i64 16,.int .i64 17] [numbersP 206,numbersP 207,numbersP 208,partsP 209,partsP 210,strictP (fnP 211),strictP (fnP 212),strictP (fnP 213),orderP 214,orderP 215,orderP 216,orderP 217,orderP 218,orderP 219])] [.agg [.mp 1000]] [] [(1000,.map [.int .i64 4,.int .i64 5,.int .i64 6,.int .i64 7,.int .i64 8,.int .i64 9,.int .i64 10,.int .i64 11,.int .i64 12,.int .i64 13,.int .i64 14,.int .i64 15,.int .i64 16,.int .i64 17,.int .i64 18,.int .i64 19,.int .i64 20,.int .i64 21,.int .i64 22,.int .i64 23,.int .i64 24,.int .i64 25] [numbersP 206,numbersP 207,numbersP 208,partsP 209,partsP 210,strictP (fnP 211),strictP (fnP 212),strictP (fnP 213),orderP 214,orderP 215,orderP 216,orderP 217,orderP 218,orderP 219,fnP 264,fnP 265,fnP 267,fnP 269,fnP 271,fnP 272,fnP 273,fnP 274])]:=by
 generalize hv:[numbersP 206,numbersP 207,numbersP 208,partsP 209,partsP 210,strictP (fnP 211),strictP (fnP 212),strictP (fnP 213),orderP 214,orderP 215,orderP 216,orderP 217,orderP 218,orderP 219]=v0
 have msk:Msk 262140 262140:=⟨⟩
 refine CallM.of_body cfg_ok Tryz.func220 rfl rfl fun base=>?_
 rw [show startM Tryz.f220 [.agg [.mp 1000]] [(1000,.map [.int .i64 4,.int .i64 5,.int .i64 6,.int .i64 7,.int .i64 8,.int .i64 9,.int .i64 10,.int .i64 11,.int .i64 12,.int .i64 13,.int .i64 14,.int .i64 15,.int .i64 16,.int .i64 17] v0)]=⟨mkT 18 [(0,.agg [.mp 1000])],[(1000,.map [.int .i64 4,.int .i64 5,.int .i64 6,.int .i64 7,.int .i64 8,.int .i64 9,.int .i64 10,.int .i64 11,.int .i64 12,.int .i64 13,.int .i64 14,.int .i64 15,.int .i64 16,.int .i64 17] v0)],[1000]⟩ by kernel_rfl]
 have st0:Stop 1:=⟨⟩
 refine walkX ?_ trivial
 all_goals first | intro h' h | intro h | skip
 refine ⟨?_⟩
 clear st0
 refine wpA_seqK cfg_ok fun K hK=>?_
 simp -implicitDefEqProofs [*]
 refine goX_intro (x_mapUpdate cfg_ok rfl (d:=0) (by simp -implicitDefEqProofs [evalM,idxP];rfl)) ?_
 rintro S' rfl
 refine runK_id ?_
 simp -implicitDefEqProofs [*]
 refine hK.out _ _ ?_;clear hK;clear K
 skip
 skip
 refine wpA_seqK cfg_ok fun K hK=>?_
 simp -implicitDefEqProofs [*]
 refine goX_intro (x_mapUpdate cfg_ok rfl (d:=0) (by simp -implicitDefEqProofs [evalM,idxP];rfl)) ?_
 rintro S' rfl
 refine runK_id ?_
 simp -implicitDefEqProofs [*]
 refine hK.out _ _ ?_;clear hK;clear K
 skip
 skip
 refine wpA_seqK cfg_ok fun K hK=>?_
 simp -implicitDefEqProofs [*]
 refine goX_intro (x_mapUpdate cfg_ok rfl (d:=0) (by simp -implicitDefEqProofs [evalM,idxP];rfl)) ?_
 rintro S' rfl
 refine runK_id ?_
 simp -implicitDefEqProofs [*]
 refine hK.out _ _ ?_;clear hK;clear K
 skip
 skip
 refine wpA_seqK cfg_ok fun K hK=>?_
 simp -implicitDefEqProofs [*]
 refine goX_intro (x_mapUpdate cfg_ok rfl (d:=0) (by simp -implicitDefEqProofs [evalM,idxP];rfl)) ?_
 rintro S' rfl
 refine runK_id ?_
 simp -implicitDefEqProofs [*]
 refine hK.out _ _ ?_;clear hK;clear K
 skip
 skip
 refine wpA_seqK cfg_ok fun K hK=>?_
 simp -implicitDefEqProofs [*]
 refine goX_intro (x_mapUpdate cfg_ok rfl (d:=0) (by simp -implicitDefEqProofs [evalM,idxP];rfl)) ?_
 rintro S' rfl
 refine runK_id ?_
 simp -implicitDefEqProofs [*]
 refine hK.out _ _ ?_;clear hK;clear K
 skip
 skip
 refine wpA_seqK cfg_ok fun K hK=>?_
 simp -implicitDefEqProofs [*]
 refine goX_intro (x_mapUpdate cfg_ok rfl (d:=0) (by simp -implicitDefEqProofs [evalM,idxP];rfl)) ?_
 rintro S' rfl
 refine runK_id ?_
 simp -implicitDefEqProofs [*]
 refine hK.out _ _ ?_;clear hK;clear K
 skip
 skip
 refine wpA_seqK cfg_ok fun K hK=>?_
 simp -implicitDefEqProofs [*]
 refine goX_intro (x_mapUpdate cfg_ok rfl (d:=0) (by simp -implicitDefEqProofs [evalM,idxP];rfl)) ?_
 rintro S' rfl
 refine runK_id ?_
 simp -implicitDefEqProofs [*]
 refine hK.out _ _ ?_;clear hK;clear K
 skip
 skip
 refine wpA_regK cfg_ok fun K hK=>?_
 simp -implicitDefEqProofs [*]
 refine goX_intro (x_mapUpdate cfg_ok rfl (d:=0) (by simp -implicitDefEqProofs [evalM,idxP];rfl)) ?_
 rintro S' rfl
 refine runK_id ?_
 simp -implicitDefEqProofs [*]
 refine hK.out _ _ ?_;clear hK;clear K
 refine bodyM_normal (bodyM_of rfl rfl trivial ?_ (by rfl) (by rfl) (by rfl))
 subst hv
 simp [getB,leK,leT,leV,fnP]
instance call141:Cal 141 [] [.agg [doP]]:=⟨by
 have msk:Msk 0 0:=⟨⟩
 refine CallP.of_bodyN 43 cfg_ok Tryz.func141 rfl rfl (by kernel_rfl) fun base=>?_;simp only [mkA,Nat.reduceAdd]
 refine wpA_seqK cfg_ok fun K hK=>?_
 simp -implicitDefEqProofs [*]
 refine hK.out _ _ ?_;clear hK;clear K
 refine wpA_seqK cfg_ok fun K hK=>?_
 simp -implicitDefEqProofs [*]
 refine goX_intro (x_makeMap rfl (d:=6) (by simp -implicitDefEqProofs [evalM];rfl)) ?_
 rintro S' rfl
 refine runK_id ?_
 simp -implicitDefEqProofs [*]
 refine hK.out _ _ ?_;clear hK;clear K
 refine wpA_seqK cfg_ok fun K hK=>?_
 simp -implicitDefEqProofs [*]
 refine hK.out _ _ ?_;clear hK;clear K
 refine wpA_seqK cfg_ok fun K hK=>?_
 simp -implicitDefEqProofs [*]
 refine hK.out _ _ ?_;clear hK;clear K
 refine wpA_seqK cfg_ok fun K hK=>?_
 simp -implicitDefEqProofs [*]
 refine hK.out _ _ ?_;clear hK;clear K
 refine wpA_seqK cfg_ok fun K hK=>?_
 simp -implicitDefEqProofs [*]
 refine hK.out _ _ ?_;clear hK;clear K
 refine wpA_seqK cfg_ok fun K hK=>?_
 simp -implicitDefEqProofs [*]
 refine goX_intro (x_lendM (fun n=>if n=1000 then 2 else if n=1001 then 1 else 6) (callM198 4 (.func 206) [] [] [] [] (by rfl)) rfl (by simp -implicitDefEqProofs [callArgs];rfl) (by simp -implicitDefEqProofs [argM,dom];exact ⟨rfl,rfl⟩) (by rfl) (by rfl) (by simp [getB,renB,renVs,renV,setB,strictP,numbersP,partsP,orderP,fnP]) (by rfl) (by rfl) (by rfl) (by rfl)) ?_
 rintro S' rfl
 refine runK_id ?_
 simp -implicitDefEqProofs [*,lentB,lentU,renBs,dom,renB,renV,renVs,resVV]
 refine hK.out _ _ ?_;clear hK;clear K
 refine wpA_seqK cfg_ok fun K hK=>?_
 simp -implicitDefEqProofs [*]
 refine goX_intro (x_lendM (fun n=>if n=1000 then 2 else if n=1001 then 1 else 6) (callM198 5 (.func 207) [] [] [.int .i64 4] [numbersP 206] (by rfl)) rfl (by simp -implicitDefEqProofs [callArgs];rfl) (by simp -implicitDefEqProofs [argM,dom];exact ⟨rfl,rfl⟩) (by rfl) (by rfl) (by simp [getB,renB,renVs,renV,setB,strictP,numbersP,partsP,orderP,fnP]) (by rfl) (by rfl) (by rfl) (by rfl)) ?_
 rintro S' rfl
 refine runK_id ?_
 simp -implicitDefEqProofs [*,lentB,lentU,renBs,dom,renB,renV,renVs,resVV]
 refine hK.out _ _ ?_;clear hK;clear K
 refine wpA_seqK cfg_ok fun K hK=>?_
 simp -implicitDefEqProofs [*]
 refine goX_intro (x_lendM (fun n=>if n=1000 then 2 else if n=1001 then 1 else 6) (callM198 6 (.func 208) [] [] [.int .i64 4,.int .i64 5] [numbersP 206,numbersP 207] (by rfl)) rfl (by simp -implicitDefEqProofs [callArgs];rfl) (by simp -implicitDefEqProofs [argM,dom];exact ⟨rfl,rfl⟩) (by rfl) (by rfl) (by simp [getB,renB,renVs,renV,setB,strictP,numbersP,partsP,orderP,fnP]) (by rfl) (by rfl) (by rfl) (by rfl)) ?_
 rintro S' rfl
 refine runK_id ?_
 simp -implicitDefEqProofs [*,lentB,lentU,renBs,dom,renB,renV,renVs,resVV]
 refine hK.out _ _ ?_;clear hK;clear K
 refine wpA_seqK cfg_ok fun K hK=>?_
 simp -implicitDefEqProofs [*]
 refine goX_intro (x_lendM (fun n=>if n=1000 then 2 else if n=1001 then 1 else 6) (callM204 7 (.func 209) [] [] [.int .i64 4,.int .i64 5,.int .i64 6] [numbersP 206,numbersP 207,numbersP 208] (by rfl)) rfl (by simp -implicitDefEqProofs [callArgs];rfl) (by simp -implicitDefEqProofs [argM,dom];exact ⟨rfl,rfl⟩) (by rfl) (by rfl) (by simp [getB,renB,renVs,renV,setB,strictP,numbersP,partsP,orderP,fnP]) (by rfl) (by rfl) (by rfl) (by rfl)) ?_
 rintro S' rfl
 refine runK_id ?_
 simp -implicitDefEqProofs [*,lentB,lentU,renBs,dom,renB,renV,renVs,resVV]
 refine hK.out _ _ ?_;clear hK;clear K
 refine wpA_seqK cfg_ok fun K hK=>?_
 simp -implicitDefEqProofs [*]
 refine goX_intro (x_lendM (fun n=>if n=1000 then 2 else if n=1001 then 1 else 6) (callM204 8 (.func 210) [] [] [.int .i64 4,.int .i64 5,.int .i64 6,.int .i64 7] [numbersP 206,numbersP 207,numbersP 208,partsP 209] (by rfl)) rfl (by simp -implicitDefEqProofs [callArgs];rfl) (by simp -implicitDefEqProofs [argM,dom];exact ⟨rfl,rfl⟩) (by rfl) (by rfl) (by simp [getB,renB,renVs,renV,setB,strictP,numbersP,partsP,orderP,fnP]) (by rfl) (by rfl) (by rfl) (by rfl)) ?_
 rintro S' rfl
 refine runK_id ?_
 simp -implicitDefEqProofs [*,lentB,lentU,renBs,dom,renB,renV,renVs,resVV]
 refine hK.out _ _ ?_;clear hK;clear K
 refine wpA_seqK cfg_ok fun K hK=>?_
 simp -implicitDefEqProofs [*]
 refine goX_intro (x_lendM (fun n=>if n=1000 then 1 else 6) (callM196 9 (.func 211) [] [] [.int .i64 4,.int .i64 5,.int .i64 6,.int .i64 7,.int .i64 8] [numbersP 206,numbersP 207,numbersP 208,partsP 209,partsP 210] (by rfl)) rfl (by simp -implicitDefEqProofs [callArgs];rfl) (by simp -implicitDefEqProofs [argM,dom];exact ⟨rfl,rfl⟩) (by rfl) (by rfl) (by simp [getB,renB,renVs,renV,setB,strictP,numbersP,partsP,orderP,fnP]) (by rfl) (by rfl) (by rfl) (by rfl)) ?_
 rintro S' rfl
 refine runK_id ?_
 simp -implicitDefEqProofs [*,lentB,lentU,renBs,dom,renB,renV,renVs,resVV]
 refine hK.out _ _ ?_;clear hK;clear K
 refine wpA_seqK cfg_ok fun K hK=>?_
 simp -implicitDefEqProofs [*]
 refine goX_intro (x_lendM (fun n=>if n=1000 then 1 else 6) (callM196 10 (.func 212) [] [] [.int .i64 4,.int .i64 5,.int .i64 6,.int .i64 7,.int .i64 8,.int .i64 9] [numbersP 206,numbersP 207,numbersP 208,partsP 209,partsP 210,strictP (fnP 211)] (by rfl)) rfl (by simp -implicitDefEqProofs [callArgs];rfl) (by simp -implicitDefEqProofs [argM,dom];exact ⟨rfl,rfl⟩) (by rfl) (by rfl) (by simp [getB,renB,renVs,renV,setB,strictP,numbersP,partsP,orderP,fnP]) (by rfl) (by rfl) (by rfl) (by rfl)) ?_
 rintro S' rfl
 refine runK_id ?_
 simp -implicitDefEqProofs [*,lentB,lentU,renBs,dom,renB,renV,renVs,resVV]
 refine hK.out _ _ ?_;clear hK;clear K
 refine wpA_seqK cfg_ok fun K hK=>?_
 simp -implicitDefEqProofs [*]
 refine goX_intro (x_lendM (fun n=>if n=1000 then 1 else 6) (callM196 11 (.func 213) [] [] [.int .i64 4,.int .i64 5,.int .i64 6,.int .i64 7,.int .i64 8,.int .i64 9,.int .i64 10] [numbersP 206,numbersP 207,numbersP 208,partsP 209,partsP 210,strictP (fnP 211),strictP (fnP 212)] (by rfl)) rfl (by simp -implicitDefEqProofs [callArgs];rfl) (by simp -implicitDefEqProofs [argM,dom];exact ⟨rfl,rfl⟩) (by rfl) (by rfl) (by simp [getB,renB,renVs,renV,setB,strictP,numbersP,partsP,orderP,fnP]) (by rfl) (by rfl) (by rfl) (by rfl)) ?_
 rintro S' rfl
 refine runK_id ?_
 simp -implicitDefEqProofs [*,lentB,lentU,renBs,dom,renB,renV,renVs,resVV]
 refine hK.out _ _ ?_;clear hK;clear K
 refine wpA_seqK cfg_ok fun K hK=>?_
 simp -implicitDefEqProofs [*]
 refine goX_intro (x_lendM (fun n=>if n=1000 then 2 else if n=1001 then 1 else 6) (callM201 12 (.func 214) [] [] [.int .i64 4,.int .i64 5,.int .i64 6,.int .i64 7,.int .i64 8,.int .i64 9,.int .i64 10,.int .i64 11] [numbersP 206,numbersP 207,numbersP 208,partsP 209,partsP 210,strictP (fnP 211),strictP (fnP 212),strictP (fnP 213)] (by rfl)) rfl (by simp -implicitDefEqProofs [callArgs];rfl) (by simp -implicitDefEqProofs [argM,dom];exact ⟨rfl,rfl⟩) (by rfl) (by rfl) (by simp [getB,renB,renVs,renV,setB,strictP,numbersP,partsP,orderP,fnP]) (by rfl) (by rfl) (by rfl) (by rfl)) ?_
 rintro S' rfl
 refine runK_id ?_
 simp -implicitDefEqProofs [*,lentB,lentU,renBs,dom,renB,renV,renVs,resVV]
 refine hK.out _ _ ?_;clear hK;clear K
 refine wpA_seqK cfg_ok fun K hK=>?_
 simp -implicitDefEqProofs [*]
 refine goX_intro (x_lendM (fun n=>if n=1000 then 2 else if n=1001 then 1 else 6) (callM201 13 (.func 215) [] [] [.int .i64 4,.int .i64 5,.int .i64 6,.int .i64 7,.int .i64 8,.int .i64 9,.int .i64 10,.int .i64 11,.int .i64 12] [numbersP 206,numbersP 207,numbersP 208,partsP 209,partsP 210,strictP (fnP 211),strictP (fnP 212),strictP (fnP 213),orderP 214] (by rfl)) rfl (by simp -implicitDefEqProofs [callArgs];rfl) (by simp -implicitDefEqProofs [argM,dom];exact ⟨rfl,rfl⟩) (by rfl) (by rfl) (by simp [getB,renB,renVs,renV,setB,strictP,numbersP,partsP,orderP,fnP]) (by rfl) (by rfl) (by rfl) (by rfl)) ?_
 rintro S' rfl
 refine runK_id ?_
 simp -implicitDefEqProofs [*,lentB,lentU,renBs,dom,renB,renV,renVs,resVV]
 refine hK.out _ _ ?_;clear hK;clear K
 refine wpA_seqK cfg_ok fun K hK=>?_
 simp -implicitDefEqProofs [*]
 refine goX_intro (x_lendM (fun n=>if n=1000 then 2 else if n=1001 then 1 else 6) (callM201 14 (.func 216) [] [] [.int .i64 4,.int .i64 5,.int .i64 6,.int .i64 7,.int .i64 8,.int .i64 9,.int .i64 10,.int .i64 11,.int .i64 12,.int .i64 13] [numbersP 206,numbersP 207,numbersP 208,partsP 209,partsP 210,strictP (fnP 211),strictP (fnP 212),strictP (fnP 213),orderP 214,orderP 215] (by rfl)) rfl (by simp -implicitDefEqProofs [callArgs];rfl) (by simp -implicitDefEqProofs [argM,dom];exact ⟨rfl,rfl⟩) (by rfl) (by rfl) (by simp [getB,renB,renVs,renV,setB,strictP,numbersP,partsP,orderP,fnP]) (by rfl) (by rfl) (by rfl) (by rfl)) ?_
 rintro S' rfl
 refine runK_id ?_
 simp -implicitDefEqProofs [*,lentB,lentU,renBs,dom,renB,renV,renVs,resVV]
 refine hK.out _ _ ?_;clear hK;clear K
 refine wpA_seqK cfg_ok fun K hK=>?_
 simp -implicitDefEqProofs [*]
 refine goX_intro (x_lendM (fun n=>if n=1000 then 2 else if n=1001 then 1 else 6) (callM201 15 (.func 217) [] [] [.int .i64 4,.int .i64 5,.int .i64 6,.int .i64 7,.int .i64 8,.int .i64 9,.int .i64 10,.int .i64 11,.int .i64 12,.int .i64 13,.int .i64 14] [numbersP 206,numbersP 207,numbersP 208,partsP 209,partsP 210,strictP (fnP 211),strictP (fnP 212),strictP (fnP 213),orderP 214,orderP 215,orderP 216] (by rfl)) rfl (by simp -implicitDefEqProofs [callArgs];rfl) (by simp -implicitDefEqProofs [argM,dom];exact ⟨rfl,rfl⟩) (by rfl) (by rfl) (by simp [getB,renB,renVs,renV,setB,strictP,numbersP,partsP,orderP,fnP]) (by rfl) (by rfl) (by rfl) (by rfl)) ?_
 rintro S' rfl
 refine runK_id ?_
 simp -implicitDefEqProofs [*,lentB,lentU,renBs,dom,renB,renV,renVs,resVV]
 refine hK.out _ _ ?_;clear hK;clear K
 refine wpA_seqK cfg_ok fun K hK=>?_
 simp -implicitDefEqProofs [*]
 refine goX_intro (x_lendM (fun n=>if n=1000 then 2 else if n=1001 then 1 else 6) (callM201 16 (.func 218) [] [] [.int .i64 4,.int .i64 5,.int .i64 6,.int .i64 7,.int .i64 8,.int .i64 9,.int .i64 10,.int .i64 11,.int .i64 12,.int .i64 13,.int .i64 14,.int .i64 15] [numbersP 206,numbersP 207,numbersP 208,partsP 209,partsP 210,strictP (fnP 211),strictP (fnP 212),strictP (fnP 213),orderP 214,orderP 215,orderP 216,orderP 217] (by rfl)) rfl (by simp -implicitDefEqProofs [callArgs];rfl) (by simp -implicitDefEqProofs [argM,dom];exact ⟨rfl,rfl⟩) (by rfl) (by rfl) (by simp [getB,renB,renVs,renV,setB,strictP,numbersP,partsP,orderP,fnP]) (by rfl) (by rfl) (by rfl) (by rfl)) ?_
 rintro S' rfl
 refine runK_id ?_
 simp -implicitDefEqProofs [*,lentB,lentU,renBs,dom,renB,renV,renVs,resVV]
 refine hK.out _ _ ?_;clear hK;clear K
 refine wpA_seqK cfg_ok fun K hK=>?_
 simp -implicitDefEqProofs [*]
 refine goX_intro (x_lendM (fun n=>if n=1000 then 2 else if n=1001 then 1 else 6) (callM201 17 (.func 219) [] [] [.int .i64 4,.int .i64 5,.int .i64 6,.int .i64 7,.int .i64 8,.int .i64 9,.int .i64 10,.int .i64 11,.int .i64 12,.int .i64 13,.int .i64 14,.int .i64 15,.int .i64 16] [numbersP 206,numbersP 207,numbersP 208,partsP 209,partsP 210,strictP (fnP 211),strictP (fnP 212),strictP (fnP 213),orderP 214,orderP 215,orderP 216,orderP 217,orderP 218] (by rfl)) rfl (by simp -implicitDefEqProofs [callArgs];rfl) (by simp -implicitDefEqProofs [argM,dom];exact ⟨rfl,rfl⟩) (by rfl) (by rfl) (by simp [getB,renB,renVs,renV,setB,strictP,numbersP,partsP,orderP,fnP]) (by rfl) (by rfl) (by rfl) (by rfl)) ?_
 rintro S' rfl
 refine runK_id ?_
 simp -implicitDefEqProofs [*,lentB,lentU,renBs,dom,renB,renV,renVs,resVV]
 refine hK.out _ _ ?_;clear hK;clear K
 refine wpA_seqK cfg_ok fun K hK=>?_
 simp -implicitDefEqProofs [*]
 refine goX_intro (x_lendM (fun _=>6) callM220 rfl (by simp -implicitDefEqProofs [callArgs];rfl) (by simp -implicitDefEqProofs [argM,dom];exact ⟨rfl,rfl⟩) (by rfl) (by rfl) (by simp [getB,renB,renVs,renV,setB,strictP,numbersP,partsP,orderP,fnP]) (by rfl) (by rfl) (by rfl) (by rfl)) ?_
 rintro S' rfl
 refine runK_id ?_
 simp -implicitDefEqProofs [*,lentB,lentU,renBs,dom,renB,renV,renVs,resVV]
 refine hK.out _ _ ?_;clear hK;clear K
 refine wpA_seqK cfg_ok fun K hK=>?_
 simp -implicitDefEqProofs [*]
 refine hK.out _ _ ?_;clear hK;clear K
 refine wpA_ret ?_
 refine bodyR_ret (by first | (simp -implicitDefEqProofs [*];done) | (simp -implicitDefEqProofs [*];rfl)) ?_
 simp [doP,doKs,doVs]⟩
end
section

open Go.Abs Go.RowKit
theorem rep_fnref {E:Env} {μ:Places} {b:Blks} {u:List Nat} {v:Value} {g:FuncId} {n B cap:Nat} (h:Rep E μ b u v (.fn (.func g) [.ref n 0] [])) (hμ:μ n=some (B,cap)):v = .func (.func g) #[.pointer (some ⟨B,0,none⟩)] #[]:=by
 obtain ⟨vs,ws,rfl,hl,hm,h1,h2⟩:=h.inv_fn
 match vs,hl with
 | [x],_=>
  have hx:=h1 0 x _ rfl rfl
  have:ws=[]:=by simpa using hm
  subst this
  cases hx with
  | ref _ _ B' cap' hu hB hnb=>
   rw [hμ] at hB
   cases hB
   rfl
def fnB (B:Nat) (g:FuncId):Value:=.func (.func g) #[.pointer (some ⟨B,0,none⟩)] #[]
theorem run_build12 (w:World) (vs:List Value) (hl:vs.length=12) (hone:∀ v ∈ vs,v.cells.size=1) :
  ∃ cells:Array Value,cells.size=12∧(∀ (i:Nat) (v:Value),vs[i]? = some v→cells[i]? = v.cells[0]?) ∧
   (Instr.buildSlice 138 12 ((vs.zipIdx 0).map (fun p=>(p.2,p.1))).toArray).run Tryz.prog w = .ok (.slice (some ⟨w.heap.size,0,none⟩) 12 12) (w.alloc (.cells cells 141 (0,0))):=by
 have hu:=run_underlying_slice (P:=Tryz.prog) cfg_ok (cfg_ty 138 ▸ ty138) rfl w
 have hsz:=cfg_ok.run_sizeOf (w:=w) (t:=141) (cfg_ty 141 ▸ ty141)
 obtain ⟨z,z1,z2⟩:=cfg_ok.run_zeroValue (w:=w) (t:=141) (cfg_ty 141 ▸ ty141)
 obtain ⟨cells,f1,f2,f3,f4⟩:=fill_rows 1 vs 0 ((Array.range (12 * 1)).map (z.cells[· % z.cells.size]!)) hone (by simp [hl])
 refine ⟨cells,by rw [f2];simp,fun i v hv=>?_,?_⟩
 ·have:=f4 i v hv 0 (by omega)
  simpa using this
 ·simp only [Instr.buildSlice,Sem.run_bind,hu,Result.andThen_ok,hsz]
  rw [if_neg (by decide),if_neg (by decide)]
  simp only [Sem.run_bind,Sem.run_pure,Result.andThen_ok,z1]
  simp only [f1,newRow,run_newObj,Sem.run_bind,Sem.run_pure,Result.andThen_ok]
  rfl
theorem rep12 {E:Env} {μ:Places} {b:Blks} {u:List Nat} {B cap:Nat} (hμ:μ 8=some (B,cap)) {a:Act} {al:List (Nat × V)} (ht:Tm E μ ⟨mkT 38 al,b,u⟩ a) (t:Nat) (g:FuncId) (hlt:t < 38) (hl:lookA al t = .fn (.func g) [.ref 8 0] []):a.eval (.tmp t)=fnB B g:=by
 have h:=rep_opnd ht (.tmp t)
 have e:opnd (mkT 38 al) (.tmp t) = .fn (.func g) [.ref 8 0] []:=by
  rw [← hl]
  simp only [opnd]
  rw [List.getD_eq_getElem?_getD,mkT_get,if_pos hlt]
  rfl
 simp only [e] at h
 exact rep_fnref h hμ
theorem repref {E:Env} {μ:Places} {b:Blks} {u:List Nat} {B cap:Nat} (hμ:μ 8=some (B,cap)) {a:Act} {al:List (Nat × V)} (ht:Tm E μ ⟨mkT 38 al,b,u⟩ a) (t:Nat) (hlt:t < 38) (hl:lookA al t = .ref 8 0):a.eval (.tmp t) = .pointer (some ⟨B,0,none⟩):=by
 have h:=rep_opnd ht (.tmp t)
 have e:opnd (mkT 38 al) (.tmp t) = .ref 8 0:=by
  rw [← hl]
  simp only [opnd]
  rw [List.getD_eq_getElem?_getD,mkT_get,if_pos hlt]
  rfl
 simp only [e] at h
 generalize a.eval (.tmp t)=v at h
 cases h with
 | ref _ _ B' cap' hu hB hnb=>rw [hμ] at hB;cases hB;rfl
theorem tieMem {base:Base} {E:Env} {μ:Places} {w:World} {c:P} {B cap:Nat} {cc cells:Array Value} {tt:TypeId} (hm:Mem cfg base E μ [(8,.cells [.p c,.p .nilf,.p .nilf,.p doP,.nils])] [8] w) (hμ:μ 8=some (B,cap)) (hh:w.heap[B]? = some (.cells cc tt (0,0))) (hs:cc.size=5)
  (hr:∀ (i:Nat) (v:Value) (x:V),cc[i]? = some v→([.p c,.p .nilf,.p .nilf,.p doP,.nils]:List V)[i]? = some x→Rep E μ [(8,.cells [.p c,.p .nilf,.p .nilf,.p doP,.nils])] [8] v x) (hE:∀ o,E.cell B o=none)
  (hc:cells.size=12) (hcs:∀ i,i < 12→cells[i]? = some (fnB B (142 + i))) {w2:World}
  (q1:w2.heap[B]? = some (.cells (cc.set! 4 (.slice (some ⟨w.heap.size,0,none⟩) 12 12)) tt (0,0))) (q2:w2.heap[w.heap.size]? = some (.cells cells 141 (0,0))) (q3:∀ j,j < w.heap.size→j ≠ B→w2.heap[j]? = w.heap[j]?) (q4:w2.os=w.os) (q5:w2.tape=w.tape) (q6:w2.output=w.output) (q7:w.heap.size ≤ w2.heap.size) :
  ∃ E',Mem cfg base E' (fun _=>none) [] [] w2∧RepP E' (.pointer (some ⟨B,0,none⟩)) (.obj 0 [c] 0):=by
 have hBlt:B < w.heap.size:=(Array.getElem?_eq_some_iff.1 hh).1
 have hlive:base.w.heap.size ≤ B ∨ base.L B:=hm.live 8 _ B cap rfl rfl hμ
 have hEA:∀ o,E.cell w.heap.size o=none:=by
  intro o
  cases h:E.cell w.heap.size o with
  | none=>rfl
  | some v'=>exact (Nat.lt_irrefl _ (lt_of_cell (hm.cell _ _ _ h))).elim
 have hObj:∀ K,(∀ o,E.cell K o=none)→E.obj K=none:=by
  intro K hK
  cases h:E.obj K with
  | none=>rfl
  | some x=>
   obtain ⟨tag,ps⟩:=x
   have hne:∃ y,(cfg.obj tag ps)[0]? = some y:=by
    show ∃ y,(objOf tag ps)[0]? = some y
    unfold objOf
    split <;> exact ⟨_,rfl⟩
   obtain ⟨y,hy⟩:=hne
   obtain ⟨v,hv,_⟩:=hm.obj K tag ps h 0 y hy
   rw [hK 0] at hv;cases hv
 let sl:Value:=.slice (some ⟨w.heap.size,0,none⟩) 12 12
 let cc':=cc.set! 4 sl
 let E':Env:=⟨fun b o=>if b=B then cc'[o]? else if b=w.heap.size then cells[o]? else E.cell b o,fun b=>if b=B then some (0,[c]) else E.obj b,E.mp⟩
 have hle:E.le E':=by
  refine ⟨fun b o v h=>?_,fun b x h=>?_,fun b x h=>h⟩
  ·show (if b=B then cc'[o]? else if b=w.heap.size then cells[o]? else E.cell b o)=some v
   have e1:b ≠ B:=by rintro rfl;rw [hE o] at h;cases h
   have e2:b ≠ w.heap.size:=by rintro rfl;rw [hEA o] at h;cases h
   rw [if_neg e1,if_neg e2];exact h
  ·show (if b=B then some (0,[c]) else E.obj b)=some x
   have e1:b ≠ B:=by rintro rfl;rw [hObj b hE] at h;cases h
   rw [if_neg e1];exact h
 have hobj:RepP E' (.pointer (some ⟨B,0,none⟩)) (.obj 0 [c] 0):=.obj B 0 0 [c] (by show (if B=B then some (0,[c]) else E.obj B)=_;rw [if_pos rfl])
 have hAB:w.heap.size ≠ B:=by omega
 have hcellB:∀ o,E'.cell B o=cc'[o]?:=fun o=>by show (if B=B then cc'[o]? else _)=_;rw [if_pos rfl]
 have hcellA:∀ o,E'.cell w.heap.size o=cells[o]?:=fun o=>by show (if w.heap.size=B then cc'[o]? else if w.heap.size=w.heap.size then cells[o]? else _)=_;rw [if_neg hAB,if_pos rfl]
 have hcell':∀ b o,b ≠ B→b ≠ w.heap.size→E'.cell b o=E.cell b o:=fun b o h1 h2=>by show (if b=B then cc'[o]? else if b=w.heap.size then cells[o]? else E.cell b o)=_;rw [if_neg h1,if_neg h2]
 have hfn:∀ i,i < 12→RepP E' (fnB B (142 + i)) (.fn (.func (142 + i)) [logicP c] []):=fun i hi=>by
  refine .fn _ [.pointer (some ⟨B,0,none⟩)] [] [logicP c] [] rfl rfl (fun j v p h1 h2=>?_) (fun j v p h1 h2=>by simp at h1)
  match j with
  | 0=>simp at h1 h2;subst h1;subst h2;exact hobj
  | j + 1=>simp at h1
 have hlst:RepP E' sl (.lst (stepPs c)):=by
  have hst:∀ (i:Nat) (x:P),(stepPs c)[i]? = some x→i < 12∧x = .fn (.func (142 + i)) [logicP c] []:=by
   intro i x hx
   have hi:i < 12:=(List.getElem?_eq_some_iff.1 hx).1
   refine ⟨hi,?_⟩
   match i,hi with
   | 0,_=>cases hx;rfl
   | 1,_=>cases hx;rfl
   | 2,_=>cases hx;rfl
   | 3,_=>cases hx;rfl
   | 4,_=>cases hx;rfl
   | 5,_=>cases hx;rfl
   | 6,_=>cases hx;rfl
   | 7,_=>cases hx;rfl
   | 8,_=>cases hx;rfl
   | 9,_=>cases hx;rfl
   | 10,_=>cases hx;rfl
   | 11,_=>cases hx;rfl
  refine .lst (some ⟨w.heap.size,0,none⟩) 12 (stepPs c) (fun i _=>fnB B (142 + i)) w.heap.size 0 1 (Nat.le_refl 12) (by show 12 ≤ _;omega) (fun _=>rfl) (fun i x hx=>by obtain ⟨_,rfl⟩:=hst i x hx;rfl) (fun i x hx j y hy=>?_) (fun i x hx j y hy=>?_)
  ·obtain ⟨hi,rfl⟩:=hst i x hx
   have hj:j=0:=by
    have:=(List.getElem?_eq_some_iff.1 hy).1
    simp [P.cells] at this
    exact this
   subst hj
   rw [hcellA,show 0 + i * 1 + 0=i by omega]
   exact hcs i hi
  ·obtain ⟨hi,rfl⟩:=hst i x hx
   have hj:j=0:=by
    have:=(List.getElem?_eq_some_iff.1 hy).1
    simp [P.cells] at this
    exact this
   subst hj
   cases hy
   exact hfn i hi
 refine ⟨E',⟨fun n k h=>by simp [getB] at h,fun n k h=>by simp [getB] at h,fun n m k l B C c d h=>by simp [getB] at h,fun n k B c h=>by simp [getB] at h,?_,?_,hm.le.trans hle,?_,?_,q4.trans hm.os,q5.trans hm.tape,q6.trans hm.output,Nat.le_trans hm.size q7,?_,?_,?_,?_⟩,hobj⟩
 ·intro b o v hv
  by_cases e1:b=B
  ·subst e1
   rw [hcellB] at hv
   rw [cell_of_blockAt ⟨tt,q1⟩];exact hv
  ·by_cases e2:b=w.heap.size
   ·subst e2
    rw [hcellA] at hv
    rw [cell_of_blockAt ⟨_,q2⟩];exact hv
   ·rw [hcell' b o e1 e2] at hv
    have h1:=hm.cell b o v hv
    rw [← h1]
    exact World.cell?_of_block (q3 b (lt_of_cell h1) e1)
 ·intro b tag ps hb i y hy
  by_cases e1:b=B
  ·subst e1
   have hb':(0,[c])=(tag,ps):=by
    have:(if b=b then some (0,[c]) else E.obj b)=some (tag,ps):=hb
    rw [if_pos rfl] at this
    exact Option.some.inj this
   cases hb'
   have hi:i < 5:=(List.getElem?_eq_some_iff.1 hy).1
   have hget:∀ (i:Nat) (x:V) (y:P),i < 4→([.p c,.p .nilf,.p .nilf,.p doP,.nils]:List V)[i]? = some (.p y)→∃ v,E'.cell b i=some v∧RepP E' v y:=by
    intro i x y h4 hx
    have hlt:i < cc.size:=by omega
    refine ⟨cc[i],?_,?_⟩
    ·rw [hcellB]
     show (cc.set! 4 sl)[i]? = _
     rw [Array.set!_eq_setIfInBounds,Array.getElem?_setIfInBounds_ne (by omega)]
     exact Array.getElem?_eq_getElem hlt
    ·exact ((hr i cc[i] _ (Array.getElem?_eq_getElem hlt) hx).inv_p).mono hle
   match i,hi with
   | 0,_=>cases hy;exact hget 0 (.p c) c (by omega) rfl
   | 1,_=>cases hy;exact hget 1 (.p .nilf) .nilf (by omega) rfl
   | 2,_=>cases hy;exact hget 2 (.p .nilf) .nilf (by omega) rfl
   | 3,_=>cases hy;exact hget 3 (.p doP) doP (by omega) rfl
   | 4,_=>
    cases hy
    refine ⟨sl,?_,hlst⟩
    rw [hcellB]
    show (cc.set! 4 sl)[4]? = _
    rw [Array.set!_eq_setIfInBounds,Array.getElem?_setIfInBounds_self,if_pos (by omega)]
  ·have hb':E.obj b=some (tag,ps):=by
    have:(if b=B then some (0,[c]) else E.obj b)=some (tag,ps):=hb
    rw [if_neg e1] at this;exact this
   obtain ⟨v,h1,h2⟩:=hm.obj b tag ps hb' i y hy
   exact ⟨v,hle.cell _ _ _ h1,h2.mono hle⟩
 ·intro b o v hv
  by_cases e1:b=B
  ·subst e1;exact .inr hlive
  ·by_cases e2:b=w.heap.size
   ·subst e2;exact .inr (.inl hm.size)
   ·rw [hcell' b o e1 e2] at hv
    exact hm.cnew b o v hv
 ·intro b x hx
  by_cases e1:b=B
  ·subst e1;exact .inr hlive
  ·have:(if b=B then some (0,[c]) else E.obj b)=some x:=hx
   rw [if_neg e1] at this
   exact hm.onew b x this
 ·intro k hk hL
  have hkB:k ≠ B:=by
   rintro rfl
   rcases hlive with h | h
   ·omega
   ·exact hL h
  rw [q3 k (Nat.lt_of_lt_of_le hk hm.size) hkB]
  exact hm.keep k hk hL
 ·intro b ks vs hb
  have h1:=hm.mp b ks vs hb
  refine h1.mono hle (q3 b h1.lt ?_)
  rintro rfl
  obtain ⟨es,clock,g1,_⟩:=h1
  rw [hh] at g1;cases g1
 ·intro b x hx
  exact hm.mnew b x hx
 ·intro n K h
  have:=hm.pin n K h
  have h8:n=8:=by simpa using this.1
  omega
theorem wanted_none {o:Oper} {y:Nat→Option Bool} (h:o.guard=none):Region.wanted o y=true:=by
 simp [Region.wanted,h]
theorem tie {base:Base} {R:Ex→St→Prop} {ops:Array Oper} {c:P} {al:List (Nat × V)} {o1 o2 o3 o4:Oper} {a:Act} {w:World}
  (h1:ops[25]? = some o1) (g1:o1.guard=none) (d1:o1.dst=some 34) (p1:o1.op = .buildSlice 138 12 #[(0,.tmp 11),(1,.tmp 13),(2,.tmp 15),(3,.tmp 17),(4,.tmp 19),(5,.tmp 21),(6,.tmp 23),(7,.tmp 25),(8,.tmp 27),(9,.tmp 29),(10,.tmp 31),(11,.tmp 33)])
  (h2:ops[26]? = some o2) (g2:o2.guard=none) (d2:o2.dst=some 35) (p2:o2.op = .nilCheck (.tmp 9))
  (h3:ops[27]? = some o3) (g3:o3.guard=none) (d3:o3.dst=some 36) (p3:o3.op = .fieldAddr 140 (.tmp 35) 2)
  (h4:ops[28]? = some o4) (g4:o4.guard=none) (d4:o4.dst=none) (p4:o4.op = .store 138 (.tmp 36) (.tmp 34))
  (l3:lookA al 3 = .ref 8 0) (l9:lookA al 9 = .ref 8 0) (lf:∀ i,i < 12→lookA al (11 + 2 * i) = .fn (.func (142 + i)) [.ref 8 0] [])
  (hcon:Con cfg base ⟨mkT 38 al,[(8,.cells [.p c,.p .nilf,.p .nilf,.p doP,.nils])],[8]⟩ a w)
  (hR:R .normal ⟨mkT 38 [(3,.p (.obj 0 [c] 0))],[],[]⟩):wpOps Tryz.prog ops (postSt cfg base fun S=>R .normal S) [25,26,27,28] a w:=by
 obtain ⟨E, μ,hm,ht⟩:=hcon
 obtain ⟨B,cap,cc,hμ,⟨tt,hh⟩,hs,hr,hE⟩:=hm.blk 8 _ rfl
 have hsize:a.tmps.size=38:=by rw [ht.2.1,mkT_len]
 have e9:=repref hμ ht 9 (by omega) l9
 have e3:=repref hμ ht 3 (by omega) l3
 have hf:∀ i:Nat,i < 12→a.eval (.tmp (11 + 2 * i))=fnB B (142 + i):=fun i hi=>rep12 hμ ht (11 + 2 * i) (142 + i) (show 11 + 2 * i < 38 by clear hr;omega) (lf i hi)
 let vs:List Value:=(List.range 12).map fun i=>fnB B (142 + i)
 have hvs:∀ v ∈ vs,v.cells.size=1:=by
  intro v hv
  simp only [vs,List.mem_map] at hv
  obtain ⟨i,_,rfl⟩:=hv
  rfl
 obtain ⟨cells,c1,c2,c3⟩:=run_build12 w vs (by simp [vs]) hvs
 have hcs:∀ i:Nat,i < 12→cells[i]? = some (fnB B (142 + i)):=by
  intro i hi
  rw [c2 i (fnB B (142 + i)) (by simp [vs,hi])]
  rfl
 have hb:(execOp a.eval o1).run Tryz.prog w = .ok (.value (.slice (some ⟨w.heap.size,0,none⟩) 12 12)) (w.alloc (.cells cells 141 (0,0))):=by
  simp only [execOp,p1]
  rw [show (#[(0,Operand.tmp 11),(1,.tmp 13),(2,.tmp 15),(3,.tmp 17),(4,.tmp 19),(5,.tmp 21),(6,.tmp 23),(7,.tmp 25),(8,.tmp 27),(9,.tmp 29),(10,.tmp 31),(11,.tmp 33)].map fun x=>(x.1,a.eval x.2))=((vs.zipIdx 0).map (fun p=>(p.2,p.1))).toArray by
   have k0:=hf 0 (by omega)
   have k1:=hf 1 (by omega)
   have k2:=hf 2 (by omega)
   have k3:=hf 3 (by omega)
   have k4:=hf 4 (by omega)
   have k5:=hf 5 (by omega)
   have k6:=hf 6 (by omega)
   have k7:=hf 7 (by omega)
   have k8:=hf 8 (by omega)
   have k9:=hf 9 (by omega)
   have k10:=hf 10 (by omega)
   have k11:=hf 11 (by omega)
   simp only [Nat.reduceMul,Nat.reduceAdd] at k0 k1 k2 k3 k4 k5 k6 k7 k8 k9 k10 k11
   simp only [List.map_toArray,List.map_cons,List.map_nil,k0,k1,k2,k3,k4,k5,k6,k7,k8,k9,k10,k11]
   rfl]
  simp only [Sem.run_map,Sem.run_bind,c3,Result.andThen_ok,Sem.run_pure]
 have hBlt:B < w.heap.size:=(Array.getElem?_eq_some_iff.1 hh).1
 let sl:Value:=.slice (some ⟨w.heap.size,0,none⟩) 12 12
 let w1:World:=w.alloc (.cells cells 141 (0,0))
 let a1:Act:=a.put (some 34) sl
 let a2:Act:=a1.put (some 35) (.pointer (some ⟨B,0,none⟩))
 let a3:Act:=a2.put (some 36) (.pointer (some ⟨B,4,none⟩))
 have sz1:a1.tmps.size=38:=by simp [a1,Act.put,hsize]
 have sz2:a2.tmps.size=38:=by simp [a2,Act.put,sz1]
 have sz3:a3.tmps.size=38:=by simp [a3,Act.put,sz2]
 have self:∀ (x:Act) (d:Nat) (v:Value),d < x.tmps.size→(x.put (some d) v).eval (.tmp d)=v:=by
  intro x d v h
  simp [Act.eval,Act.put,Array.getD,h]
 have oth:∀ (x:Act) (d t:Nat) (v:Value),t ≠ d→(x.put (some d) v).eval (.tmp t)=x.eval (.tmp t):=by
  intro x d t v h
  exact Act.eval_put fun d' hd'=>by cases hd';simpa using h
 have r9:a1.eval (.tmp 9) = .pointer (some ⟨B,0,none⟩):=(oth a 34 9 sl (by decide)).trans e9
 have r35:a2.eval (.tmp 35) = .pointer (some ⟨B,0,none⟩):=self a1 35 _ (by omega)
 have r36:a3.eval (.tmp 36) = .pointer (some ⟨B,4,none⟩):=self a2 36 _ (by omega)
 have r34:a3.eval (.tmp 34)=sl:=((oth a2 36 34 _ (by decide)).trans (oth a1 35 34 _ (by decide))).trans (self a 34 sl (by omega))
 have r3:a3.eval (.tmp 3) = .pointer (some ⟨B,0,none⟩):=(((oth a2 36 3 _ (by decide)).trans (oth a1 35 3 _ (by decide))).trans (oth a 34 3 sl (by decide))).trans e3
 have hn2:(execOp a1.eval o2).run Tryz.prog w1 = .ok (.value (.pointer (some ⟨B,0,none⟩))) w1:=by
  simp [execOp,p2,r9]
 have hn3:(execOp a2.eval o3).run Tryz.prog w1 = .ok (.value (.pointer (some ⟨B,4,none⟩))) w1:=by
  obtain ⟨fields,g1,g2⟩:=run_underlying_struct (P:=Tryz.prog) cfg_ok (cfg_ty 140 ▸ ty140) rfl w1
  obtain ⟨fd,k1,k2,k3⟩:=field_of fields g2 (k:=2) rfl
  have k4:=cfg_ok.run_sizeOf (w:=w1) (t:=138) (cfg_ty 138 ▸ ty138)
  simp [execOp,p3,r35,Instr.fieldAt,g1,k1,Instr.sureAddr,fieldPlace,k3,k4,add_plain,k2]
 have hh1:w1.heap[B]? = some (.cells cc tt (0,0)):=by
  rw [← hh]
  exact Below.heap_alloc w _ B hBlt
 have hA1:w1.heap[w.heap.size]? = some (.cells cells 141 (0,0)):=by
  show (w.heap.push _)[w.heap.size]? = _
  simp
 have hst:=run_storeCells_at Tryz.prog B 4 tt [sl] 0 cc w1 hh1 (by simp [hs]) (by intro v hv;simp at hv;subst hv;rfl)
 have hn4:(execOp a3.eval o4).run Tryz.prog w1 = .ok .skip (w1.setRow B (cc.toList.take (4 + 0) ++ [sl] ++ cc.toList.drop (4 + 0 + [sl].length)).toArray):=by
  have hsz:(sizeOf 138).run Tryz.prog w1 = .ok 1 w1:=cfg_ok.run_sizeOf (w:=w1) (t:=138) (cfg_ty 138 ▸ ty138)
  have hne:¬ (sl.cells.size ≠ 1):=by simp [sl,Value.cells]
  have hcl:sl.cells.toList=[sl]:=rfl
  simp only [execOp,p4,r36,r34,Instr.storeAt,Instr.sureAddr,storeVar,Sem.run_bind,Sem.run_pure,Result.andThen_ok,hsz,hne,if_false,hcl,hst]
 have hset:(cc.toList.take (4 + 0) ++ [sl] ++ cc.toList.drop (4 + 0 + [sl].length)).toArray=cc.set! 4 sl:=by
  apply Array.ext'
  simp only [Array.set!_eq_setIfInBounds,Array.toList_setIfInBounds]
  rw [List.set_eq_take_append_cons_drop,if_pos (by have:cc.size=5:=hs;simp [this])]
  simp
 rw [hset] at hn4
 obtain ⟨E',hm',hobj⟩:=tieMem hm hμ hh hs hr hE c1 hcs (w2:=w1.setRow B (cc.set! 4 sl)) (setRow_heap w1 B cc _ tt (0,0) hh1) ((setRow_other w1 B _ _ (by omega)).trans hA1)
  (fun j hj hne=>(setRow_other w1 B j _ hne).trans (Below.heap_alloc w _ j hj)) rfl rfl rfl (by
   have e1:(w1.setRow B (cc.set! 4 sl)).heap.size=w1.heap.size:=by
    unfold World.setRow
    simp
   rw [e1]
   show w.heap.size ≤ (w.heap.push _).size
   simp)
 simp only [wpOps,h1]
 rw [if_pos (wanted_none g1)]
 refine .inl ?_
 simp only [Oper.wp,hb,Oper.upon_value,d1,h2]
 rw [if_pos (wanted_none g2)]
 refine .inl ?_
 rw [hn2]
 simp only [Oper.upon_value,d2,h3]
 rw [if_pos (wanted_none g3)]
 refine .inl ?_
 rw [hn3]
 simp only [Oper.upon_value,d3,h4]
 rw [if_pos (wanted_none g4)]
 refine .inl ?_
 rw [hn4]
 simp only [Oper.upon_skip,d4]
 refine ⟨_,hR,E',_,hm',ht.1,by rw [mkT_len];exact sz3,fun i v x hv hx=>?_⟩
 rw [mkT_get] at hx
 split at hx
 ·rename_i hi
  simp only [Option.some.injEq,lookA] at hx
  by_cases h3:i=3
  ·subst h3
   rw [if_pos rfl] at hx
   subst hx
   have:v=a3.eval (.tmp 3):=by
    have hv':a3.tmps[3]? = some v:=hv
    simp [Act.eval,Array.getD_eq_getD_getElem?,hv']
   rw [this,r3]
   exact .p _ _ hobj
  ·rw [if_neg (by simpa using h3)] at hx
   subst hx
   exact .any v
 ·cases hx
attribute [local simp] wl0 wl1 wl2 wl3 wl4 wl5 wl6 wl7 wl8 wl9 wl10 wl11 wl12 wl13 wl14 wl15 wl16 wl17 wl18 wl19 wl20
attribute [local simp high] evalOp_fieldP
attribute [local simp] ty134 ty137 ty140 ty138 ty141 ty87
attribute [local simp] fldV_p fldV_agg aggP_agg aggP_col aggP_val aggP_expr
attribute [local simp] runK_nil runK_cons goG_true goG_false goC_none goC_some goV_some goV_none goD_some goD_none
theorem cal89 (cols:List Col):Cal 89 [.lst (Col.ps cols)] [.obj 0 [.lst (Col.ps cols)] 0]:=⟨by
 have msk:Msk 274877906930 274877906930:=⟨⟩
 refine CallP.of_bodyN 38 cfg_ok Tryz.func89 rfl rfl (by kernel_rfl) fun base=>?_;simp only [mkA,Nat.reduceAdd]
 refine wpA_ok 0 rfl fun ok0=>?_
 have st0:Stop 2:=⟨⟩
 refine walkX ?_ trivial
 all_goals first | intro h' h | intro h | skip
 refine ⟨?_⟩
 clear st0
 refine wpA_seq ?_
 refine wpA_regN cfg_ok 25 [25,26,27,28] rfl (by decide) fun K hK=>?_
 simp -implicitDefEqProofs [*]
 refine hK.out _ _ ?_;clear hK;clear K
 intro a w hcon
 refine tie rfl rfl rfl rfl rfl rfl rfl rfl rfl rfl rfl rfl rfl rfl rfl rfl rfl rfl (fun i hi=>?_) hcon ?_
 ·match i,hi with
  | 0,_=>rfl
  | 1,_=>rfl
  | 2,_=>rfl
  | 3,_=>rfl
  | 4,_=>rfl
  | 5,_=>rfl
  | 6,_=>rfl
  | 7,_=>rfl
  | 8,_=>rfl
  | 9,_=>rfl
  | 10,_=>rfl
  | 11,_=>rfl
 ·refine thenR_normal ?_
  exact walk⟩
end
section
attribute [local simp] wl0 wl1 wl2 wl3 wl4 wl5 wl6 wl7 wl8 wl9 wl10 wl11 wl12 wl13 wl14 wl15 wl16 wl17 wl18 wl19 wl20
attribute [local simp high] evalOp_fieldP
attribute [local simp] ty102 ty141
attribute [local simp] fldV_p fldV_agg aggP_agg aggP_col aggP_val aggP_expr
def outC (cols:List Col) (c:Int):Bool:=decide (c < 0) || decide (c ≥ (cols.length:Int))
section
attribute [local simp] outC
attribute [local simp] Tryz.f64 in
instance call64 (c:Int) (cols:List Col):Cal 64 [.int .i64 c,.imm [.lst (Col.ps cols)] 0] [.bool (outC cols c)]:=⟨by
 have msk:Msk 4084 4084:=⟨⟩
 refine CallP.of_bodyN 12 cfg_ok Tryz.func64 rfl rfl (by kernel_rfl) fun base=>?_;simp only [mkA,Nat.reduceAdd]
 exact walk⟩
end
def inSet (set:List Int) (e:Expr):Bool:=e.op == 1 && set.any fun a=>e.n == a
def nullC (cols:List Col) (e:Expr):Expr:=litE (cols.getD e.n.toNat zeroC).kind nullW
theorem cal110_no (e:Expr) (cols:List Col) (set:List Int) (h:inSet set e=false):Cal 110 [e.p,.imm [.lst (ips set)] 0,.imm [.lst (Col.ps cols)] 0] [e.p,.bool false]:=⟨by
 unfold inSet at h
 have msk:Msk 16744384 16777152:=⟨⟩
 refine CallP.of_bodyN 24 cfg_ok Tryz.func110 rfl rfl (by kernel_rfl) fun base=>?_;simp only [mkA,Nat.reduceAdd]
 refine wpA_ok 0 rfl fun ok0=>?_
 refine wpA_ok 1 rfl fun ok1=>?_
 refine wpA_ok 2 rfl fun ok2=>?_
 exact walk⟩
theorem cal110_yes (e:Expr) (cols:List Col) (set:List Int) (n:Nat) (hn:e.n=n) (hlt:n < cols.length) (h:inSet set e=true):Cal 110 [e.p,.imm [.lst (ips set)] 0,.imm [.lst (Col.ps cols)] 0] [(nullC cols e).p,.bool true]:=⟨by
 have hx:nullC cols e=litE cols[n].kind nullW:=by unfold nullC;rw [hn,Int.toNat_natCast];simp [List.getD_eq_getElem?_getD,hlt]
 rw [hx]
 simp only [inSet,Bool.and_eq_true] at h
 obtain ⟨h1,h2⟩:=h
 rw [hn] at h2
 clear hx
 have msk:Msk 16744384 16777152:=⟨⟩
 refine CallP.of_bodyN 24 cfg_ok Tryz.func110 rfl rfl (by kernel_rfl) fun base=>?_;simp only [mkA,Nat.reduceAdd]
 refine wpA_ok 0 rfl fun ok0=>?_
 refine wpA_ok 1 rfl fun ok1=>?_
 refine wpA_ok 2 rfl fun ok2=>?_
 exact walk⟩
theorem has_col {cols:List Col} {e:Expr} {k:Int} (h:Has cols e k) (h1:e.op=1):∃ j:Nat,e.n=j∧j < cols.length:=by
 have hn0:=nodeR_col (wf_node h.wf) (by simp [h1])
 obtain ⟨j,hj⟩:=Int.eq_ofNat_of_zero_le hn0
 refine ⟨j,hj,?_⟩
 have hok:=h.ok
 unfold okk at hok
 rw [kindE_eq] at hok
 rw [if_neg (by simp [h1]),if_pos (by simp [h1])] at hok
 split at hok
 ·cases hok
 ·rename_i hlt
  simp only [decide_eq_true_eq] at hlt
  omega
mutual
def nulledE (cols:List Col) (set:List Int):Expr→Expr
 | .mk op n m k v args rels=>if inSet set (.mk op n m k v args rels) then nullC cols (.mk op n m k v args rels) else .mk op n m k v (nulledL cols set args) rels
def nulledL (cols:List Col) (set:List Int):List Expr→List Expr
 | []=>[]
 | a :: r=>nulledE cols set a :: nulledL cols set r
end
theorem nulledL_map (cols:List Col) (set:List Int):∀ (l:List Expr),nulledL cols set l=l.map (nulledE cols set)
 | []=>rfl
 | a :: r=>by simp [nulledL,nulledL_map cols set r]
theorem nulledE_eq (cols:List Col) (set:List Int) (e:Expr):nulledE cols set e=if inSet set e then nullC cols e else .mk e.op e.n e.m e.kind e.lit (e.args.map (nulledE cols set)) e.rels:=by
 cases e
 simp only [nulledE,nulledL_map,Expr.op,Expr.n,Expr.m,Expr.kind,Expr.lit,Expr.args,Expr.rels]
attribute [local simp] mapA in
theorem s109 (e:Expr) (c1 c2:P) (g:FuncId) (q:Expr→Expr) (hrel:e.rels=[]) (h16:e.args.length ≤ 4294967290) (hf:Cal g [e.p,c1,c2] [e.p,.bool false])
  (rec109:∀ (i:Nat) (h:i < e.args.length),Cal 109 [e.args[i].p,.fn (.func g) [] [c1,c2]] [(q e.args[i]).p]):Cal 109 [e.p,.fn (.func g) [] [c1,c2]] [(Expr.mk e.op e.n e.m e.kind e.lit (e.args.map q) []).p]:=⟨by
 have hr:∀ i,i < e.args.length→roomFor (i + 1) 112=true:=fun i _=>roomFor_of (by omega) (by decide)
 have hmap:=map_mapA q e.args
 rw [hmap]
 generalize hR:mapA q [] e.args=R
 clear hmap
 have msk:Msk 549747883272 549752143112:=⟨⟩
 refine CallP.of_bodyN 39 cfg_ok Tryz.func109 rfl rfl (by kernel_rfl) fun base=>?_;simp only [mkA,Nat.reduceAdd]
 refine wpA_ok 0 rfl fun ok0=>?_
 refine wpA_ok 1 rfl fun ok1=>?_
 have fz0:FZ 10 7:=⟨⟩
 have ld0:LD (σ:=Nat × List Expr) 0 4292870784 [9,29] (fun y_=>(fun i acc=>[(21,.p (.int .i64 i)),(7,.own 30 i)]) y_.1 y_.2) (fun y_=>(fun i acc=>[(30,.arr 9 (Expr.ps acc) false)]) y_.1 y_.2) (fun y_=>(fun i acc=>InvL (i ≤ (e.args).length) (acc.length=i) (mapA q acc (e.args.drop i)=R)) y_.1 y_.2) (fun y_=>(fun i acc=>(e.args).length - i) y_.1 y_.2) ((0,[])) [30] (fun y_=>(fun i acc=>i < (e.args).length) y_.1 y_.2) (fun y_ (h:(fun i acc=>i < (e.args).length) y_.1 y_.2)=>(fun i acc (h:i < (e.args).length)=>(i + 1,acc ++ [q e.args[i]])) y_.1 y_.2 h) (fun y_ (h:(fun i acc=>i < (e.args).length) y_.1 y_.2)=>(fun i acc (h:i < (e.args).length)=>(i + 1,acc ++ [q e.args[i]])) y_.1 y_.2 h):=⟨⟩
 exact walk⟩
theorem s109_yes (e y:Expr) (c1 c2:P) (g:FuncId) (hf:Cal g [e.p,c1,c2] [y.p,.bool true]):Cal 109 [e.p,.fn (.func g) [] [c1,c2]] [y.p]:=⟨by
 have msk:Msk 549747883272 549752143112:=⟨⟩
 refine CallP.of_bodyN 39 cfg_ok Tryz.func109 rfl rfl (by kernel_rfl) fun base=>?_;simp only [mkA,Nat.reduceAdd]
 refine wpA_ok 0 rfl fun ok0=>?_
 refine wpA_ok 1 rfl fun ok1=>?_
 exact walk⟩
theorem cal109 (cols:List Col) (set:List Int):∀ (n:Nat) (e:Expr),e.size ≤ n→∀ {k:Int},Has cols e k→Cal 109 [e.p,.fn (.func 110) [] [.imm [.lst (ips set)] 0,.imm [.lst (Col.ps cols)] 0]] [(nulledE cols set e).p]
 | 0,e,hn,k,_=>by
  obtain ⟨op,n,m,kind,lit,args,rels⟩:=e
  simp [Expr.size] at hn
 | n + 1,e,hn,k,hk=>by
  rw [nulledE_eq]
  cases hi:inSet set e
  ·rw [if_neg (by simp)]
   have hrel:=nodeR_rels (wf_node hk.wf)
   have h:=s109 e _ _ 110 (nulledE cols set) hrel (by have:=wf_len hk.wf;omega) (cal110_no e cols set hi) (fun i hi=>cal109 cols set n _ (by have:=Expr.size_get hi;omega) (arg_has hk (List.getElem_mem hi)))
   rw [hrel]
   exact h
  ·rw [if_pos rfl]
   have h1:e.op=1:=by simp only [inSet,Bool.and_eq_true,beq_iff_eq] at hi;exact hi.1
   obtain ⟨j,hj,hlt⟩:=has_col hk h1
   exact s109_yes e _ _ _ 110 (cal110_yes e cols set j hj hlt hi)
theorem cal66 (cols:List Col) (set:List Int) (e:Expr) {k:Int} (hk:Has cols e k):Cal 66 [e.p,.lst (Col.ps cols),.lst (ips set)] [(nulledE cols set e).p]:=⟨by
 haveI:=cal109 cols set e.size e (Nat.le_refl _) hk
 clear hk
 have msk:Msk 896 896:=⟨⟩
 refine CallP.of_bodyN 10 cfg_ok Tryz.func66 rfl rfl (by kernel_rfl) fun base=>?_;simp only [mkA,Nat.reduceAdd]
 refine wpA_ok 0 rfl fun ok0=>?_
 refine wpA_ok 1 rfl fun ok1=>?_
 refine wpA_ok 2 rfl fun ok2=>?_
 exact walk⟩
end
section
attribute [local simp] wl0 wl1 wl2 wl3 wl4 wl5 wl6 wl7 wl8 wl9 wl10 wl11 wl12 wl13 wl14 wl15 wl16 wl17 wl18 wl19 wl20
attribute [local simp high] evalOp_fieldP
attribute [local simp] ty86
attribute [local simp] fldV_p fldV_agg aggP_agg aggP_col aggP_val aggP_expr
def tk (k:Int):Int:=w64 (1 + w64 ((IntKind.wrap .u64 (w64 (k - 1))).tmod 3))
def tcL (i:Nat) (acc:List Col):List Col→List Col
 | []=>acc
 | c :: r=>if i < 4 then tcL (i + 1) (acc ++ [⟨tk c.kind,c.null⟩]) r else acc
def tameCols (l:List Col):List Col:=if (tcL 0 [] l).length=0 then [⟨1,true⟩] else tcL 0 [] l
attribute [local simp] tk tcL in
theorem cal48 (l:List Col):Cal 48 [.lst (Col.ps l)] [.lst (Col.ps (tameCols l))]:=⟨by
 unfold tameCols
 generalize hT:tcL 0 [] l=T
 have msk:Msk 4329327030242 4398046511074:=⟨⟩
 refine CallP.of_bodyN 42 cfg_ok Tryz.func48 rfl rfl (by kernel_rfl) fun base=>?_;simp only [mkA,Nat.reduceAdd]
 refine wpA_ok 0 rfl fun ok0=>?_
 have hl:=okP_cps ok0
 have ld0:LD (σ:=Nat × List Col) 0 17179869176 [32] (fun y_=>(fun i acc=>[(4,.p (.int .i64 i)),(3,.own 33 i)]) y_.1 y_.2) (fun y_=>(fun i acc=>[(33,.arr 2 (Col.ps acc) false)]) y_.1 y_.2) (fun y_=>(fun i acc=>InvL (i ≤ l.length) (acc.length=i) (tcL i acc (l.drop i)=T)) y_.1 y_.2) (fun y_=>(fun i acc=>l.length - i) y_.1 y_.2) ((0,[])) [33] (fun y_=>(fun i acc=>i < l.length∧i < 4) y_.1 y_.2) (fun y_ (h:(fun i acc=>i < l.length∧i < 4) y_.1 y_.2)=>(fun i acc (h:i < l.length∧i < 4)=>(i + 1,acc ++ [⟨tk l[i].kind,l[i].null⟩])) y_.1 y_.2 h) (fun y_ (h:(fun i acc=>i < l.length∧i < 4) y_.1 y_.2)=>(fun i acc (h:i < l.length∧i < 4)=>(i + 1,acc ++ [⟨tk l[i].kind,l[i].null⟩])) y_.1 y_.2 h):=⟨⟩
 have st0:Stop 5:=⟨⟩
 have st1:Stop 6:=⟨⟩
 refine walkX ?_ ?_
 ·intro x0 hi0 hs0 hn0 ny0 nz0 hj0 h' h
  refine ⟨?_⟩
  clear st0 st1
  have h2:x0.1 < 4:=by omega
  have hroom:roomFor (x0.1 + 1) 16=true:=roomFor_of (by omega) (by decide)
  have hd:=hn0
  rw [List.drop_eq_getElem_cons h',tcL,if_pos h2] at hd
  exact walkX trivial trivial
 ·intro x0 hi0 hs0 hn0 ny0 nz0 hj0 h
  refine ⟨?_⟩
  clear st0 st1
  have hd:x0.2=T:=by
   rw [← hn0]
   by_cases hi:x0.1 < l.length
   ·have hk:¬ x0.1 < 4:=by
     simp only [decide_eq_true hi,Bool.true_and,decide_eq_false_iff_not] at h
     omega
    rw [List.drop_eq_getElem_cons hi,tcL,if_neg hk]
   ·rw [List.drop_eq_nil_of_le (by omega),tcL]
  rw [← hd]
  have hroom:roomFor (0 + 1) 16=true:=by decide
  clear ld0 hn0 hd ny0 nz0 hT h
  by_cases hz:x0.1=0
  ·have ha:x0.2=[]:=List.eq_nil_of_length_eq_zero (by omega)
   rw [ha,hz]
   exact walk
  ·rw [if_neg (by omega)]
   have hz':((x0.1:Int) == 0)=false:=by simp;omega
   exact walk⟩
def piece (c:UInt8):ByteArray:=(⟨#[97,98,39]⟩:ByteArray).extract ((c.toNat:Int).tmod 3).toNat ((c.toNat:Int).tmod 3 + 1).toNat
def tameTxt (s:ByteArray) (i:Nat) (acc:ByteArray):ByteArray:=
 if h:i < s.size∧i < 3 then tameTxt s (i + 1) (acc ++ piece (s[i]'h.1)) else acc
termination_by 3 - i
def tameAs (v:Val) (c:Col):Val:=
 if c.null && (v.kind == 0 || (IntKind.wrap .u64 v.int).tmod 5 == 4) then nullW
 else if c.kind == 2 then boolW (v.int.tmod 2 != 0)
 else if c.kind == 3 then textW (tameTxt v.text 0 ⟨#[]⟩)
 else if (IntKind.wrap .u64 v.int).tmod 16 == 15 then intW v.int
 else intW (w64 (w64 ((IntKind.wrap .u64 v.int).tmod 7) - 2))
theorem byte3 (c:UInt8):0 ≤ (c.toNat:Int).tmod 3∧(c.toNat:Int).tmod 3 < 3:=by
 have h1:(0:Int) ≤ (c.toNat:Int):=by omega
 have h2:=Int.tmod_lt_of_pos (c.toNat:Int) (show (0:Int) < 3 by decide)
 have h3:=Int.tmod_nonneg (3:Int) h1
 exact ⟨h3,h2⟩
theorem piece_size (c:UInt8):(piece c).size=1:=by
 obtain ⟨h1,h2⟩:=byte3 c
 unfold piece
 generalize (c.toNat:Int).tmod 3=k at h1 h2
 have h3:k=0 ∨ k=1 ∨ k=2:=by omega
 rcases h3 with rfl | rfl | rfl <;> rfl
theorem cal126_null (v:Val) (c:Col) (hc:¬ c.kind=3):Cal 126 [v.p,c.p] [(tameAs v c).p]:=⟨by
 have hc':(c.kind == 3)=false:=by simpa using hc
 unfold tameAs
 have msk:Msk 37760485116682255204224 37778931862957153320832:=⟨⟩
 refine CallP.of_bodyN 75 cfg_ok Tryz.func126 rfl rfl (by kernel_rfl) fun base=>?_;simp only [mkA,Nat.reduceAdd]
 refine wpA_ok 0 rfl fun ok0=>?_
 refine wpA_ok 1 rfl fun ok1=>?_
 exact walk⟩
attribute [local simp] piece in
theorem cal126_text (v:Val) (c:Col) (hsz:v.text.size ≤ 4294967296) (hc:c.kind=3):Cal 126 [v.p,c.p] [(tameAs v c).p]:=⟨by
 have hc':(c.kind == 3)=true:=by simpa using hc
 have hc2:(c.kind == 2)=false:=by rw [hc];rfl
 unfold tameAs
 generalize hR:tameTxt v.text 0 ⟨#[]⟩=R
 have msk:Msk 37760485116682255204224 37778931862957153320832:=⟨⟩
 refine CallP.of_bodyN 75 cfg_ok Tryz.func126 rfl rfl (by kernel_rfl) fun base=>?_;simp only [mkA,Nat.reduceAdd]
 refine wpA_ok 0 rfl fun ok0=>?_
 refine wpA_ok 1 rfl fun ok1=>?_
 have ld0:LD (σ:=Nat × ByteArray) 1 288230367561777248 [] (fun y_=>(fun i acc=>[(6,.p (.int .i64 i)),(5,.p (.str acc))]) y_.1 y_.2) (fun y_=>(fun i acc=>[]) y_.1 y_.2) (fun y_=>(fun i acc=>InvL (i ≤ v.text.size) (acc.size=i) (tameTxt v.text i acc=R)) y_.1 y_.2) (fun y_=>(fun i acc=>v.text.size - i) y_.1 y_.2) ((0,⟨#[]⟩)) [] (fun y_=>(fun i acc=>i < v.text.size∧i < 3) y_.1 y_.2) (fun y_ (h:(fun i acc=>i < v.text.size∧i < 3) y_.1 y_.2)=>(fun i acc (h:i < v.text.size∧i < 3)=>(i + 1,acc ++ piece v.text[i])) y_.1 y_.2 h) (fun y_ (h:(fun i acc=>i < v.text.size∧i < 3) y_.1 y_.2)=>(fun i acc (h:i < v.text.size∧i < 3)=>(i + 1,acc ++ piece v.text[i])) y_.1 y_.2 h):=⟨⟩
 have st0:Stop 11:=⟨⟩
 have st1:Stop 12:=⟨⟩
 repeat' (first
  | (refine wpA_stopS st0 ?_)
  | (refine wpA_stopR st0 ?_)
  | (refine wpA_stopS st1 ?_)
  | (refine wpA_stopR st1 ?_)
  | (refine wpA_seqD cfg_ok mix msk (by decide +kernel) fun K hK=>?_)
  | (refine wpA_seq ?_)
  | (refine wpA_block ?_)
  | (refine thenR_normal ?_)
  | (refine thenR_ret ?_)
  | (refine thenR_exit ?_)
  | (refine blockR_normal ?_)
  | (refine blockR_ret ?_)
  | (refine blockR_same ?_)
  | (refine blockR_other rfl ?_)
  | (refine wpA_skip ?_)
  | (refine wpA_ret ?_)
  | (refine wpA_exit ?_)
  | (refine wpA_regD cfg_ok mix msk (by decide +kernel) fun K hK=>?_)
  | (refine hK.out _ _ _ _ _ (by first | (intro h;cases h;done) | (intro _;kernel_rfl)) ?_;clear hK;clear K;try simp only [dropA,Nat.reducePow,Nat.reduceDiv,Nat.reduceMod, ↓reduceIte,Nat.reduceOr,Nat.zero_ne_one])
  | (refine wpA_condD msk (by first | (simp -implicitDefEqProofs [*];done) | (simp -implicitDefEqProofs [*];rfl)) ?_;try simp only [dropA,Nat.reducePow,Nat.reduceDiv,Nat.reduceMod, ↓reduceIte,Nat.reduceOr,Nat.zero_ne_one])
  | (refine bodyR_ret (by first | (simp -implicitDefEqProofs [*];done) | (simp -implicitDefEqProofs [*];rfl)) ?_)
  | (refine bodyR_normal (by first | (simp -implicitDefEqProofs [*];done) | (simp -implicitDefEqProofs [*];rfl)) ?_)
  | (refine runM_id ?_;simp -implicitDefEqProofs)
  | (refine mV_id ?_;simp -implicitDefEqProofs [*])
  | (refine mG_id ?_;simp -implicitDefEqProofs [*])
  | (refine mD_id ?_;simp -implicitDefEqProofs [*])
  | (refine mQ_intro Cal.out ?_)
  | (refine mR_intro (fun _=>Cal.out) ?_)
  | (refine mR_no ?_)
  | (refine mQ_id ?_;simp -implicitDefEqProofs [*])
  | (refine mR_id ?_;simp -implicitDefEqProofs [*])
  | (refine goB_true ?_)
  | (refine goB_false ?_)
  | (refine headLD ld0 leS (by first | exact ⟨by first | exact Nat.zero_le _ | omega,by first | trivial | (simp -implicitDefEqProofs [*];done),by first | rfl | (simp -implicitDefEqProofs [*];done)⟩ | (simp -implicitDefEqProofs [*];done)) ?_;rintro x0 ⟨hi0,hs0,hn0⟩ ny0 nz0;(try simp only [headM,List.nil_append,List.cons_append,dropA,Nat.reducePow,Nat.reduceDiv,Nat.reduceMod, ↓reduceIte,Nat.reduceOr,Nat.zero_ne_one]);have hj0:x0.1 ≤ 4294967296:=by omega)
  | (refine headLD ld0 leS (by first | exact ⟨by first | exact Nat.zero_le _ | omega,by first | trivial | (simp -implicitDefEqProofs [*];done),by first | rfl | (simp -implicitDefEqProofs [*];done)⟩ | (simp -implicitDefEqProofs [*];done)) ?_;rintro x0 ⟨hi0,hs0,hn0⟩ ny0 nz0;(try simp only [headM,List.nil_append,List.cons_append,dropA,Nat.reducePow,Nat.reduceDiv,Nat.reduceMod, ↓reduceIte,Nat.reduceOr,Nat.zero_ne_one]);have hj0:x0 ≤ 4294967296:=by omega)
  | (refine goB_intro (fun h=>?_) (fun h=>?_) <;> (try simp only [Bool.not_eq_true',Bool.not_eq_false',Bool.not_eq_true,Bool.not_eq_false,Bool.and_eq_true,Bool.or_eq_false_iff,and_assoc,decide_eq_true_eq,decide_eq_false_iff_not,Nat.not_lt,Nat.not_le,Int.ofNat_lt,Int.ofNat_le,Int.not_lt,Int.not_le] at h) <;> (try have g:=ne_of_beqI h) <;> (repeat (have h':=And.left h;replace h:=And.right h)) <;> (try (have hz0:=Eq.symm hn0;rw [List.drop_eq_nil_of_le h] at hz0;simp -implicitDefEqProofs at hz0)) <;> (try (have hz1:=Eq.symm hn1;rw [List.drop_eq_nil_of_le h] at hz1;simp -implicitDefEqProofs at hz1)) <;> (try (have hz3:=Eq.symm hn3;rw [List.drop_eq_nil_of_le h] at hz3;simp -implicitDefEqProofs at hz3)) <;> (try (have hz0:=Eq.symm hn0;rw [hst0.out] at hz0;rw [dif_neg (by first | exact Nat.not_lt.mpr h | omega)] at hz0)) <;> (try (have hz1:=Eq.symm hn1;rw [hst1.out] at hz1;rw [dif_neg (by first | exact Nat.not_lt.mpr h | omega)] at hz1)) <;> (try (have hz2:=Eq.symm hn2;rw [hst2.out] at hz2;rw [dif_neg (by first | exact Nat.not_lt.mpr h | omega)] at hz2)) <;> (try (have hz3:=Eq.symm hn3;rw [hst3.out] at hz3;rw [dif_neg (by first | exact Nat.not_lt.mpr h | omega)] at hz3))))
 all_goals try (first
  | rfl
  | (refine again_nx ny0 (by first | assumption | omega | (dsimp only;omega)) (by first | omega | (dsimp only;omega)) ?_ leS;dsimp only;(first | rw [List.drop_eq_getElem_cons (by assumption)] at hn0 | rw [hst0.out] at hn0);refine ⟨by omega,by first | trivial | omega | (simp -implicitDefEqProofs [*];done) | (simp -implicitDefEqProofs;omega),?_⟩;first | (simpa -implicitDefEqProofs [*] using hn0) | (rw [← hn0];clear hn0;simp -implicitDefEqProofs [*];done))
  | (refine again_nx nz0 (by first | assumption | omega | (dsimp only;omega)) (by first | omega | (dsimp only;omega)) ?_ leS;dsimp only;(first | rw [List.drop_eq_getElem_cons (by assumption)] at hn0 | rw [hst0.out] at hn0);refine ⟨by omega,by first | trivial | omega | (simp -implicitDefEqProofs [*];done) | (simp -implicitDefEqProofs;omega),?_⟩;first | (simpa -implicitDefEqProofs [*] using hn0) | (rw [← hn0];clear hn0;simp -implicitDefEqProofs [*];done))
  | (simp -implicitDefEqProofs [*];done)
  | ((first | rw [List.drop_eq_getElem_cons (by assumption)] at hn0 | rw [List.drop_eq_nil_of_le (by assumption)] at hn0 | rw [hst0.out] at hn0);rw [← hn0];first | rfl | (simp -implicitDefEqProofs [*];done))
  | ((first | rw [List.drop_eq_getElem_cons (by assumption)] at hn0 | rw [List.drop_eq_nil_of_le (by assumption)] at hn0 | rw [hst0.out] at hn0);(try simp -implicitDefEqProofs [*] at hn0);(try simp -implicitDefEqProofs);grind)
  | (rcases Nx.em ny0 with hq | hq <;> (try simp only [Nat.not_lt] at hq) <;> (first | (rw [List.drop_eq_getElem_cons hq] at hn0;rw [← hn0];(try simp [hq] at h);first | (simp -implicitDefEqProofs [*];done) | (simp -implicitDefEqProofs;grind) | grind) | (rw [List.drop_eq_nil_of_le hq] at hn0;rw [← hn0];first | rfl | (simp -implicitDefEqProofs [*];done) | (simp -implicitDefEqProofs;grind) | grind) | (rw [hst0.out] at hn0;rw [← hn0];(try simp [hq] at h);first | rfl | (simp -implicitDefEqProofs [*];done) | (simp -implicitDefEqProofs [*];grind) | grind)))
  | (simp -implicitDefEqProofs [*];grind) | grind | (simp_all -implicitDefEqProofs;done))
 ·refine ⟨?_⟩
  clear st0 st1
  have h2:x0.1 < 3:=by omega
  have hd:=hn0
  rw [tameTxt,dif_pos ⟨h',h2⟩] at hd
  obtain ⟨b1,b2⟩:=byte3 v.text[x0.1]
  have b3:IntKind.wrap .u8 (((v.text[x0.1]).toNat:Int).tmod 3 + 1)=((v.text[x0.1]).toNat:Int).tmod 3 + 1:=by simp [IntKind.wrap,IntKind.bits,IntKind.signed];omega
  have b4:(((v.text[x0.1]).toNat:Int).tmod 3).toNat ≤ (((v.text[x0.1]).toNat:Int).tmod 3 + 1).toNat:=by omega
  have b5:(((v.text[x0.1]).toNat:Int).tmod 3 + 1).toNat ≤ 3:=by omega
  have b6:0 ≤ ((v.text[x0.1]).toNat:Int).tmod 3 + 1:=by omega
  have b7:=piece_size v.text[x0.1]
  have b8:((v.text[x0.1]).toNat:Int).tmod 3 + 1 ≤ (({ data:=#[97,98,39] }:ByteArray).size:Int):=by show _ ≤ (3:Int);omega
  unfold piece at b7 hd
  have b9:x0.1 + 1 ≤ 4294967296:=by omega
  refine walkX ?_ trivial
  all_goals first | intro h' h | intro h | skip
  refine again_nx ny0 ⟨h',h2⟩ (by dsimp only;omega) ⟨by dsimp only;omega,?_,hd⟩ leS
  show (x0.2 ++ piece v.text[x0.1]).size=x0.1 + 1
  rw [ByteArray.size_append,hs0,piece_size]
 ·refine ⟨?_⟩
  clear st0 st1
  have hd:x0.2=R:=by
   rw [← hn0,tameTxt,dif_neg]
   rintro ⟨hi,hk⟩
   simp only [decide_eq_true hi,Bool.true_and,decide_eq_false_iff_not] at h
   omega
  rw [← hd]
  clear ld0 hn0 hd ny0 nz0 h hR
  exact walk⟩
theorem cal126 (v:Val) (c:Col) (hsz:v.text.size ≤ 4294967296):Cal 126 [v.p,c.p] [(tameAs v c).p]:=by
 by_cases h:c.kind=3
 ·exact cal126_text v c hsz h
 ·exact cal126_null v c h
end
section
attribute [local simp] wl0 wl1 wl2 wl3 wl4 wl5 wl6 wl7 wl8 wl9 wl10 wl11 wl12 wl13 wl14 wl15 wl16 wl17 wl18 wl19 wl20
attribute [local simp high] evalOp_fieldP
attribute [local simp] ty172
attribute [local simp] fldV_p fldV_agg aggP_agg aggP_col aggP_val aggP_expr
def tipL (k:Int) (i:Nat) (acc:List Expr):List Col→List Expr
 | []=>acc
 | c :: r=>if c.kind == k then tipL k (i + 1) (acc ++ [colE i,colE i]) r else tipL k (i + 1) acc r
def tipV (v:Val) (k:Int):Expr:=if (tameAs v ⟨k,true⟩).kind == 0 then litE k nullW else litE (tameAs v ⟨k,true⟩).kind (tameAs v ⟨k,true⟩)
def tipE (raw:Expr) (cols:List Col) (k:Int):Expr:=
 if h:(posI raw.n ((tipL k 0 [] cols).length + 1)).toNat < (tipL k 0 [] cols).length then (tipL k 0 [] cols)[(posI raw.n ((tipL k 0 [] cols).length + 1)).toNat] else tipV raw.lit k
attribute [local simp] tipL in
theorem cal179 (raw:Expr) (cols:List Col) (k:Int) (hc:cols.length ≤ 1000000) (hs:raw.lit.text.size ≤ 4294967296):Cal 179 [raw.p,.lst (Col.ps cols),.lst [],.int .i64 k] [(tipE raw cols k).p]:=⟨by
 haveI c126:=cal126 raw.lit ⟨k,true⟩ hs
 unfold tipE
 generalize hT:tipL k 0 [] cols=T
 have hl0:([]:List Expr).length ≤ 4294967296:=by decide
 have hpair:∀ i:Nat,[(colE i).p,(colE i).p]=Expr.ps [colE i,colE i]:=fun i=>rfl
 have msk:Msk 82411486700938421689075772798540841184 85070591730234615865843651857941922016:=⟨⟩
 refine CallP.of_bodyN 126 cfg_ok Tryz.func179 rfl rfl (by kernel_rfl) fun base=>?_;simp only [mkA,Nat.reduceAdd]
 refine wpA_ok 0 rfl fun ok0=>?_
 refine wpA_ok 1 rfl fun ok1=>?_
 refine wpA_ok 2 rfl fun ok2=>?_
 refine wpA_ok 3 rfl fun ok3=>?_
 have ld0:LD (σ:=Nat × List Expr) 0 137438823936 [35] (fun y_=>(fun i acc=>[(10,.p (.int .i64 i)),(9,.own 36 acc.length)]) y_.1 y_.2) (fun y_=>(fun i acc=>[(36,.arr 9 (Expr.ps acc) false)]) y_.1 y_.2) (fun y_=>(fun i acc=>InvL (i ≤ (cols).length) (acc.length ≤ 2 * i) (tipL k i acc (cols.drop i)=T)) y_.1 y_.2) (fun y_=>(fun i acc=>(cols).length - i) y_.1 y_.2) ((0,[])) [36] (fun y_=>(fun i acc=>i < (cols).length) y_.1 y_.2) (fun y_ (h:(fun i acc=>i < (cols).length) y_.1 y_.2)=>(fun i acc (h:i < (cols).length)=>(i + 1,acc ++ [colE i,colE i])) y_.1 y_.2 h) (fun y_ (h:(fun i acc=>i < (cols).length) y_.1 y_.2)=>(fun i acc (h:i < (cols).length)=>(i + 1,acc)) y_.1 y_.2 h):=⟨⟩
 have st0:Stop 6:=⟨⟩
 have st1:Stop 7:=⟨⟩
 refine walkX ?_ ?_
 ·intro x0 hi0 hs0 hn0 ny0 nz0 hj0
  first | intro h' h | intro h | skip
  refine ⟨?_⟩
  clear st0 st1 c126
  have hroom:roomFor (x0.2.length + 2) 112=true:=roomFor_of (by omega) (by decide)
  exact walkX trivial trivial
 ·intro x0 hi0 hs0 hn0 ny0 nz0 hj0
  first | intro h' h | intro h | skip
  refine ⟨?_⟩
  clear st0 st1
  obtain ⟨i0,acc⟩:=x0
  dsimp only at *
  have hT':acc=T:=by
   rw [List.drop_eq_nil_of_le (by assumption),tipL] at hn0
   exact hn0
  subst hT'
  haveI c15:=cal15 raw.n ((acc.length:Int) + 1) (by omega) (by omega)
  have hw:IntKind.wrap .i64 ((acc.length:Int) + 1)=(acc.length:Int) + 1:=wrap_i64 (by omega) (by omega)
  obtain ⟨q,hq⟩:=Int.eq_ofNat_of_zero_le (posI_nonneg raw.n ((acc.length:Int) + 1))
  rw [hq] at c15 ⊢
  rw [Int.toNat_natCast]
  (try clear hz0)
  clear hT hn0 ld0 hq hi0 hj0 hs0 ny0 nz0
  unfold tipV
  have ld1:LD (σ:=Nat) 2 1267650600228229401359264283136 [98] (fun y_=>(fun i=>[(11,.p (.int .i64 i)),(9,.own 36 acc.length)]) y_) (fun y_=>(fun i=>[]) y_) (fun y_=>(fun i=>InvL (i ≤ (([]:List Expr)).length) (True) ((0:Nat)=0)) y_) (fun y_=>(fun i=>(([]:List Expr)).length - i) y_) (0) [] (fun y_=>(fun i=>i < (([]:List Expr)).length) y_) (fun y_ (h:(fun i=>i < (([]:List Expr)).length) y_)=>(fun i (h:i < (([]:List Expr)).length)=>i + 1) y_ h) (fun y_ (h:(fun i=>i < (([]:List Expr)).length) y_)=>(fun i (h:i < (([]:List Expr)).length)=>i + 1) y_ h):=⟨⟩
  by_cases hlt:q < acc.length
  ·rw [dif_pos hlt]
   clear c126
   exact walkX trivial trivial
  ·rw [dif_neg hlt]
   exact walk⟩
end
section
attribute [local simp] wl0 wl1 wl2 wl3 wl4 wl5 wl6 wl7 wl8 wl9 wl10 wl11 wl12 wl13 wl14 wl15 wl16 wl17 wl18 wl19 wl20
attribute [local simp high] evalOp_fieldP
attribute [local simp] ty211 ty172
attribute [local simp] fldV_p fldV_agg aggP_agg aggP_col aggP_val aggP_expr
def grN (raw:Expr) (op:Int):Int:=
 if op == 9 || op == 21 || op == 23 || op == 11 || op == 22 then 1 else if op == 19 || op == 20 || op == 25 then w64 (2 + posI raw.n 2) else if op == 24 then w64 (3 + w64 (2 * posI raw.n 2)) else 2
def grK (raw:Expr) (op k:Int):Int:=
 if op == 11 then 3 else if op == 22 || op == 12 || op == 13 || op == 14 || op == 15 || op == 16 || op == 17 || op == 18 then w64 (1 + posI raw.m 3) else k
def argN (raw:Expr) (i:Nat):Expr:=
 let x:=raw.args.getD (i % raw.args.length) zeroE
 .mk x.op (w64 (posI x.n 1000 + w64 ((i / raw.args.length:Nat):Int))) x.m x.kind x.lit x.args x.rels
def kindAt (op n of:Int) (i:Nat):Int:=if (op == 24 && (i:Int).tmod 2 == 0) && decide (w64 ((i:Int) + 1) < n) then 2 else of
def growE (f:Expr→Int→Expr) (raw:Expr) (op k:Int):Expr:=
 opE op ((List.range (grN raw op).toNat).map fun i=>f (argN raw i) (kindAt op (grN raw op) (grK raw op k) i))
theorem grN_bound (raw:Expr) (op:Int):0 ≤ grN raw op∧grN raw op ≤ 5:=by
 have h1:=posI_nonneg raw.n 2
 have h2:=posI_lt raw.n 2 (by decide)
 unfold grN
 have e1:w64 (2 + posI raw.n 2)=2 + posI raw.n 2:=wrap_i64 (by omega) (by omega)
 have e2:w64 (2 * posI raw.n 2)=2 * posI raw.n 2:=wrap_i64 (by omega) (by omega)
 have e3:w64 (3 + 2 * posI raw.n 2)=3 + 2 * posI raw.n 2:=wrap_i64 (by omega) (by omega)
 rw [e1,e2,e3]
 split
 ·omega
 split
 ·omega
 split
 ·omega
 ·omega
def growL (g:Nat→Expr) (n:Nat) (i:Nat) (acc:List Expr):List Expr:=if h:i < n then growL g n (i + 1) (acc ++ [g i]) else acc
termination_by n - i
theorem growL_eq (g:Nat→Expr) (n:Nat) (x:Nat × List Expr):growL g n x.1 x.2=if h:x.1 < n then growL g n (x.1 + 1) (x.2 ++ [g x.1]) else x.2:=by rw [growL]
theorem growL_map (g:Nat→Expr) (n:Nat):∀ (k i:Nat) (acc:List Expr),n - i=k→i ≤ n→acc=(List.range i).map g→growL g n i acc=(List.range n).map g
 | 0,i,acc,h,hi,ha=>by
  have:i=n:=by omega
  subst this
  rw [growL,dif_neg (by omega)];exact ha
 | k + 1,i,acc,h,hi,ha=>by
  rw [growL,dif_pos (by omega)]
  exact growL_map g n k (i + 1) _ (by omega) (by omega) (by rw [ha,List.range_succ,List.map_append];rfl)
attribute [local simp] grN grK in
attribute [local simp] opE nullW in
theorem s180 (raw:Expr) (op k d:Int) (cols:List Col) (f:Expr→Int→Expr) (hne:¬ raw.args=[]) (hw:IntKind.wrap .i64 (d - 1)=d - 1)
  (rec128:∀ (j:Nat) (h:j < raw.args.length) (q k':Int),Cal 128 [(Expr.mk raw.args[j].op q raw.args[j].m raw.args[j].kind raw.args[j].lit raw.args[j].args raw.args[j].rels).p,.lst (Col.ps cols),.lst [],.int .i64 k',.int .i64 (d - 1)] [(f (Expr.mk raw.args[j].op q raw.args[j].m raw.args[j].kind raw.args[j].lit raw.args[j].args raw.args[j].rels) k').p]) :
  Cal 180 [raw.p,.int .i64 op,.lst (Col.ps cols),.lst [],.int .i64 k,.int .i64 d] [(growE f raw op k).p]:=⟨by
 have msk:Msk 10384593715860710981659897385979776 10384593717069655257025799692750720:=⟨⟩
 refine CallP.of_bodyN 113 cfg_ok Tryz.func180 rfl rfl (by kernel_rfl) fun base=>?_;simp only [mkA,Nat.reduceAdd]
 refine wpA_ok 0 rfl fun ok0=>?_
 refine wpA_ok 1 rfl fun ok1=>?_
 refine wpA_ok 2 rfl fun ok2=>?_
 refine wpA_ok 3 rfl fun ok3=>?_
 refine wpA_ok 4 rfl fun ok4=>?_
 refine wpA_ok 5 rfl fun ok5=>?_
 have st0:Stop 2:=⟨⟩
 refine walkX ?_ trivial
 all_goals first | intro h' h | intro h | skip
 refine ⟨?_⟩
 clear st0
 refine wpA_joinR ⟨mkT 113 [(13,.p (.int .i64 (grN raw op))),(14,.p (.int .i64 (grK raw op k))),(12,.ref 12 0),(6,.ref 6 0),(0,.p raw.p),(1,.p (.int .i64 op)),(2,.p (.lst (Col.ps cols))),(3,.p (.lst [])),(4,.p (.int .i64 k)),(5,.p (.int .i64 d))],[(6,.cells [.p (.int .i64 raw.op),.p (.int .i64 raw.n),.p (.int .i64 raw.m),.p (.int .i64 raw.kind),.p (.int .i64 raw.lit.kind),.p (.int .i64 raw.lit.int),.p (.str raw.lit.text),.p (.lst (Expr.ps raw.args)),.p (.lst (Rel.ps raw.rels))]),(12,.cells [.p (.int .i64 0),.p (.int .i64 0),.p (.int .i64 0),.p (.int .i64 0),.p (.int .i64 0),.p (.int .i64 0),.p (.str ⟨#[]⟩),.nils,.nils])],[12,6]⟩ ?_ ?_
 ·clear rec128
  repeat' (first
   | (refine wpA_seqD cfg_ok mix msk (by decide +kernel) fun K hK=>?_)
   | (refine wpA_seq ?_)
   | (refine wpA_block ?_)
   | (refine thenR_normal ?_)
   | (refine thenR_ret ?_)
   | (refine thenR_exit ?_)
   | (refine blockR_normal ?_)
   | (refine blockR_ret ?_)
   | (refine blockR_same ?_)
   | (refine blockR_other rfl ?_)
   | (refine wpA_skip ?_)
   | (refine wpA_ret ?_)
   | (refine wpA_exit ?_)
   | (refine wpA_regD cfg_ok mix msk (by decide +kernel) fun K hK=>?_)
   | (refine hK.out _ _ _ _ _ (by first | (intro h;cases h;done) | (intro _;kernel_rfl)) ?_;clear hK;clear K;try simp only [dropA,Nat.reducePow,Nat.reduceDiv,Nat.reduceMod, ↓reduceIte,Nat.reduceOr,Nat.zero_ne_one])
   | (refine wpA_condD msk (by first | (simp -implicitDefEqProofs [*];done) | (simp -implicitDefEqProofs [*];rfl)) ?_;try simp only [dropA,Nat.reducePow,Nat.reduceDiv,Nat.reduceMod, ↓reduceIte,Nat.reduceOr,Nat.zero_ne_one])
   | (refine bodyR_ret (by first | (simp -implicitDefEqProofs [*];done) | (simp -implicitDefEqProofs [*];rfl)) ?_)
   | (refine bodyR_normal (by first | (simp -implicitDefEqProofs [*];done) | (simp -implicitDefEqProofs [*];rfl)) ?_)
   | (refine runM_id ?_;simp -implicitDefEqProofs)
   | (refine mV_id ?_;simp -implicitDefEqProofs [*])
   | (refine mG_id ?_;simp -implicitDefEqProofs [*])
   | (refine mD_id ?_;simp -implicitDefEqProofs [*])
   | (refine mQ_intro Cal.out ?_)
   | (refine mR_intro (fun _=>Cal.out) ?_)
   | (refine mR_no ?_)
   | (refine mQ_id ?_;simp -implicitDefEqProofs [*])
   | (refine mR_id ?_;simp -implicitDefEqProofs [*])
   | (refine goB_true ?_)
   | (refine goB_false ?_)
   | (refine goB_intro (fun h=>?_) (fun h=>?_) <;> (try simp only [Bool.not_eq_true',Bool.not_eq_false',Bool.not_eq_true,Bool.not_eq_false,Bool.and_eq_true,Bool.or_eq_false_iff,and_assoc,decide_eq_true_eq,decide_eq_false_iff_not,Nat.not_lt,Nat.not_le,Int.ofNat_lt,Int.ofNat_le,Int.not_lt,Int.not_le] at h) <;> (try have g:=ne_of_beqI h) <;> (repeat (have h':=And.left h;replace h:=And.right h)) <;> (try (have hz0:=Eq.symm hn0;rw [List.drop_eq_nil_of_le h] at hz0;simp -implicitDefEqProofs at hz0)) <;> (try (have hz1:=Eq.symm hn1;rw [List.drop_eq_nil_of_le h] at hz1;simp -implicitDefEqProofs at hz1)) <;> (try (have hz3:=Eq.symm hn3;rw [List.drop_eq_nil_of_le h] at hz3;simp -implicitDefEqProofs at hz3)) <;> (try (have hz0:=Eq.symm hn0;rw [hst0.out] at hz0;rw [dif_neg (by first | exact Nat.not_lt.mpr h | omega)] at hz0)) <;> (try (have hz1:=Eq.symm hn1;rw [hst1.out] at hz1;rw [dif_neg (by first | exact Nat.not_lt.mpr h | omega)] at hz1)) <;> (try (have hz2:=Eq.symm hn2;rw [hst2.out] at hz2;rw [dif_neg (by first | exact Nat.not_lt.mpr h | omega)] at hz2)) <;> (try (have hz3:=Eq.symm hn3;rw [hst3.out] at hz3;rw [dif_neg (by first | exact Nat.not_lt.mpr h | omega)] at hz3))))
  all_goals try (first
   | rfl
   | (simp -implicitDefEqProofs [*];done)
   | (simp -implicitDefEqProofs [*];grind) | grind | (simp_all -implicitDefEqProofs;done))
  all_goals (try (have e:=eq_of_beq h;subst e))
  all_goals exact leJ_intro leS
 ·have hpos:0 < raw.args.length:=List.length_pos_iff.2 hne
  have hmod:∀ i:Nat,(i:Int).tmod (raw.args.length:Int)=((i % raw.args.length:Nat):Int):=fun i=>(Int.ofNat_tmod i raw.args.length).symm
  have hdiv:∀ i:Nat,(i:Int).tdiv (raw.args.length:Int)=((i / raw.args.length:Nat):Int):=fun i=>(Int.ofNat_tdiv i raw.args.length).symm
  have hlt:∀ i:Nat,i % raw.args.length < raw.args.length:=fun i=>Nat.mod_lt _ hpos
  have hget:∀ i:Nat,raw.args.getD (i % raw.args.length) zeroE=raw.args[i % raw.args.length]'(hlt i):=fun i=>getD_E _ _ (hlt i)
  obtain ⟨nn,hnn⟩:=Int.eq_ofNat_of_zero_le (grN_bound raw op).1
  have hnn5:=(grN_bound raw op).2
  rw [hnn] at hnn5
  have hroom:∀ i:Nat,i < nn→roomFor (i + 1) 112=true:=fun i hi=>roomFor_of (by omega) (by decide)
  unfold growE
  rw [hnn]
  generalize grK raw op k=kk
  rw [Int.toNat_natCast,← growL_map (fun i=>f (argN raw i) (kindAt op nn kk i)) nn nn 0 [] rfl (by omega) rfl]
  generalize hg:(fun i=>f (argN raw i) (kindAt op nn kk i))=g
  generalize hR:growL g nn 0 []=R
  have hst0:Hid (∀ x:Nat × List Expr,_):=⟨growL_eq g nn⟩
  have key:∀ (i:Nat) (k':Int),kindAt op nn kk i=k'→∃ j q:Nat,∃ hj:j < raw.args.length,(i:Int).tmod (raw.args.length:Int)=(j:Int)∧(i:Int) / (raw.args.length:Int)=(q:Int)∧f (Expr.mk raw.args[j].op (IntKind.wrap .i64 (posI raw.args[j].n 1000 + IntKind.wrap .i64 (q:Int))) raw.args[j].m raw.args[j].kind raw.args[j].lit raw.args[j].args raw.args[j].rels) k'=g i:=by
   intro i k' hk
   refine ⟨i % raw.args.length,i / raw.args.length,hlt i,hmod i,(Int.natCast_ediv i raw.args.length).symm,?_⟩
   rw [← hg,← hk]
   show _=f (argN raw i) _
   unfold argN
   rw [hget]
  have keyH:Hid _:=⟨key⟩
  have hkat:∀ i:Nat,kindAt op nn kk i=if (op == 24 && (i:Int).tmod 2 == 0) && decide (w64 ((i:Int) + 1) < nn) then 2 else kk:=fun i=>rfl
  have hkH:Hid _:=⟨hkat⟩
  clear hnn key hg hmod hdiv hlt hget hkat
  have ld0:LD (σ:=Nat × List Expr) 1 5192296858534823016844477902290944 [18,109] (fun y_=>(fun i acc=>[(16,.p (.int .i64 i)),(15,.ref 15 0)]) y_.1 y_.2) (fun y_=>(fun i acc=>[(15,.cells [.p (.int .i64 op),.p (.int .i64 0),.p (.int .i64 0),.p (.int .i64 0),.p (.int .i64 0),.p (.int .i64 0),.p (.str ⟨#[]⟩),.own 110 i,.nils]),(110,.arr 9 (Expr.ps acc) false)]) y_.1 y_.2) (fun y_=>(fun i acc=>InvL (i ≤ nn) (acc.length=i) (growL g nn i acc=R)) y_.1 y_.2) (fun y_=>(fun i acc=>nn - i) y_.1 y_.2) ((0,[])) [110] (fun y_=>(fun i acc=>i < nn) y_.1 y_.2) (fun y_ (h:(fun i acc=>i < nn) y_.1 y_.2)=>(fun i acc (h:i < nn)=>(i + 1,acc ++ [g i])) y_.1 y_.2 h) (fun y_ (h:(fun i acc=>i < nn) y_.1 y_.2)=>(fun i acc (h:i < nn)=>(i + 1,acc ++ [g i])) y_.1 y_.2 h):=⟨⟩
  have st0:Stop 32:=⟨⟩
  repeat' (first
   | (refine wpA_stopS st0 ?_)
   | (refine wpA_stopR st0 ?_)
   | (refine wpA_seqD cfg_ok mix msk (by decide +kernel) fun K hK=>?_)
   | (refine wpA_seq ?_)
   | (refine wpA_block ?_)
   | (refine thenR_normal ?_)
   | (refine thenR_ret ?_)
   | (refine thenR_exit ?_)
   | (refine blockR_normal ?_)
   | (refine blockR_ret ?_)
   | (refine blockR_same ?_)
   | (refine blockR_other rfl ?_)
   | (refine wpA_skip ?_)
   | (refine wpA_ret ?_)
   | (refine wpA_exit ?_)
   | (refine wpA_regD cfg_ok mix msk (by decide +kernel) fun K hK=>?_)
   | (refine hK.out _ _ _ _ _ (by first | (intro h;cases h;done) | (intro _;kernel_rfl)) ?_;clear hK;clear K;try simp only [dropA,Nat.reducePow,Nat.reduceDiv,Nat.reduceMod, ↓reduceIte,Nat.reduceOr,Nat.zero_ne_one])
   | (refine wpA_condD msk (by first | (simp -implicitDefEqProofs [*];done) | (simp -implicitDefEqProofs [*];rfl)) ?_;try simp only [dropA,Nat.reducePow,Nat.reduceDiv,Nat.reduceMod, ↓reduceIte,Nat.reduceOr,Nat.zero_ne_one])
   | (refine bodyR_ret (by first | (simp -implicitDefEqProofs [*];done) | (simp -implicitDefEqProofs [*];rfl)) ?_)
   | (refine bodyR_normal (by first | (simp -implicitDefEqProofs [*];done) | (simp -implicitDefEqProofs [*];rfl)) ?_)
   | (refine runM_id ?_;simp -implicitDefEqProofs)
   | (refine mV_id ?_;simp -implicitDefEqProofs [*])
   | (refine mG_id ?_;simp -implicitDefEqProofs [*])
   | (refine mD_id ?_;simp -implicitDefEqProofs [*])
   | (refine mQ_intro Cal.out ?_)
   | (refine mR_intro (fun _=>Cal.out) ?_)
   | (refine mR_no ?_)
   | (refine mQ_id ?_;simp -implicitDefEqProofs [*])
   | (refine mR_id ?_;simp -implicitDefEqProofs [*])
   | (refine goB_true ?_)
   | (refine goB_false ?_)
   | (refine headLD ld0 leS (by first | exact ⟨by first | exact Nat.zero_le _ | omega,by first | trivial | (simp -implicitDefEqProofs [*];done),by first | rfl | (simp -implicitDefEqProofs [*];done)⟩ | (simp -implicitDefEqProofs [*];done)) ?_;rintro x0 ⟨hi0,hs0,hn0⟩ ny0 nz0;(try simp only [headM,List.nil_append,List.cons_append,dropA,Nat.reducePow,Nat.reduceDiv,Nat.reduceMod, ↓reduceIte,Nat.reduceOr,Nat.zero_ne_one]);have hj0:x0.1 ≤ 4294967296:=by omega)
   | (refine headLD ld0 leS (by first | exact ⟨by first | exact Nat.zero_le _ | omega,by first | trivial | (simp -implicitDefEqProofs [*];done),by first | rfl | (simp -implicitDefEqProofs [*];done)⟩ | (simp -implicitDefEqProofs [*];done)) ?_;rintro x0 ⟨hi0,hs0,hn0⟩ ny0 nz0;(try simp only [headM,List.nil_append,List.cons_append,dropA,Nat.reducePow,Nat.reduceDiv,Nat.reduceMod, ↓reduceIte,Nat.reduceOr,Nat.zero_ne_one]);have hj0:x0 ≤ 4294967296:=by omega)
   | (refine goB_intro (fun h=>?_) (fun h=>?_) <;> (try simp only [Bool.not_eq_true',Bool.not_eq_false',Bool.not_eq_true,Bool.not_eq_false,Bool.and_eq_true,Bool.or_eq_false_iff,and_assoc,decide_eq_true_eq,decide_eq_false_iff_not,Nat.not_lt,Nat.not_le,Int.ofNat_lt,Int.ofNat_le,Int.not_lt,Int.not_le] at h) <;> (try have g:=ne_of_beqI h) <;> (repeat (have h':=And.left h;replace h:=And.right h)) <;> (try (have hz0:=Eq.symm hn0;rw [List.drop_eq_nil_of_le h] at hz0;simp -implicitDefEqProofs at hz0)) <;> (try (have hz1:=Eq.symm hn1;rw [List.drop_eq_nil_of_le h] at hz1;simp -implicitDefEqProofs at hz1)) <;> (try (have hz3:=Eq.symm hn3;rw [List.drop_eq_nil_of_le h] at hz3;simp -implicitDefEqProofs at hz3)) <;> (try (have hz0:=Eq.symm hn0;rw [hst0.out] at hz0;rw [dif_neg (by first | exact Nat.not_lt.mpr h | omega)] at hz0)) <;> (try (have hz1:=Eq.symm hn1;rw [hst1.out] at hz1;rw [dif_neg (by first | exact Nat.not_lt.mpr h | omega)] at hz1)) <;> (try (have hz2:=Eq.symm hn2;rw [hst2.out] at hz2;rw [dif_neg (by first | exact Nat.not_lt.mpr h | omega)] at hz2)) <;> (try (have hz3:=Eq.symm hn3;rw [hst3.out] at hz3;rw [dif_neg (by first | exact Nat.not_lt.mpr h | omega)] at hz3))))
  all_goals try (first
   | rfl
   | (refine again_nx ny0 (by first | assumption | omega | (dsimp only;omega)) (by first | omega | (dsimp only;omega)) ?_ leS;dsimp only;(first | rw [List.drop_eq_getElem_cons (by assumption)] at hn0 | rw [hst0.out] at hn0);refine ⟨by omega,by first | trivial | omega | (simp -implicitDefEqProofs [*];done) | (simp -implicitDefEqProofs;omega),?_⟩;first | (simpa -implicitDefEqProofs [*] using hn0) | (rw [← hn0];clear hn0;simp -implicitDefEqProofs [*];done))
   | (refine again_nx nz0 (by first | assumption | omega | (dsimp only;omega)) (by first | omega | (dsimp only;omega)) ?_ leS;dsimp only;(first | rw [List.drop_eq_getElem_cons (by assumption)] at hn0 | rw [hst0.out] at hn0);refine ⟨by omega,by first | trivial | omega | (simp -implicitDefEqProofs [*];done) | (simp -implicitDefEqProofs;omega),?_⟩;first | (simpa -implicitDefEqProofs [*] using hn0) | (rw [← hn0];clear hn0;simp -implicitDefEqProofs [*];done))
   | (simp -implicitDefEqProofs [*];done)
   | ((first | rw [List.drop_eq_getElem_cons (by assumption)] at hn0 | rw [List.drop_eq_nil_of_le (by assumption)] at hn0 | rw [hst0.out] at hn0);rw [← hn0];first | rfl | (simp -implicitDefEqProofs [*];done))
   | ((first | rw [List.drop_eq_getElem_cons (by assumption)] at hn0 | rw [List.drop_eq_nil_of_le (by assumption)] at hn0 | rw [hst0.out] at hn0);(try simp -implicitDefEqProofs [*] at hn0);(try simp -implicitDefEqProofs);grind)
   | (rcases Nx.em ny0 with hq | hq <;> (try simp only [Nat.not_lt] at hq) <;> (first | (rw [List.drop_eq_getElem_cons hq] at hn0;rw [← hn0];(try simp [hq] at h);first | (simp -implicitDefEqProofs [*];done) | (simp -implicitDefEqProofs;grind) | grind) | (rw [List.drop_eq_nil_of_le hq] at hn0;rw [← hn0];first | rfl | (simp -implicitDefEqProofs [*];done) | (simp -implicitDefEqProofs;grind) | grind) | (rw [hst0.out] at hn0;rw [← hn0];(try simp [hq] at h);first | rfl | (simp -implicitDefEqProofs [*];done) | (simp -implicitDefEqProofs [*];grind) | grind)))
   | (simp -implicitDefEqProofs [*];grind) | grind | (simp_all -implicitDefEqProofs;done))
  all_goals (refine ⟨?_⟩;clear st0)
  ·have hroom':=hroom x0.1 (by assumption)
   have hw1:w64 ((x0.1:Int) + 1)=(x0.1:Int) + 1:=wrap_i64 (by omega) (by omega)
   have hk:kindAt op nn kk x0.1=2:=by
    rw [hkH.out x0.1,hw1,if_pos]
    simp only [*,decide_true,Bool.and_self]
   obtain ⟨j,q,hj,m1,m2,m3⟩:=keyH.out x0.1 2 hk
   clear hk hkH keyH hroom hw1
   exact walkX trivial trivial
  ·have hroom':=hroom x0.1 (by assumption)
   have hw1:w64 ((x0.1:Int) + 1)=(x0.1:Int) + 1:=wrap_i64 (by omega) (by omega)
   have hk:kindAt op nn kk x0.1=kk:=by
    rw [hkH.out x0.1,hw1,h]
    rfl
   obtain ⟨j,q,hj,m1,m2,m3⟩:=keyH.out x0.1 kk hk
   clear hk hkH keyH hroom hw1
   exact walk⟩
end
end Go.Proofs.YtgiedlcjlalpcaaGreat
