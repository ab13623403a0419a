/- Part of a proof: G6. -/
import Derived.Test.YtgiedlcjlalpcaaGreatPb09
set_option linter.all false
namespace Go.Proofs.YtgiedlcjlalpcaaGreat
open Go.Abs
set_option maxRecDepth 100000
set_option maxHeartbeats 4000000
attribute [local irreducible] wpA Again LeJ
attribute [local simp high] mkT_getD
attribute [local simp] runM_nil runM_cons mG_some mC_none mC_un mC_gd mV_some mV_none mD_some mP_some mP_none pickV_bool pickV_int specE_pick specE_move specE_assign specE_alloc specE_box specE_build specE_buildSlice specE_load specE_store specE_nilCheck specE_binOp specE_unOp specE_convert specE_makeFunc specE_slice specE_fieldAddr specE_field specE_indexAddr specE_index specE_extract specE_call cond_false_r cond_true_m callPure touches_move touches_assign touches_box touches_load touches_nilCheck touches_unOp touches_convert touches_fieldAddr touches_field touches_extract touches_pick touches_store touches_binOp touches_indexAddr touches_index touches_alloc touches_build touches_buildSlice touches_makeFunc touches_slice touches_call touches_builtin V.names V.namesL callOf_fn callOf_builtin callOf callResW cfg_imp wantedA evalOp_move evalOp_assign evalOp_pick evalOp_alloc evalOp_box evalOp_build evalOp_buildSlice evalOp_load evalOp_store evalOp_nilCheck evalOp_binOp evalOp_unOp evalOp_convert evalOp_makeFunc evalOp_slice evalOp_fieldAddr evalOp_field evalOp_indexAddr evalOp_index evalOp_extract evalOp_builtin opnd_tmp opnd_const opnd_func headM dropA mkT_set mkT_idx mkT_get mkT_len lookA more_true more_false constV boolV St.put getB setB V.cells cells_agg cells_int cells_bool cells_str cells_lst cells_fn cells_nilp cells_nilf cells_nilm cells_imm cells_obj cells_imap mkAgg mkFn allP partV partP placesOf fillV spliceV Ty.agg oneV oneP natOf binV_int binV_str binV_bool_eql binV_ptr_nil_eql binV_ptr_imm_eql binV_ptr_obj_eql binV_ptr_ref_eql binV_func_nil_eql binV_func_fn_eql binV_func_fv_eql binV_bool_neq binV_ptr_nil_neq binV_ptr_imm_neq binV_ptr_obj_neq binV_ptr_ref_neq binV_func_nil_neq binV_func_fn_neq binV_func_fv_neq intBin strBin cfg_ty callRes toP toPs resV addedP appendV partsToP resultPs resultVs St.head roomFor_of wrap_succ wrap_nat sizesOk_nil sizesOk_cons elemOk_int elemOk_bool elemOk_str elemOk_lst elemOk_fn List.getElem?_eq_getElem bne w64 val_cells val_fold val_eta col_cells col_fold col_eta rel_cells expr_cells expr_fold expr_fold0 expr_fold1 expr_fold2 expr_eta expr_op expr_n expr_m expr_kind expr_lit expr_args expr_rels eps_nil eps_len eps_get eps_app eps_take eps_drop eps_ok vps_nil vps_len vps_get vps_app vps_take vps_drop vps_ok cps_nil cps_len cps_get cps_app cps_take cps_drop cps_ok rps_nil rps_len rps_get eps_idx vps_idx cps_idx rps_idx ips_nil ips_len ips_get ips_idx ips_ok elemOk_e elemOk_v elemOk_c ips_app ips_take ips_drop el1 ea1 es1 el2 ea2 es2 el3 ea3 es3 elc eac vl1 va1 vs1 vl2 va2 vs2 vl3 va3 vs3 vlc vac cl1 ca1 cs1 cl2 ca2 cs2 cl3 ca3 cs3 clc cac il1 ia1 is1 il2 ia2 is2 il3 ia3 is3 ilc iac binV_val_eql binV_val_neq binV_col_eql ty2 ty3 ty4 ty5 ty9 ty22 ty23 ty25 ty26 ty27 ty29 ty30 ty34 ty43 ty52 ty57 ty61 ty75 ty86 ty87 ty102 ty131 ty132 ty134 ty135 ty137 ty138 ty141 ty149 ty152 ty156 ty159 ty160 ty172 ty176 ty184 ty185 ty186 ty187 ty189 ty204 ty211 ty221 ty222 ty242 ty259
section
attribute [local simp] anyNull everyNull combined idx0 in
theorem cal78 (e:Expr) (l:List Col) (h0:(e.op == 3)=false→0 < l.length) (h131:0 < l.length→Cal 131 [.lst (Col.ps l)] [(caseKinds (l.getLastD zeroC) 0 l).1.p,.bool (caseKinds (l.getLastD zeroC) 0 l).2]):Cal 78 [e.p,.lst (Col.ps l)] [(combined e l).1.p,.bool (combined e l).2]:=⟨by
 have msk:Msk 21778068881542689105299280569577867566088 21778071482939984290398907835720977611784:=⟨⟩
 refine CallP.of_bodyN 134 cfg_ok Tryz.func78 rfl rfl (by kernel_rfl) fun base=>?_;simp only [mkA,Nat.reduceAdd]
 refine wpA_ok 0 rfl fun ok0=>?_
 refine wpA_ok 1 rfl fun ok1=>?_
 have hl:=okP_cps ok1
 cases h3:(e.op == 3) with
 | true=>
  have g3:e.op=3:=by simpa using h3
  clear h0 h131
  have ld0:LD (σ:=Nat × Bool) 0 16776384 [] (fun y_=>(fun i q=>[(7,.p (.int .i64 i)),(6,.p (.bool q))]) y_.1 y_.2) (fun y_=>(fun i q=>[]) y_.1 y_.2) (fun y_=>(fun i q=>InvL (i ≤ (l).length) (True) (anyNull q (l.drop i)=anyNull false l)) y_.1 y_.2) (fun y_=>(fun i q=>(l).length - i) y_.1 y_.2) ((0,false)) [] (fun y_=>(fun i q=>i < (l).length) y_.1 y_.2) (fun y_ (h:(fun i q=>i < (l).length) y_.1 y_.2)=>(fun i q (h:i < (l).length)=>(i + 1,q || l[i].null)) y_.1 y_.2 h) (fun y_ (h:(fun i q=>i < (l).length) y_.1 y_.2)=>(fun i q (h:i < (l).length)=>(i + 1,q || l[i].null)) y_.1 y_.2 h):=⟨⟩
  exact walk
 | false=>
  have g3:¬ e.op=3:=by simpa using h3
  have hpos:=h0 h3
  haveI:=h131 hpos
  clear h0 h131
  have ld0:LD (σ:=Nat × Bool) 0 16776384 [] (fun y_=>(fun i q=>[(7,.p (.int .i64 i)),(6,.p (.bool q))]) y_.1 y_.2) (fun y_=>(fun i q=>[]) y_.1 y_.2) (fun y_=>(fun i q=>InvL (i ≤ (l).length) (True) (anyNull q (l.drop i)=anyNull false l)) y_.1 y_.2) (fun y_=>(fun i q=>(l).length - i) y_.1 y_.2) ((0,false)) [] (fun y_=>(fun i q=>i < (l).length) y_.1 y_.2) (fun y_ (h:(fun i q=>i < (l).length) y_.1 y_.2)=>(fun i q (h:i < (l).length)=>(i + 1,q || l[i].null)) y_.1 y_.2 h) (fun y_ (h:(fun i q=>i < (l).length) y_.1 y_.2)=>(fun i q (h:i < (l).length)=>(i + 1,q || l[i].null)) y_.1 y_.2 h):=⟨⟩
  have ld1:LD (σ:=Nat × Bool) 3 5316587464586005064888445085100802816 [] (fun y_=>(fun i q=>[(9,.p (.int .i64 i)),(8,.p (.bool q))]) y_.1 y_.2) (fun y_=>(fun i q=>[]) y_.1 y_.2) (fun y_=>(fun i q=>InvL (i ≤ (l).length) (True) (everyNull q (l.drop i)=everyNull true l)) y_.1 y_.2) (fun y_=>(fun i q=>(l).length - i) y_.1 y_.2) ((0,true)) [] (fun y_=>(fun i q=>i < (l).length) y_.1 y_.2) (fun y_ (h:(fun i q=>i < (l).length) y_.1 y_.2)=>(fun i q (h:i < (l).length)=>(i + 1,q && l[i].null)) y_.1 y_.2 h) (fun y_ (h:(fun i q=>i < (l).length) y_.1 y_.2)=>(fun i q (h:i < (l).length)=>(i + 1,q && l[i].null)) y_.1 y_.2 h):=⟨⟩
  exact walk⟩
end
end Go.Proofs.YtgiedlcjlalpcaaGreat
