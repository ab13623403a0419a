/- Part of a proof: L7 N1. -/
import Derived.Test.YtgiedlcjlalpcaaGreatPb12
import Derived.Test.YtgiedlcjlalpcaaGreatPb13
import Derived.Test.YtgiedlcjlalpcaaGreatPc03
set_option linter.all false
namespace Go.Proofs.YtgiedlcjlalpcaaGreat
open Go.Abs
set_option maxRecDepth 100000
set_option maxHeartbeats 4000000
attribute [local irreducible] wpA Again LeJ
attribute [local simp high] mkT_getD
attribute [local simp] runM_nil runM_cons mG_some mC_none mC_un mC_gd mV_some mV_none mD_some mP_some mP_none pickV_bool pickV_int specE_pick specE_move specE_assign specE_alloc specE_box specE_build specE_buildSlice specE_load specE_store specE_nilCheck specE_binOp specE_unOp specE_convert specE_makeFunc specE_slice specE_fieldAddr specE_field specE_indexAddr specE_index specE_extract specE_call cond_false_r cond_true_m callPure touches_move touches_assign touches_box touches_load touches_nilCheck touches_unOp touches_convert touches_fieldAddr touches_field touches_extract touches_pick touches_store touches_binOp touches_indexAddr touches_index touches_alloc touches_build touches_buildSlice touches_makeFunc touches_slice touches_call touches_builtin V.names V.namesL callOf_fn callOf_builtin callOf callResW cfg_imp wantedA evalOp_move evalOp_assign evalOp_pick evalOp_alloc evalOp_box evalOp_build evalOp_buildSlice evalOp_load evalOp_store evalOp_nilCheck evalOp_binOp evalOp_unOp evalOp_convert evalOp_makeFunc evalOp_slice evalOp_fieldAddr evalOp_field evalOp_indexAddr evalOp_index evalOp_extract evalOp_builtin opnd_tmp opnd_const opnd_func headM dropA mkT_set mkT_idx mkT_get mkT_len lookA more_true more_false constV boolV St.put getB setB V.cells cells_agg cells_int cells_bool cells_str cells_lst cells_fn cells_nilp cells_nilf cells_nilm cells_imm cells_obj cells_imap mkAgg mkFn allP partV partP placesOf fillV spliceV Ty.agg oneV oneP natOf binV_int binV_str binV_bool_eql binV_ptr_nil_eql binV_ptr_imm_eql binV_ptr_obj_eql binV_ptr_ref_eql binV_func_nil_eql binV_func_fn_eql binV_func_fv_eql binV_bool_neq binV_ptr_nil_neq binV_ptr_imm_neq binV_ptr_obj_neq binV_ptr_ref_neq binV_func_nil_neq binV_func_fn_neq binV_func_fv_neq intBin strBin cfg_ty callRes toP toPs resV addedP appendV partsToP resultPs resultVs St.head roomFor_of wrap_succ wrap_nat sizesOk_nil sizesOk_cons elemOk_int elemOk_bool elemOk_str elemOk_lst elemOk_fn List.getElem?_eq_getElem bne w64 val_cells val_fold val_eta col_cells col_fold col_eta rel_cells expr_cells expr_fold expr_fold0 expr_fold1 expr_fold2 expr_eta expr_op expr_n expr_m expr_kind expr_lit expr_args expr_rels eps_nil eps_len eps_get eps_app eps_take eps_drop eps_ok vps_nil vps_len vps_get vps_app vps_take vps_drop vps_ok cps_nil cps_len cps_get cps_app cps_take cps_drop cps_ok rps_nil rps_len rps_get eps_idx vps_idx cps_idx rps_idx ips_nil ips_len ips_get ips_idx ips_ok elemOk_e elemOk_v elemOk_c ips_app ips_take ips_drop el1 ea1 es1 el2 ea2 es2 el3 ea3 es3 elc eac vl1 va1 vs1 vl2 va2 vs2 vl3 va3 vs3 vlc vac cl1 ca1 cs1 cl2 ca2 cs2 cl3 ca3 cs3 clc cac il1 ia1 is1 il2 ia2 is2 il3 ia3 is3 ilc iac binV_val_eql binV_val_neq binV_col_eql ty2 ty3 ty4 ty5 ty9 ty22 ty23 ty25 ty26 ty27 ty29 ty30 ty34 ty43 ty52 ty57 ty61 ty75 ty86 ty87 ty102 ty131 ty132 ty134 ty135 ty137 ty138 ty141 ty149 ty152 ty156 ty159 ty160 ty172 ty176 ty184 ty185 ty186 ty187 ty189 ty204 ty211 ty221 ty222 ty242 ty259
section
attribute [local simp] wl0 wl1 wl2 wl3 wl4 wl5 wl6 wl7 wl8 wl9 wl10 wl11 wl12 wl13 wl14 wl15 wl16 wl17 wl18 wl19 wl20
attribute [local simp high] evalOp_fieldP
attribute [local simp] fldV_p fldV_agg aggP_agg aggP_col aggP_val aggP_expr
theorem l7_stay (e:Expr) (cols:List Col) (xs:List Expr) (hl:e.args.length=xs.length) (nx:Expr) (h16:xs.length ≤ 16)
  (rec20:∀ (i:Nat) (h1:i < e.args.length) (h2:i < xs.length),Cal 20 [e.args[i].p,.lst (Col.ps cols)] [(xs[i]'h2).p])
  (hs:Cal 57 [(Expr.mk e.op e.n e.m e.kind e.lit xs e.rels).p,.lst (Col.ps cols)] [nx.p,.bool false]):Cal 20 [e.p,.lst (Col.ps cols)] [(Expr.mk e.op e.n e.m e.kind e.lit xs e.rels).p]:=⟨by
 haveI rec20':∀ (i:Nat) (h1:i < e.args.length),Cal 20 [e.args[i].p,.lst (Col.ps cols)] [(xs[i]'(by omega)).p]:=fun i h1=>rec20 i h1 (by omega)
 clear rec20
 have pc0:∀ {l:List Expr},l=xs→CallP cfg Tryz.prog 57 [(Expr.mk e.op e.n e.m e.kind e.lit l e.rels).p,.lst (Col.ps cols)] [nx.p,.bool false]:=fun {l} h=>by subst h;exact hs.out
 clear hs
 have hr:∀ i,i < xs.length→roomFor (i + 1) 112=true:=fun i _=>roomFor_of (by omega) (by decide)
 have msk:Msk 4260607524360 4398046510600:=⟨⟩
 refine CallP.of_bodyN 42 cfg_ok Tryz.func20 rfl rfl (by kernel_rfl) fun base=>?_;simp only [mkA,Nat.reduceAdd]
 refine wpA_ok 0 rfl fun ok0=>?_
 refine wpA_ok 1 rfl fun ok1=>?_
 have ld0:LD (σ:=Nat × List Expr) 0 1073739840 [27] (fun y_=>(fun i acc=>[(6,.p (.int .i64 i))]) y_.1 y_.2) (fun y_=>(fun i acc=>[(5,.cells [.p (.int .i64 e.op),.p (.int .i64 e.n),.p (.int .i64 e.m),.p (.int .i64 e.kind),.p (.int .i64 e.lit.kind),.p (.int .i64 e.lit.int),.p (.str e.lit.text),.own 28 i,.p (.lst (Rel.ps e.rels))]),(28,.arr 9 (Expr.ps acc) false)]) y_.1 y_.2) (fun y_=>(fun i acc=>InvL (i ≤ (xs).length) (acc.length=i) (acc ++ xs.drop i=xs)) y_.1 y_.2) (fun y_=>(fun i acc=>(xs).length - i) y_.1 y_.2) ((0,[])) [28] (fun y_=>(fun i acc=>i < (xs).length) y_.1 y_.2) (fun y_ (h:(fun i acc=>i < (xs).length) y_.1 y_.2)=>(fun i acc (h:i < (xs).length)=>(i + 1,acc ++ [xs[i]])) y_.1 y_.2 h) (fun y_ (h:(fun i acc=>i < (xs).length) y_.1 y_.2)=>(fun i acc (h:i < (xs).length)=>(i + 1,acc ++ [xs[i]])) y_.1 y_.2 h):=⟨⟩
 exact walk⟩
theorem l7_go (e:Expr) (cols:List Col) (xs:List Expr) (hl:e.args.length=xs.length) (nx y:Expr) (h16:xs.length ≤ 16)
  (rec20:∀ (i:Nat) (h1:i < e.args.length) (h2:i < xs.length),Cal 20 [e.args[i].p,.lst (Col.ps cols)] [(xs[i]'h2).p])
  (hs:Cal 57 [(Expr.mk e.op e.n e.m e.kind e.lit xs e.rels).p,.lst (Col.ps cols)] [nx.p,.bool true]) (hy:Cal 20 [nx.p,.lst (Col.ps cols)] [y.p]):Cal 20 [e.p,.lst (Col.ps cols)] [y.p]:=⟨by
 haveI rec20':∀ (i:Nat) (h1:i < e.args.length),Cal 20 [e.args[i].p,.lst (Col.ps cols)] [(xs[i]'(by omega)).p]:=fun i h1=>rec20 i h1 (by omega)
 clear rec20
 have pc0:∀ {l:List Expr},l=xs→CallP cfg Tryz.prog 57 [(Expr.mk e.op e.n e.m e.kind e.lit l e.rels).p,.lst (Col.ps cols)] [nx.p,.bool true]:=fun {l} h=>by subst h;exact hs.out
 clear hs
 have hr:∀ i,i < xs.length→roomFor (i + 1) 112=true:=fun i _=>roomFor_of (by omega) (by decide)
 have msk:Msk 4260607524360 4398046510600:=⟨⟩
 refine CallP.of_bodyN 42 cfg_ok Tryz.func20 rfl rfl (by kernel_rfl) fun base=>?_;simp only [mkA,Nat.reduceAdd]
 refine wpA_ok 0 rfl fun ok0=>?_
 refine wpA_ok 1 rfl fun ok1=>?_
 have ld0:LD (σ:=Nat × List Expr) 0 1073739840 [27] (fun y_=>(fun i acc=>[(6,.p (.int .i64 i))]) y_.1 y_.2) (fun y_=>(fun i acc=>[(5,.cells [.p (.int .i64 e.op),.p (.int .i64 e.n),.p (.int .i64 e.m),.p (.int .i64 e.kind),.p (.int .i64 e.lit.kind),.p (.int .i64 e.lit.int),.p (.str e.lit.text),.own 28 i,.p (.lst (Rel.ps e.rels))]),(28,.arr 9 (Expr.ps acc) false)]) y_.1 y_.2) (fun y_=>(fun i acc=>InvL (i ≤ (xs).length) (acc.length=i) (acc ++ xs.drop i=xs)) y_.1 y_.2) (fun y_=>(fun i acc=>(xs).length - i) y_.1 y_.2) ((0,[])) [28] (fun y_=>(fun i acc=>i < (xs).length) y_.1 y_.2) (fun y_ (h:(fun i acc=>i < (xs).length) y_.1 y_.2)=>(fun i acc (h:i < (xs).length)=>(i + 1,acc ++ [xs[i]])) y_.1 y_.2 h) (fun y_ (h:(fun i acc=>i < (xs).length) y_.1 y_.2)=>(fun i acc (h:i < (xs).length)=>(i + 1,acc ++ [xs[i]])) y_.1 y_.2 h):=⟨⟩
 exact walk⟩
end
section
attribute [local simp] wl0 wl1 wl2 wl3 wl4 wl5 wl6 wl7 wl8 wl9 wl10 wl11 wl12 wl13 wl14 wl15 wl16 wl17 wl18 wl19 wl20
attribute [local simp high] evalOp_fieldP
attribute [local simp] fldV_p fldV_agg aggP_agg aggP_col aggP_val aggP_expr
theorem cal20 {cols:List Col} {e y:Expr} (hs:Simp cols e y):∀ {k:Int},Has cols e k→Cal 20 [e.p,.lst (Col.ps cols)] [y.p]:=by
 induction hs with
 | stay e xs hl h hs ih=>
  intro k hk
  have hA:Has cols (setA e xs) k:=has_args hk hl fun i h1 h2=>simp_has (h i h1 h2) (arg_has hk (List.getElem_mem h1))
  have h57:=cal57 (setA e xs) cols hA.wf
  rw [hs] at h57
  exact l7_stay e cols xs hl _ (by have:=wf_len hk.wf;omega) (fun i h1 h2=>ih i h1 h2 (arg_has hk (List.getElem_mem h1))) h57
 | go e xs y hl h hs hy ih ihy=>
  intro k hk
  have hA:Has cols (setA e xs) k:=has_args hk hl fun i h1 h2=>simp_has (h i h1 h2) (arg_has hk (List.getElem_mem h1))
  have h57:=cal57 (setA e xs) cols hA.wf
  rw [hs] at h57
  exact l7_go e cols xs hl _ y (by have:=wf_len hk.wf;omega) (fun i h1 h2=>ih i h1 h2 (arg_has hk (List.getElem_mem h1))) h57 (ihy (step_has hA hs))
end
end Go.Proofs.YtgiedlcjlalpcaaGreat
