/- Part of a proof: G1 G2 G3 G4 G5 H1 E1 U1 C1 P3 E2. -/
import Derived.Test.YtgiedlcjlalpcaaGreatPb07
import Derived.Test.YtgiedlcjlalpcaaGreatPb08
set_option linter.all false
namespace Go.Proofs.YtgiedlcjlalpcaaGreat
open Go.Abs
set_option maxRecDepth 100000
set_option maxHeartbeats 4000000
attribute [local irreducible] wpA Again LeJ
attribute [local simp high] mkT_getD
attribute [local simp] runM_nil runM_cons mG_some mC_none mC_un mC_gd mV_some mV_none mD_some mP_some mP_none pickV_bool pickV_int specE_pick specE_move specE_assign specE_alloc specE_box specE_build specE_buildSlice specE_load specE_store specE_nilCheck specE_binOp specE_unOp specE_convert specE_makeFunc specE_slice specE_fieldAddr specE_field specE_indexAddr specE_index specE_extract specE_call cond_false_r cond_true_m callPure touches_move touches_assign touches_box touches_load touches_nilCheck touches_unOp touches_convert touches_fieldAddr touches_field touches_extract touches_pick touches_store touches_binOp touches_indexAddr touches_index touches_alloc touches_build touches_buildSlice touches_makeFunc touches_slice touches_call touches_builtin V.names V.namesL callOf_fn callOf_builtin callOf callResW cfg_imp wantedA evalOp_move evalOp_assign evalOp_pick evalOp_alloc evalOp_box evalOp_build evalOp_buildSlice evalOp_load evalOp_store evalOp_nilCheck evalOp_binOp evalOp_unOp evalOp_convert evalOp_makeFunc evalOp_slice evalOp_fieldAddr evalOp_field evalOp_indexAddr evalOp_index evalOp_extract evalOp_builtin opnd_tmp opnd_const opnd_func headM dropA mkT_set mkT_idx mkT_get mkT_len lookA more_true more_false constV boolV St.put getB setB V.cells cells_agg cells_int cells_bool cells_str cells_lst cells_fn cells_nilp cells_nilf cells_nilm cells_imm cells_obj cells_imap mkAgg mkFn allP partV partP placesOf fillV spliceV Ty.agg oneV oneP natOf binV_int binV_str binV_bool_eql binV_ptr_nil_eql binV_ptr_imm_eql binV_ptr_obj_eql binV_ptr_ref_eql binV_func_nil_eql binV_func_fn_eql binV_func_fv_eql binV_bool_neq binV_ptr_nil_neq binV_ptr_imm_neq binV_ptr_obj_neq binV_ptr_ref_neq binV_func_nil_neq binV_func_fn_neq binV_func_fv_neq intBin strBin cfg_ty callRes toP toPs resV addedP appendV partsToP resultPs resultVs St.head roomFor_of wrap_succ wrap_nat sizesOk_nil sizesOk_cons elemOk_int elemOk_bool elemOk_str elemOk_lst elemOk_fn List.getElem?_eq_getElem bne w64 val_cells val_fold val_eta col_cells col_fold col_eta rel_cells expr_cells expr_fold expr_fold0 expr_fold1 expr_fold2 expr_eta expr_op expr_n expr_m expr_kind expr_lit expr_args expr_rels eps_nil eps_len eps_get eps_app eps_take eps_drop eps_ok vps_nil vps_len vps_get vps_app vps_take vps_drop vps_ok cps_nil cps_len cps_get cps_app cps_take cps_drop cps_ok rps_nil rps_len rps_get eps_idx vps_idx cps_idx rps_idx ips_nil ips_len ips_get ips_idx ips_ok elemOk_e elemOk_v elemOk_c ips_app ips_take ips_drop el1 ea1 es1 el2 ea2 es2 el3 ea3 es3 elc eac vl1 va1 vs1 vl2 va2 vs2 vl3 va3 vs3 vlc vac cl1 ca1 cs1 cl2 ca2 cs2 cl3 ca3 cs3 clc cac il1 ia1 is1 il2 ia2 is2 il3 ia3 is3 ilc iac binV_val_eql binV_val_neq binV_col_eql ty2 ty3 ty4 ty5 ty9 ty22 ty23 ty25 ty26 ty27 ty29 ty30 ty34 ty43 ty52 ty57 ty61 ty75 ty86 ty87 ty102 ty131 ty132 ty134 ty135 ty137 ty138 ty141 ty149 ty152 ty156 ty159 ty160 ty172 ty176 ty184 ty185 ty186 ty187 ty189 ty204 ty211 ty221 ty222 ty242 ty259
section
section
attribute [local simp] litE
attribute [local simp] Tryz.f161 in
instance call161 (k:Int) (v:Val):Cal 161 [.int .i64 k,v.p] [(litE k v).p]:=⟨by
 have msk:Msk 228 228:=⟨⟩
 refine CallP.of_bodyN 8 cfg_ok Tryz.func161 rfl rfl (by kernel_rfl) fun base=>?_;simp only [mkA,Nat.reduceAdd]
 exact walk⟩
end
section
attribute [local simp] boolW
attribute [local simp] Tryz.f167 in
instance call167  : Cal 167 [] [(boolW true).p]:=⟨by
 have msk:Msk 2 2:=⟨⟩
 refine CallP.of_bodyN 2 cfg_ok Tryz.func167 rfl rfl (by kernel_rfl) fun base=>?_;simp only [mkA,Nat.reduceAdd]
 exact walk⟩
end
section
attribute [local simp] boolW
attribute [local simp] Tryz.f168 in
instance call168  : Cal 168 [] [(boolW false).p]:=⟨by
 have msk:Msk 2 2:=⟨⟩
 refine CallP.of_bodyN 2 cfg_ok Tryz.func168 rfl rfl (by kernel_rfl) fun base=>?_;simp only [mkA,Nat.reduceAdd]
 exact walk⟩
end
section
attribute [local simp] nullW
attribute [local simp] Tryz.f187 in
instance call187  : Cal 187 [] [nullW.p]:=⟨by
 have msk:Msk 2 2:=⟨⟩
 refine CallP.of_bodyN 2 cfg_ok Tryz.func187 rfl rfl (by kernel_rfl) fun base=>?_;simp only [mkA,Nat.reduceAdd]
 exact walk⟩
end
section
attribute [local simp] nullW
attribute [local simp] Tryz.f35 in
instance call35  : Cal 35 [] [nullW.p]:=⟨by
 have msk:Msk 2 2:=⟨⟩
 refine CallP.of_bodyN 2 cfg_ok Tryz.func35 rfl rfl (by kernel_rfl) fun base=>?_;simp only [mkA,Nat.reduceAdd]
 exact walk⟩
end
section
attribute [local simp] boolW
attribute [local simp] Tryz.f203 in
instance call203 (b:Bool):Cal 203 [.bool b] [(boolW b).p]:=⟨by
 have msk:Msk 50 58:=⟨⟩
 refine CallP.of_bodyN 6 cfg_ok Tryz.func203 rfl rfl (by kernel_rfl) fun base=>?_;simp only [mkA,Nat.reduceAdd]
 exact walk⟩
end
section
attribute [local simp] boolW
attribute [local simp] Tryz.f37 in
instance call37 (b:Bool):Cal 37 [.bool b] [(boolW b).p]:=⟨by
 have msk:Msk 50 58:=⟨⟩
 refine CallP.of_bodyN 6 cfg_ok Tryz.func37 rfl rfl (by kernel_rfl) fun base=>?_;simp only [mkA,Nat.reduceAdd]
 exact walk⟩
end
section
attribute [local simp] intW
attribute [local simp] Tryz.f53 in
instance call53 (n:Int):Cal 53 [.int .i64 n] [(intW n).p]:=⟨by
 have msk:Msk 26 26:=⟨⟩
 refine CallP.of_bodyN 5 cfg_ok Tryz.func53 rfl rfl (by kernel_rfl) fun base=>?_;simp only [mkA,Nat.reduceAdd]
 exact walk⟩
end
section
attribute [local simp] intW
attribute [local simp] Tryz.f200 in
instance call200 (n:Int):Cal 200 [.int .i64 n] [(intW n).p]:=⟨by
 have msk:Msk 26 26:=⟨⟩
 refine CallP.of_bodyN 5 cfg_ok Tryz.func200 rfl rfl (by kernel_rfl) fun base=>?_;simp only [mkA,Nat.reduceAdd]
 exact walk⟩
end
section
attribute [local simp] textW
attribute [local simp] Tryz.f160 in
instance call160 (s:ByteArray):Cal 160 [.str s] [(textW s).p]:=⟨by
 have msk:Msk 26 26:=⟨⟩
 refine CallP.of_bodyN 5 cfg_ok Tryz.func160 rfl rfl (by kernel_rfl) fun base=>?_;simp only [mkA,Nat.reduceAdd]
 exact walk⟩
end
section
attribute [local simp] trueV
attribute [local simp] Tryz.f34 in
instance call34 (v:Val):Cal 34 [v.p] [.bool (trueV v)]:=⟨by
 have msk:Msk 2040 2040:=⟨⟩
 refine CallP.of_bodyN 11 cfg_ok Tryz.func34 rfl rfl (by kernel_rfl) fun base=>?_;simp only [mkA,Nat.reduceAdd]
 exact walk⟩
end
section
attribute [local simp] truthE litE boolW
attribute [local simp] Tryz.f100 in
instance call100 (b:Bool):Cal 100 [.bool b] [(truthE b).p]:=⟨by
 have msk:Msk 466 498:=⟨⟩
 refine CallP.of_bodyN 9 cfg_ok Tryz.func100 rfl rfl (by kernel_rfl) fun base=>?_;simp only [mkA,Nat.reduceAdd]
 exact walk⟩
end
section
attribute [local simp] isTrue boolW
attribute [local simp] Tryz.f101 in
instance call101 (e:Expr):Cal 101 [e.p] [.bool (isTrue e)]:=⟨by
 have msk:Msk 4088 4088:=⟨⟩
 refine CallP.of_bodyN 12 cfg_ok Tryz.func101 rfl rfl (by kernel_rfl) fun base=>?_;simp only [mkA,Nat.reduceAdd]
 exact walk⟩
end
section
attribute [local simp] isFalse boolW
attribute [local simp] Tryz.f102 in
instance call102 (e:Expr):Cal 102 [e.p] [.bool (isFalse e)]:=⟨by
 have msk:Msk 4088 4088:=⟨⟩
 refine CallP.of_bodyN 12 cfg_ok Tryz.func102 rfl rfl (by kernel_rfl) fun base=>?_;simp only [mkA,Nat.reduceAdd]
 exact walk⟩
end
section
attribute [local simp] opE nullW
attribute [local simp] Tryz.f104 in
instance call104 (op:Int) (l:List Expr):Cal 104 [.int .i64 op,.lst (Expr.ps l)] [(opE op l).p]:=⟨by
 have msk:Msk 236 236:=⟨⟩
 refine CallP.of_bodyN 8 cfg_ok Tryz.func104 rfl rfl (by kernel_rfl) fun base=>?_;simp only [mkA,Nat.reduceAdd]
 exact walk⟩
end
section
attribute [local simp] opE nullW
attribute [local simp] Tryz.f54 in
instance call54 (op:Int) (l:List Expr):Cal 54 [.int .i64 op,.lst (Expr.ps l)] [(opE op l).p]:=⟨by
 have msk:Msk 236 236:=⟨⟩
 refine CallP.of_bodyN 8 cfg_ok Tryz.func54 rfl rfl (by kernel_rfl) fun base=>?_;simp only [mkA,Nat.reduceAdd]
 exact walk⟩
end
section
attribute [local simp] isLit
attribute [local simp] Tryz.f105 in
instance call105 (e:Expr):Cal 105 [e.p] [.bool (isLit e)]:=⟨by
 have msk:Msk 56 56:=⟨⟩
 refine CallP.of_bodyN 6 cfg_ok Tryz.func105 rfl rfl (by kernel_rfl) fun base=>?_;simp only [mkA,Nat.reduceAdd]
 exact walk⟩
end
section
attribute [local simp] litE
attribute [local simp] Tryz.f106 in
instance call106 (v:Val) (k:Int):Cal 106 [v.p,.int .i64 k] [(litE k v).p]:=⟨by
 have msk:Msk 232 232:=⟨⟩
 refine CallP.of_bodyN 8 cfg_ok Tryz.func106 rfl rfl (by kernel_rfl) fun base=>?_;simp only [mkA,Nat.reduceAdd]
 exact walk⟩
end
section
attribute [local simp] litE nullW
attribute [local simp] Tryz.f112 in
instance call112 (k:Int):Cal 112 [.int .i64 k] [(litE k nullW).p]:=⟨by
 have msk:Msk 58 58:=⟨⟩
 refine CallP.of_bodyN 6 cfg_ok Tryz.func112 rfl rfl (by kernel_rfl) fun base=>?_;simp only [mkA,Nat.reduceAdd]
 exact walk⟩
end
section
attribute [local simp] isNull
attribute [local simp] Tryz.f113 in
instance call113 (e:Expr):Cal 113 [e.p] [.bool (isNull e)]:=⟨by
 have msk:Msk 4088 4088:=⟨⟩
 refine CallP.of_bodyN 12 cfg_ok Tryz.func113 rfl rfl (by kernel_rfl) fun base=>?_;simp only [mkA,Nat.reduceAdd]
 exact walk⟩
end
section
attribute [local simp] litE intW
attribute [local simp] Tryz.f229 in
instance call229 (n:Int):Cal 229 [.int .i64 n] [(litE 1 (intW n)).p]:=⟨by
 have msk:Msk 58 58:=⟨⟩
 refine CallP.of_bodyN 6 cfg_ok Tryz.func229 rfl rfl (by kernel_rfl) fun base=>?_;simp only [mkA,Nat.reduceAdd]
 exact walk⟩
end
section
attribute [local simp] isLit
attribute [local simp] Tryz.f170 in
instance call170 (e:Expr):Cal 170 [e.p] [.bool (isLit e)]:=⟨by
 have msk:Msk 56 56:=⟨⟩
 refine CallP.of_bodyN 6 cfg_ok Tryz.func170 rfl rfl (by kernel_rfl) fun base=>?_;simp only [mkA,Nat.reduceAdd]
 exact walk⟩
end
section
attribute [local simp] opposite
attribute [local simp] Tryz.f169 in
instance call169 (op:Int):Cal 169 [.int .i64 op] [.int .i64 (opposite op)]:=⟨by
 have msk:Msk 43682 65522:=⟨⟩
 refine CallP.of_bodyN 16 cfg_ok Tryz.func169 rfl rfl (by kernel_rfl) fun base=>?_;simp only [mkA,Nat.reduceAdd]
 exact walk⟩
end
section
attribute [local simp] isLit
attribute [local simp] Tryz.f221 in
instance call221 (e:Expr):Cal 221 [e.p] [.bool (!isLit e)]:=⟨by
 have msk:Msk 56 56:=⟨⟩
 refine CallP.of_bodyN 6 cfg_ok Tryz.func221 rfl rfl (by kernel_rfl) fun base=>?_;simp only [mkA,Nat.reduceAdd]
 exact walk⟩
end
section
attribute [local simp] litE
attribute [local simp] Tryz.f36 in
instance call36 (v:Val):Cal 36 [v.p] [(litE v.kind v).p]:=⟨by
 have msk:Msk 120 120:=⟨⟩
 refine CallP.of_bodyN 7 cfg_ok Tryz.func36 rfl rfl (by kernel_rfl) fun base=>?_;simp only [mkA,Nat.reduceAdd]
 exact walk⟩
end
section
attribute [local simp] colE nullW
attribute [local simp] Tryz.f55 in
instance call55 (n:Int):Cal 55 [.int .i64 n] [(colE n).p]:=⟨by
 have msk:Msk 26 26:=⟨⟩
 refine CallP.of_bodyN 5 cfg_ok Tryz.func55 rfl rfl (by kernel_rfl) fun base=>?_;simp only [mkA,Nat.reduceAdd]
 exact walk⟩
end
section
attribute [local simp] litE nullW
attribute [local simp] Tryz.f68 in
instance call68 (k:Int):Cal 68 [.int .i64 k] [(litE k nullW).p]:=⟨by
 have msk:Msk 26 26:=⟨⟩
 refine CallP.of_bodyN 5 cfg_ok Tryz.func68 rfl rfl (by kernel_rfl) fun base=>?_;simp only [mkA,Nat.reduceAdd]
 exact walk⟩
end
section
attribute [local simp] isNull isLit
attribute [local simp] Tryz.f60 in
instance call60 (e:Expr):Cal 60 [e.p] [.bool (isNull e)]:=⟨by
 have msk:Msk 2040 2040:=⟨⟩
 refine CallP.of_bodyN 11 cfg_ok Tryz.func60 rfl rfl (by kernel_rfl) fun base=>?_;simp only [mkA,Nat.reduceAdd]
 exact walk⟩
end
section
attribute [local simp] truthE
attribute [local simp] Tryz.f61 in
instance call61 (b:Bool):Cal 61 [.bool b] [(truthE b).p]:=⟨by
 have msk:Msk 58 58:=⟨⟩
 refine CallP.of_bodyN 6 cfg_ok Tryz.func61 rfl rfl (by kernel_rfl) fun base=>?_;simp only [mkA,Nat.reduceAdd]
 exact walk⟩
end
section
attribute [local simp] isV isLit
attribute [local simp] Tryz.f62 in
instance call62 (e:Expr) (v:Val):Cal 62 [e.p,v.p] [.bool (isV e v)]:=⟨by
 have msk:Msk 8160 8160:=⟨⟩
 refine CallP.of_bodyN 13 cfg_ok Tryz.func62 rfl rfl (by kernel_rfl) fun base=>?_;simp only [mkA,Nat.reduceAdd]
 exact walk⟩
end
attribute [local simp] Tryz.f282 in
instance call282 (n:Int):Cal 282 [.int .i64 n] [.bool false]:=⟨by
 have msk:Msk 58 58:=⟨⟩
 refine CallP.of_bodyN 6 cfg_ok Tryz.func282 rfl rfl (by kernel_rfl) fun base=>?_;simp only [mkA,Nat.reduceAdd]
 exact walk⟩
attribute [local simp] Tryz.f283 in
instance call283 (n:Int):Cal 283 [.int .i64 n] [.bool false]:=⟨by
 have msk:Msk 58 58:=⟨⟩
 refine CallP.of_bodyN 6 cfg_ok Tryz.func283 rfl rfl (by kernel_rfl) fun base=>?_;simp only [mkA,Nat.reduceAdd]
 exact walk⟩
attribute [local simp] Tryz.f284 in
instance call284 (s:ByteArray):Cal 284 [.str s] [.bool false]:=⟨by
 have msk:Msk 58 58:=⟨⟩
 refine CallP.of_bodyN 6 cfg_ok Tryz.func284 rfl rfl (by kernel_rfl) fun base=>?_;simp only [mkA,Nat.reduceAdd]
 exact walk⟩
section
attribute [local simp] cmpI
attribute [local simp] Tryz.f245 in
instance call245 (a b:Int):Cal 245 [.int .i64 a,.int .i64 b] [.int .i64 (cmpI a b)]:=⟨by
 have msk:Msk 444300 1048460:=⟨⟩
 refine CallP.of_bodyN 20 cfg_ok Tryz.func245 rfl rfl (by kernel_rfl) fun base=>?_;simp only [mkA,Nat.reduceAdd]
 exact walk⟩
end
section
attribute [local simp] cmpI
attribute [local simp] Tryz.f246 in
instance call246 (a b:Int):Cal 246 [.int .i64 a,.int .i64 b] [.int .i64 (cmpI a b)]:=⟨by
 have msk:Msk 444300 1048460:=⟨⟩
 refine CallP.of_bodyN 20 cfg_ok Tryz.func246 rfl rfl (by kernel_rfl) fun base=>?_;simp only [mkA,Nat.reduceAdd]
 exact walk⟩
end
section
attribute [local simp] cmpS
attribute [local simp] Tryz.f247 in
instance call247 (a b:ByteArray):Cal 247 [.str a,.str b] [.int .i64 (cmpS a b)]:=⟨by
 have msk:Msk 444300 1048460:=⟨⟩
 refine CallP.of_bodyN 20 cfg_ok Tryz.func247 rfl rfl (by kernel_rfl) fun base=>?_;simp only [mkA,Nat.reduceAdd]
 exact walk⟩
end
section
attribute [local simp] notV
attribute [local simp] Tryz.f134 in
instance call134 (v:Val):Cal 134 [v.p] [(notV v).p]:=⟨by
 have msk:Msk 2008 2040:=⟨⟩
 refine CallP.of_bodyN 11 cfg_ok Tryz.func134 rfl rfl (by kernel_rfl) fun base=>?_;simp only [mkA,Nat.reduceAdd]
 exact walk⟩
end
section
attribute [local simp] notV
attribute [local simp] Tryz.f270 in
instance call270 (v:Val):Cal 270 [v.p] [(notV v).p]:=⟨by
 have msk:Msk 2008 2040:=⟨⟩
 refine CallP.of_bodyN 11 cfg_ok Tryz.func270 rfl rfl (by kernel_rfl) fun base=>?_;simp only [mkA,Nat.reduceAdd]
 exact walk⟩
end
section
attribute [local simp] real
attribute [local simp] Tryz.f181 in
instance call181 (k:Int):Cal 181 [.int .i64 k] [.bool (real k)]:=⟨by
 have msk:Msk 8186 8186:=⟨⟩
 refine CallP.of_bodyN 13 cfg_ok Tryz.func181 rfl rfl (by kernel_rfl) fun base=>?_;simp only [mkA,Nat.reduceAdd]
 exact walk⟩
end
section
attribute [local simp] divided w64
attribute [local simp] Tryz.f185 in
instance call185 (op x y:Int):Cal 185 [.int .i64 op,.int .i64 x,.int .i64 y] [(divided op x y).p]:=⟨by
 have msk:Msk 68683822904 68719476664:=⟨⟩
 refine CallP.of_bodyN 36 cfg_ok Tryz.func185 rfl rfl (by kernel_rfl) fun base=>?_;simp only [mkA,Nat.reduceAdd]
 exact walk⟩
end
section
attribute [local simp] many w64
attribute [local simp] Tryz.f183 in
instance call183 (op n:Int):Cal 183 [.int .i64 op,.int .i64 n] [.bool (many op n)]:=⟨by
 have msk:Msk 140737471561612 140737488338828:=⟨⟩
 refine CallP.of_bodyN 47 cfg_ok Tryz.func183 rfl rfl (by kernel_rfl) fun base=>?_;simp only [mkA,Nat.reduceAdd]
 exact walk⟩
end
end
section
attribute [local simp] orL in
instance call244 (l:List Int):Cal 244 [.lst (ips l)] [.int .i64 (orL l)]:=⟨by
 have msk:Msk 244754 261650:=⟨⟩
 refine CallP.of_bodyN 18 cfg_ok Tryz.func244 rfl rfl (by kernel_rfl) fun base=>?_;simp only [mkA,Nat.reduceAdd]
 refine wpA_ok 0 rfl fun ok0=>?_
 have hl:=okP_ips ok0
 have ld0:LD (σ:=Nat) 0 130852 [] (fun y_=>(fun i=>[(8,.p (.int .i64 i))]) y_) (fun y_=>(fun i=>[]) y_) (fun y_=>(fun i=>InvL (i ≤ (l).length) (True) (orL (l.drop i)=orL l)) y_) (fun y_=>(fun i=>(l).length - i) y_) (0) [] (fun y_=>(fun i=>i < (l).length) y_) (fun y_ (h:(fun i=>i < (l).length) y_)=>(fun i (h:i < (l).length)=>i + 1) y_ h) (fun y_ (h:(fun i=>i < (l).length) y_)=>(fun i (h:i < (l).length)=>i + 1) y_ h):=⟨⟩
 exact walk⟩
attribute [local simp] idxOf in
theorem hof234 (l:List Expr) (g:FuncId) (first cap:List P) (q:Expr→Bool) [hf:∀ (i:Nat) (h:i < l.length),Cal g (first ++ (l[i]).p :: cap) [.bool (q l[i])]]:Cal 234 [.lst (Expr.ps l),.fn (.func g) first cap] [.int .i64 (idxOf q l 0)]:=⟨by
 have msk:Msk 457804 523852:=⟨⟩
 refine CallP.of_bodyN 19 cfg_ok Tryz.func234 rfl rfl (by kernel_rfl) fun base=>?_;simp only [mkA,Nat.reduceAdd]
 refine wpA_ok 0 rfl fun ok0=>?_
 refine wpA_ok 1 rfl fun ok1=>?_
 have hl:=okP_eps ok0
 have ld0:LD (σ:=Nat) 0 524080 [] (fun y_=>(fun i=>[(8,.p (.int .i64 i))]) y_) (fun y_=>(fun i=>[]) y_) (fun y_=>(fun i=>InvL (i ≤ (l).length) (True) (idxOf q (l.drop i) i=idxOf q l 0)) y_) (fun y_=>(fun i=>(l).length - i) y_) (0) [] (fun y_=>(fun i=>i < (l).length) y_) (fun y_ (h:(fun i=>i < (l).length) y_)=>(fun i (h:i < (l).length)=>i + 1) y_ h) (fun y_ (h:(fun i=>i < (l).length) y_)=>(fun i (h:i < (l).length)=>i + 1) y_ h):=⟨⟩
 exact walk⟩
instance call234_0 (l:List Expr) (g:FuncId) (q:Expr→Bool) [hf:∀ a:Expr,Cal g [Expr.p a] [.bool (q a)]]:Cal 234 [.lst (Expr.ps l),.fn (.func g) [] []] [.int .i64 (idxOf q l 0)]:=hof234 (first:=[]) (cap:=[]) (q:=q) (hf:=fun i h=>hf _)
attribute [local simp] eqLI in
theorem hof162 (l m:List Expr) (g:FuncId) (first cap:List P) (q:Expr→Expr→Bool) [hf:∀ (i j:Nat) (h:i < l.length) (k:j < m.length),Cal g (first ++ (l[i]).p :: (m[j]).p :: cap) [.bool (q l[i] m[j])]] :
  Cal 162 [.lst (Expr.ps l),.lst (Expr.ps m),.fn (.func g) first cap] [.bool (eqL q l m)]:=⟨by
 have msk:Msk 3220716600 4294736952:=⟨⟩
 refine CallP.of_bodyN 32 cfg_ok Tryz.func162 rfl rfl (by kernel_rfl) fun base=>?_;simp only [mkA,Nat.reduceAdd]
 refine wpA_ok 0 rfl fun ok0=>?_
 refine wpA_ok 1 rfl fun ok1=>?_
 refine wpA_ok 2 rfl fun ok2=>?_
 have hl:=okP_eps ok0
 by_cases hlm:l.length=m.length
 ·rw [eqLI_len hlm]
  have hb:∀ i,i < l.length→i < m.length:=fun i h=>by omega
  have hq:((l.length:Int) == (m.length:Int))=true:=by simp [hlm]
  clear hlm
  have ld0:LD (σ:=Nat) 0 4294837184 [8,9] (fun y_=>(fun i=>[(17,.p (.int .i64 i))]) y_) (fun y_=>(fun i=>[]) y_) (fun y_=>(fun i=>InvL (i ≤ (l).length) (True) (eqLI q m i (l.drop i)=eqLI q m 0 l)) y_) (fun y_=>(fun i=>(l).length - i) y_) (0) [] (fun y_=>(fun i=>i < (l).length) y_) (fun y_ (h:(fun i=>i < (l).length) y_)=>(fun i (h:i < (l).length)=>i + 1) y_ h) (fun y_ (h:(fun i=>i < (l).length) y_)=>(fun i (h:i < (l).length)=>i + 1) y_ h):=⟨⟩
  exact walk
 ·rw [eqL_len hlm]
  have hq:((l.length:Int) == (m.length:Int))=false:=by simp;omega
  clear hlm
  exact walk⟩
attribute [local simp] mapA in
theorem hof235 (l:List Expr) (g:FuncId) (first cap:List P) (q:Expr→Expr) [hf:∀ (i:Nat) (h:i < l.length),Cal g (first ++ (l[i]).p :: cap) [(q l[i]).p]]:Cal 235 [.lst (Expr.ps l),.fn (.func g) first cap] [.lst (Expr.ps (l.map q))]:=⟨by
 have msk:Msk 4190284 4192332:=⟨⟩
 refine CallP.of_bodyN 22 cfg_ok Tryz.func235 rfl rfl (by kernel_rfl) fun base=>?_;simp only [mkA,Nat.reduceAdd]
 refine wpA_ok 0 rfl fun ok0=>?_
 refine wpA_ok 1 rfl fun ok1=>?_
 have hl:=okP_eps ok0
 rw [map_mapA]
 have hr:∀ i,i < l.length→roomFor (i + 1) 112=true:=fun i _=>roomFor_of (by omega) (by decide)
 have ld0:LD (σ:=Nat × List Expr) 0 2096288 [7,18] (fun y_=>(fun i acc=>[(10,.p (.int .i64 i)),(5,.own 19 i)]) y_.1 y_.2) (fun y_=>(fun i acc=>[(19,.arr 9 (Expr.ps acc) false)]) y_.1 y_.2) (fun y_=>(fun i acc=>InvL (i ≤ (l).length) (acc.length=i) (mapA q acc (l.drop i)=mapA q [] l)) y_.1 y_.2) (fun y_=>(fun i acc=>(l).length - i) y_.1 y_.2) ((0,[])) [19] (fun y_=>(fun i acc=>i < (l).length) y_.1 y_.2) (fun y_ (h:(fun i acc=>i < (l).length) y_.1 y_.2)=>(fun i acc (h:i < (l).length)=>(i + 1,acc ++ [q l[i]])) y_.1 y_.2 h) (fun y_ (h:(fun i acc=>i < (l).length) y_.1 y_.2)=>(fun i acc (h:i < (l).length)=>(i + 1,acc ++ [q l[i]])) y_.1 y_.2 h):=⟨⟩
 exact walk⟩
end
section
theorem hof175 (l:List Expr) (g:FuncId) (first cap:List P) (q:Expr→Bool) [hf:∀ (i:Nat) (h:i < l.length),Cal g (first ++ (l[i]).p :: cap) [.bool (q l[i])]]:Cal 175 [.lst (Expr.ps l),.fn (.func g) first cap] [.bool (l.any q)]:=⟨by
 haveI:=hof234 l g first cap q
 have msk:Msk 492 492:=⟨⟩
 refine CallP.of_bodyN 9 cfg_ok Tryz.func175 rfl rfl (by kernel_rfl) fun base=>?_;simp only [mkA,Nat.reduceAdd]
 refine wpA_ok 0 rfl fun ok0=>?_
 refine wpA_ok 1 rfl fun ok1=>?_
 have hx:decide (0 ≤ idxOf q l 0)=l.any q:=idxOf_any q l 0 (Int.le_refl 0)
 exact walk⟩
instance call175_0 (l:List Expr) (g:FuncId) (q:Expr→Bool) [hf:∀ a:Expr,Cal g [Expr.p a] [.bool (q a)]]:Cal 175 [.lst (Expr.ps l),.fn (.func g) [] []] [.bool (l.any q)]:=hof175 (first:=[]) (cap:=[]) (q:=q) (hf:=fun i h=>hf _)
attribute [local simp] idxOf in
theorem hof140 (l:List Col) (g:FuncId) (first cap:List P) (q:Col→Bool) [hf:∀ (i:Nat) (h:i < l.length),Cal g (first ++ (l[i]).p :: cap) [.bool (q l[i])]]:Cal 140 [.lst (Col.ps l),.fn (.func g) first cap] [.int .i64 (idxOf q l 0)]:=⟨by
 have msk:Msk 457804 523852:=⟨⟩
 refine CallP.of_bodyN 19 cfg_ok Tryz.func140 rfl rfl (by kernel_rfl) fun base=>?_;simp only [mkA,Nat.reduceAdd]
 refine wpA_ok 0 rfl fun ok0=>?_
 refine wpA_ok 1 rfl fun ok1=>?_
 have hl:=okP_cps ok0
 have ld0:LD (σ:=Nat) 0 524080 [] (fun y_=>(fun i=>[(8,.p (.int .i64 i))]) y_) (fun y_=>(fun i=>[]) y_) (fun y_=>(fun i=>InvL (i ≤ (l).length) (True) (idxOf q (l.drop i) i=idxOf q l 0)) y_) (fun y_=>(fun i=>(l).length - i) y_) (0) [] (fun y_=>(fun i=>i < (l).length) y_) (fun y_ (h:(fun i=>i < (l).length) y_)=>(fun i (h:i < (l).length)=>i + 1) y_ h) (fun y_ (h:(fun i=>i < (l).length) y_)=>(fun i (h:i < (l).length)=>i + 1) y_ h):=⟨⟩
 exact walk⟩
theorem hof87 (l:List Col) (g:FuncId) (first cap:List P) (q:Col→Bool) [hf:∀ (i:Nat) (h:i < l.length),Cal g (first ++ (l[i]).p :: cap) [.bool (q l[i])]]:Cal 87 [.lst (Col.ps l),.fn (.func g) first cap] [.bool (l.any q)]:=⟨by
 haveI:=hof140 l g first cap q
 have msk:Msk 492 492:=⟨⟩
 refine CallP.of_bodyN 9 cfg_ok Tryz.func87 rfl rfl (by kernel_rfl) fun base=>?_;simp only [mkA,Nat.reduceAdd]
 refine wpA_ok 0 rfl fun ok0=>?_
 refine wpA_ok 1 rfl fun ok1=>?_
 have hx:decide (0 ≤ idxOf q l 0)=l.any q:=idxOf_any q l 0 (Int.le_refl 0)
 exact walk⟩
instance call87_0 (l:List Col) (g:FuncId) (q:Col→Bool) [hf:∀ a:Col,Cal g [Col.p a] [.bool (q a)]]:Cal 87 [.lst (Col.ps l),.fn (.func g) [] []] [.bool (l.any q)]:=hof87 (first:=[]) (cap:=[]) (q:=q) (hf:=fun i h=>hf _)
instance call87_1 (l:List Col) (g:FuncId) (c1:P) (q:Col→Bool) [hf:∀ a:Col,Cal g [Col.p a,c1] [.bool (q a)]]:Cal 87 [.lst (Col.ps l),.fn (.func g) [] [c1]] [.bool (l.any q)]:=hof87 (first:=[]) (cap:=[c1]) (q:=q) (hf:=fun i h=>hf _)
attribute [local simp] idxOf in
theorem hof107 (l:List Int) (g:FuncId) (first cap:List P) (q:Int→Bool) [hf:∀ (i:Nat) (h:i < l.length),Cal g (first ++ .int .i64 l[i] :: cap) [.bool (q l[i])]]:Cal 107 [.lst (ips l),.fn (.func g) first cap] [.int .i64 (idxOf q l 0)]:=⟨by
 have msk:Msk 457804 523852:=⟨⟩
 refine CallP.of_bodyN 19 cfg_ok Tryz.func107 rfl rfl (by kernel_rfl) fun base=>?_;simp only [mkA,Nat.reduceAdd]
 refine wpA_ok 0 rfl fun ok0=>?_
 refine wpA_ok 1 rfl fun ok1=>?_
 have hl:=okP_ips ok0
 have ld0:LD (σ:=Nat) 0 524080 [] (fun y_=>(fun i=>[(8,.p (.int .i64 i))]) y_) (fun y_=>(fun i=>[]) y_) (fun y_=>(fun i=>InvL (i ≤ (l).length) (True) (idxOf q (l.drop i) i=idxOf q l 0)) y_) (fun y_=>(fun i=>(l).length - i) y_) (0) [] (fun y_=>(fun i=>i < (l).length) y_) (fun y_ (h:(fun i=>i < (l).length) y_)=>(fun i (h:i < (l).length)=>i + 1) y_ h) (fun y_ (h:(fun i=>i < (l).length) y_)=>(fun i (h:i < (l).length)=>i + 1) y_ h):=⟨⟩
 exact walk⟩
theorem hof63 (l:List Int) (g:FuncId) (first cap:List P) (q:Int→Bool) [hf:∀ (i:Nat) (h:i < l.length),Cal g (first ++ .int .i64 l[i] :: cap) [.bool (q l[i])]]:Cal 63 [.lst (ips l),.fn (.func g) first cap] [.bool (l.any q)]:=⟨by
 haveI:=hof107 l g first cap q
 have msk:Msk 492 492:=⟨⟩
 refine CallP.of_bodyN 9 cfg_ok Tryz.func63 rfl rfl (by kernel_rfl) fun base=>?_;simp only [mkA,Nat.reduceAdd]
 refine wpA_ok 0 rfl fun ok0=>?_
 refine wpA_ok 1 rfl fun ok1=>?_
 have hx:decide (0 ≤ idxOf q l 0)=l.any q:=idxOf_any q l 0 (Int.le_refl 0)
 exact walk⟩
instance call63_1 (l:List Int) (g:FuncId) (c1:P) (q:Int→Bool) [hf:∀ a:Int,Cal g [(.int .i64 a),c1] [.bool (q a)]]:Cal 63 [.lst (ips l),.fn (.func g) [] [c1]] [.bool (l.any q)]:=hof63 (first:=[]) (cap:=[c1]) (q:=q) (hf:=fun i h=>hf _)
attribute [local simp] idxOf in
instance call165 (l:List Int) (x:Int):Cal 165 [.lst (ips l),.int .i64 x] [.int .i64 (idxOf (fun a=>x == a) l 0)]:=⟨by
 have msk:Msk 457804 523852:=⟨⟩
 refine CallP.of_bodyN 19 cfg_ok Tryz.func165 rfl rfl (by kernel_rfl) fun base=>?_;simp only [mkA,Nat.reduceAdd]
 refine wpA_ok 0 rfl fun ok0=>?_
 refine wpA_ok 1 rfl fun ok1=>?_
 have hl:=okP_ips ok0
 have ld0:LD (σ:=Nat) 0 524080 [] (fun y_=>(fun i=>[(8,.p (.int .i64 i))]) y_) (fun y_=>(fun i=>[]) y_) (fun y_=>(fun i=>InvL (i ≤ (l).length) (True) (idxOf (fun a=>x == a) (l.drop i) i=idxOf (fun a=>x == a) l 0)) y_) (fun y_=>(fun i=>(l).length - i) y_) (0) [] (fun y_=>(fun i=>i < (l).length) y_) (fun y_ (h:(fun i=>i < (l).length) y_)=>(fun i (h:i < (l).length)=>i + 1) y_ h) (fun y_ (h:(fun i=>i < (l).length) y_)=>(fun i (h:i < (l).length)=>i + 1) y_ h):=⟨⟩
 exact walk⟩
instance call111 (l:List Int) (x:Int):Cal 111 [.lst (ips l),.int .i64 x] [.bool (l.any fun a=>x == a)]:=⟨by
 have msk:Msk 492 492:=⟨⟩
 refine CallP.of_bodyN 9 cfg_ok Tryz.func111 rfl rfl (by kernel_rfl) fun base=>?_;simp only [mkA,Nat.reduceAdd]
 refine wpA_ok 0 rfl fun ok0=>?_
 refine wpA_ok 1 rfl fun ok1=>?_
 have hx:decide (0 ≤ idxOf (fun a=>x == a) l 0)=l.any fun a=>x == a:=idxOf_any _ l 0 (Int.le_refl 0)
 exact walk⟩
attribute [local simp] idxOf in
instance call248 (l:List Val) (x:Val):Cal 248 [.lst (Val.ps l),x.p] [.int .i64 (idxOf (fun a=>x == a) l 0)]:=⟨by
 have msk:Msk 457796 523844:=⟨⟩
 refine CallP.of_bodyN 19 cfg_ok Tryz.func248 rfl rfl (by kernel_rfl) fun base=>?_;simp only [mkA,Nat.reduceAdd]
 refine wpA_ok 0 rfl fun ok0=>?_
 refine wpA_ok 1 rfl fun ok1=>?_
 have hl:=okP_vps ok0
 have ld0:LD (σ:=Nat) 0 524080 [] (fun y_=>(fun i=>[(8,.p (.int .i64 i))]) y_) (fun y_=>(fun i=>[]) y_) (fun y_=>(fun i=>InvL (i ≤ (l).length) (True) (idxOf (fun a=>x == a) (l.drop i) i=idxOf (fun a=>x == a) l 0)) y_) (fun y_=>(fun i=>(l).length - i) y_) (0) [] (fun y_=>(fun i=>i < (l).length) y_) (fun y_ (h:(fun i=>i < (l).length) y_)=>(fun i (h:i < (l).length)=>i + 1) y_ h) (fun y_ (h:(fun i=>i < (l).length) y_)=>(fun i (h:i < (l).length)=>i + 1) y_ h):=⟨⟩
 exact walk⟩
instance call174 (l:List Val) (x:Val):Cal 174 [.lst (Val.ps l),x.p] [.bool (l.any fun a=>x == a)]:=⟨by
 have msk:Msk 484 484:=⟨⟩
 refine CallP.of_bodyN 9 cfg_ok Tryz.func174 rfl rfl (by kernel_rfl) fun base=>?_;simp only [mkA,Nat.reduceAdd]
 refine wpA_ok 0 rfl fun ok0=>?_
 refine wpA_ok 1 rfl fun ok1=>?_
 have hx:decide (0 ≤ idxOf (fun a=>x == a) l 0)=l.any fun a=>x == a:=idxOf_any _ l 0 (Int.le_refl 0)
 exact walk⟩
attribute [local simp] allKind in
instance call130 (l:List Col) (k:Int):Cal 130 [.lst (Col.ps l),.int .i64 k] [.bool (allKind k l)]:=⟨by
 have msk:Msk 261580 524236:=⟨⟩
 refine CallP.of_bodyN 19 cfg_ok Tryz.func130 rfl rfl (by kernel_rfl) fun base=>?_;simp only [mkA,Nat.reduceAdd]
 refine wpA_ok 0 rfl fun ok0=>?_
 refine wpA_ok 1 rfl fun ok1=>?_
 have hl:=okP_cps ok0
 have ld0:LD (σ:=Nat) 0 524272 [] (fun y_=>(fun i=>[(5,.p (.int .i64 i))]) y_) (fun y_=>(fun i=>[]) y_) (fun y_=>(fun i=>InvL (i ≤ (l).length) (True) (allKind k (l.drop i)=allKind k l)) y_) (fun y_=>(fun i=>(l).length - i) y_) (0) [] (fun y_=>(fun i=>i < (l).length) y_) (fun y_ (h:(fun i=>i < (l).length) y_)=>(fun i (h:i < (l).length)=>i + 1) y_ h) (fun y_ (h:(fun i=>i < (l).length) y_)=>(fun i (h:i < (l).length)=>i + 1) y_ h):=⟨⟩
 exact walk⟩
attribute [local simp] badByte in
theorem cal254 (s:ByteArray) (hs:s.size ≤ 4294967296):Cal 254 [.str s] [.bool (printable s)]:=⟨by
 have msk:Msk 524146 1048562:=⟨⟩
 refine CallP.of_bodyN 20 cfg_ok Tryz.func254 rfl rfl (by kernel_rfl) fun base=>?_;simp only [mkA,Nat.reduceAdd]
 refine wpA_ok 0 rfl fun ok0=>?_
 have hst0:Hid (∀ i,_):=⟨printFrom_eq s⟩
 have ld0:LD (σ:=Nat) 0 1048572 [] (fun y_=>(fun i=>[(3,.p (.int .i64 i))]) y_) (fun y_=>(fun i=>[]) y_) (fun y_=>(fun i=>InvL (i ≤ s.size) (True) (printFrom s i=printable s)) y_) (fun y_=>(fun i=>s.size - i) y_) (0) [] (fun y_=>(fun i=>i < s.size) y_) (fun y_ (h:(fun i=>i < s.size) y_)=>(fun i (h:i < s.size)=>i + 1) y_ h) (fun y_ (h:(fun i=>i < s.size) y_)=>(fun i (h:i < s.size)=>i + 1) y_ h):=⟨⟩
 exact walk⟩
attribute [local simp] badByte in
theorem cal321 (s:ByteArray) (hs:s.size ≤ 4294967296):Cal 321 [.str s] [.bool (printable s)]:=⟨by
 have msk:Msk 786194 1048466:=⟨⟩
 refine CallP.of_bodyN 20 cfg_ok Tryz.func321 rfl rfl (by kernel_rfl) fun base=>?_;simp only [mkA,Nat.reduceAdd]
 refine wpA_ok 0 rfl fun ok0=>?_
 have hst0:Hid (∀ i,_):=⟨printFrom_eq s⟩
 have ld0:LD (σ:=Nat) 0 1048524 [] (fun y_=>(fun i=>[(6,.p (.int .i64 i))]) y_) (fun y_=>(fun i=>[]) y_) (fun y_=>(fun i=>InvL (i ≤ s.size) (True) (printFrom s i=printable s)) y_) (fun y_=>(fun i=>s.size - i) y_) (0) [] (fun y_=>(fun i=>i < s.size) y_) (fun y_ (h:(fun i=>i < s.size) y_)=>(fun i (h:i < s.size)=>i + 1) y_ h) (fun y_ (h:(fun i=>i < s.size) y_)=>(fun i (h:i < s.size)=>i + 1) y_ h):=⟨⟩
 exact walk⟩
section
attribute [local simp] argsOf
attribute [local simp] Tryz.f305 in
instance call305 (op:Int):Cal 305 [.int .i64 op] [.int .i64 (argsOf op).1,.int .i64 (argsOf op).2]:=⟨by
 have msk:Msk 22935490 33421250:=⟨⟩
 refine CallP.of_bodyN 25 cfg_ok Tryz.func305 rfl rfl (by kernel_rfl) fun base=>?_;simp only [mkA,Nat.reduceAdd]
 exact walk⟩
end
attribute [local simp] Tryz.f88 in
instance call88 (c:Col):Cal 88 [c.p] [.bool (!(c.kind == 2))]:=⟨by
 have msk:Msk 56 56:=⟨⟩
 refine CallP.of_bodyN 6 cfg_ok Tryz.func88 rfl rfl (by kernel_rfl) fun base=>?_;simp only [mkA,Nat.reduceAdd]
 exact walk⟩
section
attribute [local simp] badCol
attribute [local simp] Tryz.f139 in
instance call139 (c:Col):Cal 139 [c.p] [.bool (badCol c)]:=⟨by
 have msk:Msk 2040 2040:=⟨⟩
 refine CallP.of_bodyN 11 cfg_ok Tryz.func139 rfl rfl (by kernel_rfl) fun base=>?_;simp only [mkA,Nat.reduceAdd]
 exact walk⟩
end
attribute [local simp] Tryz.f309 in
instance call309 (c:Col):Cal 309 [c.p] [.bool (!c.null)]:=⟨by
 have msk:Msk 56 56:=⟨⟩
 refine CallP.of_bodyN 6 cfg_ok Tryz.func309 rfl rfl (by kernel_rfl) fun base=>?_;simp only [mkA,Nat.reduceAdd]
 exact walk⟩
attribute [local simp] Tryz.f322 in
instance call322 (c:Col):Cal 322 [c.p] [.bool c.null]:=⟨by
 have msk:Msk 24 24:=⟨⟩
 refine CallP.of_bodyN 5 cfg_ok Tryz.func322 rfl rfl (by kernel_rfl) fun base=>?_;simp only [mkA,Nat.reduceAdd]
 exact walk⟩
attribute [local simp] Tryz.f323 in
instance call323 (k:Int) (c:Col):Cal 323 [c.p,.imm [.int .i64 k] 0] [.bool (!(c.kind == k))]:=⟨by
 have msk:Msk 240 240:=⟨⟩
 refine CallP.of_bodyN 8 cfg_ok Tryz.func323 rfl rfl (by kernel_rfl) fun base=>?_;simp only [mkA,Nat.reduceAdd]
 exact walk⟩
section
attribute [local simp] orderV
attribute [local simp] Tryz.f173 in
instance call173 (v w:Val):Cal 173 [v.p,w.p] [.int .i64 (orderV v w)]:=⟨by
 have msk:Msk 4194272 4194272:=⟨⟩
 refine CallP.of_bodyN 22 cfg_ok Tryz.func173 rfl rfl (by kernel_rfl) fun base=>?_;simp only [mkA,Nat.reduceAdd]
 exact walk⟩
end
end
section
attribute [local simp] nodesL Int.not_le in
instance call77 (e:Expr):Cal 77 [e.p] [.int .i64 (nodes e)]:=by
 induction hsz:e.size using Nat.strongRecOn generalizing e with
 | _ k ih=>
 subst hsz
 haveI rec77:∀ (i:Nat) (h:i < e.args.length),Cal 77 [e.args[i].p] [.int .i64 (nodes e.args[i])]:=fun i h=>ih _ (Expr.size_get h) _ rfl
 clear ih
 refine ⟨?_⟩
 have msk:Msk 33546208 33554400:=⟨⟩
 refine CallP.of_bodyN 25 cfg_ok Tryz.func77 rfl rfl (by kernel_rfl) fun base=>?_;simp only [mkA,Nat.reduceAdd]
 refine wpA_ok 0 rfl fun ok0=>?_
 have hl:=okP_args ok0
 have heq:=nodes_eq e
 have ld0:LD (σ:=Nat × Int) 0 16777208 [] (fun y_=>(fun i n=>[(4,.p (.int .i64 i)),(3,.p (.int .i64 n))]) y_.1 y_.2) (fun y_=>(fun i n=>[]) y_.1 y_.2) (fun y_=>(fun i n=>InvL (i ≤ (e.args).length) (True) (nodesL n (e.args.drop i)=nodes e)) y_.1 y_.2) (fun y_=>(fun i n=>(e.args).length - i) y_.1 y_.2) ((0,1)) [] (fun y_=>(fun i n=>i < (e.args).length) y_.1 y_.2) (fun y_ (h:(fun i n=>i < (e.args).length) y_.1 y_.2)=>(fun i n (h:i < (e.args).length)=>(i + 1,w64 (n + nodes e.args[i]))) y_.1 y_.2 h) (fun y_ (h:(fun i n=>i < (e.args).length) y_.1 y_.2)=>(fun i n (h:i < (e.args).length)=>(i + 1,w64 (n + nodes e.args[i]))) y_.1 y_.2 h):=⟨⟩
 exact walk
attribute [local simp] Tryz.f58 in
instance call58 (e:Expr):Cal 58 [e.p] [.int .i64 (nodes e)]:=⟨by
 have msk:Msk 24 24:=⟨⟩
 refine CallP.of_bodyN 5 cfg_ok Tryz.func58 rfl rfl (by kernel_rfl) fun base=>?_;simp only [mkA,Nat.reduceAdd]
 exact walk⟩
attribute [local simp] Tryz.f21 in
instance call21 (e:Expr):Cal 21 [e.p] [.bool (decide (nodes e > 400))]:=⟨by
 have msk:Msk 56 56:=⟨⟩
 refine CallP.of_bodyN 6 cfg_ok Tryz.func21 rfl rfl (by kernel_rfl) fun base=>?_;simp only [mkA,Nat.reduceAdd]
 exact walk⟩
attribute [local simp] someV in
instance call184 (l:List Val) (v:Val):Cal 184 [.lst (Val.ps l),v.p] [.bool (someV v l)]:=⟨by
 have msk:Msk 130500 262084:=⟨⟩
 refine CallP.of_bodyN 18 cfg_ok Tryz.func184 rfl rfl (by kernel_rfl) fun base=>?_;simp only [mkA,Nat.reduceAdd]
 refine wpA_ok 0 rfl fun ok0=>?_
 refine wpA_ok 1 rfl fun ok1=>?_
 have hl:=okP_vps ok0
 have ld0:LD (σ:=Nat) 0 262128 [] (fun y_=>(fun i=>[(5,.p (.int .i64 i))]) y_) (fun y_=>(fun i=>[]) y_) (fun y_=>(fun i=>InvL (i ≤ (l).length) (True) (someV v (l.drop i)=someV v l)) y_) (fun y_=>(fun i=>(l).length - i) y_) (0) [] (fun y_=>(fun i=>i < (l).length) y_) (fun y_ (h:(fun i=>i < (l).length) y_)=>(fun i (h:i < (l).length)=>i + 1) y_ h) (fun y_ (h:(fun i=>i < (l).length) y_)=>(fun i (h:i < (l).length)=>i + 1) y_ h):=⟨⟩
 exact walk⟩
section
attribute [local simp] andV
attribute [local simp] Tryz.f132 in
instance call132 (l:List Val):Cal 132 [.lst (Val.ps l)] [(andV l).p]:=⟨by
 have msk:Msk 3546 4090:=⟨⟩
 refine CallP.of_bodyN 12 cfg_ok Tryz.func132 rfl rfl (by kernel_rfl) fun base=>?_;simp only [mkA,Nat.reduceAdd]
 exact walk⟩
end
section
attribute [local simp] orVs
attribute [local simp] Tryz.f133 in
instance call133 (l:List Val):Cal 133 [.lst (Val.ps l)] [(orVs l).p]:=⟨by
 have msk:Msk 3546 4090:=⟨⟩
 refine CallP.of_bodyN 12 cfg_ok Tryz.func133 rfl rfl (by kernel_rfl) fun base=>?_;simp only [mkA,Nat.reduceAdd]
 exact walk⟩
end
attribute [local simp] colsErrL colsErr in
instance call52 (l:List Col):Cal 52 [.lst (Col.ps l)] [.int .i64 (colsErr l)]:=⟨by
 have msk:Msk 137438944690 274877906930:=⟨⟩
 refine CallP.of_bodyN 38 cfg_ok Tryz.func52 rfl rfl (by kernel_rfl) fun base=>?_;simp only [mkA,Nat.reduceAdd]
 refine wpA_ok 0 rfl fun ok0=>?_
 have hl:=okP_cps ok0
 have ld0:LD (σ:=Nat) 0 274877905932 [] (fun y_=>(fun i=>[(3,.p (.int .i64 i))]) y_) (fun y_=>(fun i=>[]) y_) (fun y_=>(fun i=>InvL (i ≤ (l).length) (True) (colsErrL (l.drop i)=colsErrL l)) y_) (fun y_=>(fun i=>(l).length - i) y_) (0) [] (fun y_=>(fun i=>i < (l).length) y_) (fun y_ (h:(fun i=>i < (l).length) y_)=>(fun i (h:i < (l).length)=>i + 1) y_ h) (fun y_ (h:(fun i=>i < (l).length) y_)=>(fun i (h:i < (l).length)=>i + 1) y_ h):=⟨⟩
 exact walk⟩
instance cal182 (v:Val):Cal 182 [v.p] [.bool (rightV v)]:=⟨by
 haveI:v.text.size ≤ 4294967296→Cal 254 [.str v.text] [.bool (printable v.text)]:=cal254 v.text
 have msk:Msk 2251765452865480 2251799813685224:=⟨⟩
 refine CallP.of_bodyN 51 cfg_ok Tryz.func182 rfl rfl (by kernel_rfl) fun base=>?_;simp only [mkA,Nat.reduceAdd]
 refine wpA_ok 0 rfl fun ok0=>?_
 by_cases hs:v.text.size ≤ 200
 ·haveI:=cal254 v.text (by omega)
  simp only [rightV,noText]
  exact walk
 ·have hs':decide ((v.text.size:Int) ≤ 200)=false:=by simp;omega
  simp only [rightV,noText]
  exact walk⟩
section
attribute [local simp] nodeR bareR nullW
attribute [local simp] Tryz.f129 in
instance call129 (e:Expr):Cal 129 [e.p] [.bool (nodeR e)]:=⟨by
 have msk:Msk 1329227359483735680218345744933822448 1329227995784915872903807060280336368:=⟨⟩
 refine CallP.of_bodyN 120 cfg_ok Tryz.func129 rfl rfl (by kernel_rfl) fun base=>?_;simp only [mkA,Nat.reduceAdd]
 exact walk⟩
end
end
section
attribute [local simp] shapedL in
instance call76 (deep:Int) (e:Expr):Cal 76 [e.p,.int .i64 deep] [.bool (shaped deep e)]:=by
 induction hsz:e.size using Nat.strongRecOn generalizing e deep with
 | _ k ih=>
 subst hsz
 haveI rec76:∀ (d:Int) (i:Nat) (h:i < e.args.length),Cal 76 [e.args[i].p,.int .i64 d] [.bool (shaped d e.args[i])]:=fun d i h=>ih _ (Expr.size_get h) d _ rfl
 clear ih
 refine ⟨?_⟩
 have msk:Msk 268300232 536870856:=⟨⟩
 refine CallP.of_bodyN 29 cfg_ok Tryz.func76 rfl rfl (by kernel_rfl) fun base=>?_;simp only [mkA,Nat.reduceAdd]
 refine wpA_ok 0 rfl fun ok0=>?_
 refine wpA_ok 1 rfl fun ok1=>?_
 have hl:=okP_args ok0
 have heq:=shaped_eq deep e
 have ld0:LD (σ:=Nat) 0 536862768 [] (fun y_=>(fun i=>[(5,.p (.int .i64 i))]) y_) (fun y_=>(fun i=>[]) y_) (fun y_=>(fun i=>InvL (i ≤ (e.args).length) (True) (shapedL (w64 (deep - 1)) (e.args.drop i)=shaped deep e)) y_) (fun y_=>(fun i=>(e.args).length - i) y_) (0) [] (fun y_=>(fun i=>i < (e.args).length) y_) (fun y_ (h:(fun i=>i < (e.args).length) y_)=>(fun i (h:i < (e.args).length)=>i + 1) y_ h) (fun y_ (h:(fun i=>i < (e.args).length) y_)=>(fun i (h:i < (e.args).length)=>i + 1) y_ h):=⟨⟩
 exact walk
section
attribute [local simp] form
attribute [local simp] Tryz.f31 in
instance call31 (e:Expr):Cal 31 [e.p] [.bool (form e)]:=⟨by
 have msk:Msk 1016 1016:=⟨⟩
 refine CallP.of_bodyN 10 cfg_ok Tryz.func31 rfl rfl (by kernel_rfl) fun base=>?_;simp only [mkA,Nat.reduceAdd]
 exact walk⟩
end
instance call38 (e:Expr):Cal 38 [e.p] [e.p]:=by
 induction hsz:e.size using Nat.strongRecOn generalizing e with
 | _ k ih=>
 subst hsz
 haveI rec38:∀ (i:Nat) (h:i < e.args.length),Cal 38 [e.args[i].p] [e.args[i].p]:=fun i h=>ih _ (Expr.size_get h) _ rfl
 clear ih
 refine ⟨?_⟩
 have msk:Msk 67106784 67108832:=⟨⟩
 refine CallP.of_bodyN 26 cfg_ok Tryz.func38 rfl rfl (by kernel_rfl) fun base=>?_;simp only [mkA,Nat.reduceAdd]
 refine wpA_ok 0 rfl fun ok0=>?_
 have hl:=okP_args ok0
 have hr:∀ i,i < e.args.length→roomFor (i + 1) 112=true:=fun i _=>roomFor_of (by omega) (by decide)
 have ld0:LD (σ:=Nat × List Expr) 0 33554320 [22] (fun y_=>(fun i acc=>[(4,.p (.int .i64 i))]) y_.1 y_.2) (fun y_=>(fun i acc=>[(3,.cells [.p (.int .i64 e.op),.p (.int .i64 e.n),.p (.int .i64 e.m),.p (.int .i64 e.kind),.p (.int .i64 e.lit.kind),.p (.int .i64 e.lit.int),.p (.str e.lit.text),.own 23 i,.p (.lst (Rel.ps e.rels))]),(23,.arr 9 (Expr.ps acc) false)]) y_.1 y_.2) (fun y_=>(fun i acc=>InvL (i ≤ (e.args).length) (acc.length=i) (acc=e.args.take i)) y_.1 y_.2) (fun y_=>(fun i acc=>(e.args).length - i) y_.1 y_.2) ((0,[])) [23] (fun y_=>(fun i acc=>i < (e.args).length) y_.1 y_.2) (fun y_ (h:(fun i acc=>i < (e.args).length) y_.1 y_.2)=>(fun i acc (h:i < (e.args).length)=>(i + 1,acc ++ [e.args[i]])) y_.1 y_.2 h) (fun y_ (h:(fun i acc=>i < (e.args).length) y_.1 y_.2)=>(fun i acc (h:i < (e.args).length)=>(i + 1,acc ++ [e.args[i]])) y_.1 y_.2 h):=⟨⟩
 set_option hygiene false in
 repeat' (first
  | (refine wpA_seqD cfg_ok mix msk (by decide +kernel) fun K hK=>?_)
  | (refine wpA_seq ?_)
  | (refine wpA_block ?_)
  | (refine thenR_normal ?_)
  | (refine thenR_ret ?_)
  | (refine thenR_exit ?_)
  | (refine blockR_normal ?_)
  | (refine blockR_ret ?_)
  | (refine blockR_same ?_)
  | (refine blockR_other rfl ?_)
  | (refine wpA_skip ?_)
  | (refine wpA_ret ?_)
  | (refine wpA_exit ?_)
  | (refine wpA_regD cfg_ok mix msk (by decide +kernel) fun K hK=>?_)
  | (refine hK.out _ _ _ _ _ (by first | (intro h;cases h;done) | (intro _;kernel_rfl)) ?_;clear hK;clear K;try simp only [dropA,Nat.reducePow,Nat.reduceDiv,Nat.reduceMod, ↓reduceIte,Nat.reduceOr,Nat.zero_ne_one])
  | (refine wpA_condD msk (by first | (simp -implicitDefEqProofs [*];done) | (simp -implicitDefEqProofs [*];rfl)) ?_;try simp only [dropA,Nat.reducePow,Nat.reduceDiv,Nat.reduceMod, ↓reduceIte,Nat.reduceOr,Nat.zero_ne_one])
  | (refine bodyR_ret (by first | (simp -implicitDefEqProofs [*];done) | (simp -implicitDefEqProofs [*];rfl)) ?_)
  | (refine bodyR_normal (by first | (simp -implicitDefEqProofs [*];done) | (simp -implicitDefEqProofs [*];rfl)) ?_)
  | (refine runM_id ?_;simp -implicitDefEqProofs)
  | (refine mV_id ?_;simp -implicitDefEqProofs [*])
  | (refine mG_id ?_;simp -implicitDefEqProofs [*])
  | (refine mD_id ?_;simp -implicitDefEqProofs [*])
  | (refine mQ_intro Cal.out ?_)
  | (refine mR_intro (fun _=>Cal.out) ?_)
  | (refine mR_no ?_)
  | (refine mQ_id ?_;simp -implicitDefEqProofs [*])
  | (refine mR_id ?_;simp -implicitDefEqProofs [*])
  | (refine goB_true ?_)
  | (refine goB_false ?_)
  | (refine headLD ld0 leS (by first | exact ⟨by first | exact Nat.zero_le _ | omega,by first | trivial | (simp -implicitDefEqProofs [*];done),by first | rfl | (simp -implicitDefEqProofs [*];done)⟩ | (simp -implicitDefEqProofs [*];done)) ?_;rintro x0 ⟨hi0,hs0,hn0⟩ ny0 nz0;(try simp only [headM,List.nil_append,List.cons_append,dropA,Nat.reducePow,Nat.reduceDiv,Nat.reduceMod, ↓reduceIte,Nat.reduceOr,Nat.zero_ne_one]);have hj0:x0.1 ≤ 4294967296:=by omega)
  | (refine headLD ld0 leS (by first | exact ⟨by first | exact Nat.zero_le _ | omega,by first | trivial | (simp -implicitDefEqProofs [*];done),by first | rfl | (simp -implicitDefEqProofs [*];done)⟩ | (simp -implicitDefEqProofs [*];done)) ?_;rintro x0 ⟨hi0,hs0,hn0⟩ ny0 nz0;(try simp only [headM,List.nil_append,List.cons_append,dropA,Nat.reducePow,Nat.reduceDiv,Nat.reduceMod, ↓reduceIte,Nat.reduceOr,Nat.zero_ne_one]);have hj0:x0 ≤ 4294967296:=by omega)
  | (refine goB_intro (fun h=>?_) (fun h=>?_) <;> (try simp only [Bool.not_eq_true',Bool.not_eq_false',Bool.not_eq_true,Bool.not_eq_false,Bool.and_eq_true,Bool.or_eq_false_iff,and_assoc,decide_eq_true_eq,decide_eq_false_iff_not,Nat.not_lt,Nat.not_le,Int.ofNat_lt,Int.ofNat_le,Int.not_lt,Int.not_le] at h) <;> (try have g:=ne_of_beqI h) <;> (repeat (have h':=And.left h;replace h:=And.right h)) <;> (try (have hz0:=Eq.symm hn0;rw [List.drop_eq_nil_of_le h] at hz0;simp -implicitDefEqProofs at hz0)) <;> (try (have hz1:=Eq.symm hn1;rw [List.drop_eq_nil_of_le h] at hz1;simp -implicitDefEqProofs at hz1)) <;> (try (have hz3:=Eq.symm hn3;rw [List.drop_eq_nil_of_le h] at hz3;simp -implicitDefEqProofs at hz3)) <;> (try (have hz0:=Eq.symm hn0;rw [hst0.out] at hz0;rw [dif_neg (by first | exact Nat.not_lt.mpr h | omega)] at hz0)) <;> (try (have hz1:=Eq.symm hn1;rw [hst1.out] at hz1;rw [dif_neg (by first | exact Nat.not_lt.mpr h | omega)] at hz1)) <;> (try (have hz2:=Eq.symm hn2;rw [hst2.out] at hz2;rw [dif_neg (by first | exact Nat.not_lt.mpr h | omega)] at hz2)) <;> (try (have hz3:=Eq.symm hn3;rw [hst3.out] at hz3;rw [dif_neg (by first | exact Nat.not_lt.mpr h | omega)] at hz3))))
 ·refine again_nx ny0 (by assumption) (by dsimp only;omega) ?_ leS
  dsimp only
  exact ⟨by omega,by simp [hs0],by rw [hn0,List.take_append_getElem]⟩
 ·simp [List.take_of_length_le h]
attribute [local simp] sameLI in
instance call22 (a b:Expr):Cal 22 [a.p,b.p] [.bool (sameE a b)]:=by
 induction hsz:a.size using Nat.strongRecOn generalizing a b with
 | _ k ih=>
 subst hsz
 haveI rec22:∀ (i:Nat) (h:i < a.args.length) (y:Expr),Cal 22 [a.args[i].p,y.p] [.bool (sameE a.args[i] y)]:=fun i h y=>ih _ (Expr.size_get h) _ y rfl
 clear ih
 refine ⟨?_⟩
 have msk:Msk 37776553962353910087616 75557863725914323419072:=⟨⟩
 refine CallP.of_bodyN 76 cfg_ok Tryz.func22 rfl rfl (by kernel_rfl) fun base=>?_;simp only [mkA,Nat.reduceAdd]
 refine wpA_ok 0 rfl fun ok0=>?_
 refine wpA_ok 1 rfl fun ok1=>?_
 have hl:=okP_args ok0
 have heq:=sameE_eq a b
 by_cases hlm:a.args.length=b.args.length
 ·have hb:∀ i,i < a.args.length→i < b.args.length:=fun i h=>by omega
  have hq:((a.args.length:Int) == (b.args.length:Int))=true:=by simp [hlm]
  have h3:=sameL_I hlm
  clear hlm
  have ld0:LD (σ:=Nat) 0 75557719610726247563312 [] (fun y_=>(fun i=>[(5,.p (.int .i64 i))]) y_) (fun y_=>(fun i=>[]) y_) (fun y_=>(fun i=>InvL (i ≤ (a.args).length) (True) (sameLI b.args i (a.args.drop i)=sameE a b)) y_) (fun y_=>(fun i=>(a.args).length - i) y_) (0) [] (fun y_=>(fun i=>i < (a.args).length) y_) (fun y_ (h:(fun i=>i < (a.args).length) y_)=>(fun i (h:i < (a.args).length)=>i + 1) y_ h) (fun y_ (h:(fun i=>i < (a.args).length) y_)=>(fun i (h:i < (a.args).length)=>i + 1) y_ h):=⟨⟩
  exact walk
 ·have hq:((a.args.length:Int) == (b.args.length:Int))=false:=by simp;omega
  clear hlm
  exact walk
end
section
theorem wl0:IntKind.wrap .i64 0=0:=rfl
theorem wl1:IntKind.wrap .i64 1=1:=rfl
theorem wl2:IntKind.wrap .i64 2=2:=rfl
theorem wl3:IntKind.wrap .i64 3=3:=rfl
theorem wl4:IntKind.wrap .i64 4=4:=rfl
theorem wl5:IntKind.wrap .i64 5=5:=rfl
theorem wl6:IntKind.wrap .i64 6=6:=rfl
theorem wl7:IntKind.wrap .i64 7=7:=rfl
theorem wl8:IntKind.wrap .i64 8=8:=rfl
theorem wl9:IntKind.wrap .i64 9=9:=rfl
theorem wl10:IntKind.wrap .i64 10=10:=rfl
theorem wl11:IntKind.wrap .i64 11=11:=rfl
theorem wl12:IntKind.wrap .i64 12=12:=rfl
theorem wl13:IntKind.wrap .i64 13=13:=rfl
theorem wl14:IntKind.wrap .i64 14=14:=rfl
theorem wl15:IntKind.wrap .i64 15=15:=rfl
theorem wl16:IntKind.wrap .i64 16=16:=rfl
theorem wl17:IntKind.wrap .i64 17=17:=rfl
theorem wl18:IntKind.wrap .i64 18=18:=rfl
theorem wl19:IntKind.wrap .i64 19=19:=rfl
theorem wl20:IntKind.wrap .i64 20=20:=rfl
def posI (n k:Int):Int:=(IntKind.wrap .u64 n).tmod k
theorem posI_nonneg (n k:Int):0 ≤ posI n k:=by
 unfold posI
 refine Int.tmod_nonneg _ ?_
 show 0 ≤ n.emod _
 exact Int.emod_nonneg _ (by decide)
theorem posI_lt (n k:Int) (h:0 < k):posI n k < k:=Int.tmod_lt_of_pos _ h
theorem wrap_of {n:Int} (h0:0 ≤ n) (h:n ≤ 4294967296):IntKind.wrap .i64 n=n:=by
 obtain ⟨k,rfl⟩:=Int.eq_ofNat_of_zero_le h0
 exact wrap_nat (by omega)
theorem wrapu_of {n:Int} (h0:0 ≤ n) (h:n ≤ 4294967296):IntKind.wrap .u64 n=n:=by
 show n.emod _=n
 exact Int.emod_eq_of_lt h0 (by show n < 18446744073709551616;omega)
theorem cal15 (n k:Int) (h:0 < k) (h2:k ≤ 4294967296):Cal 15 [.int .i64 n,.int .i64 k] [.int .i64 (posI n k)]:=⟨by
 have hk:IntKind.wrap .u64 k=k:=wrapu_of (by omega) h2
 have hk0:¬ k=0:=by omega
 have hp:IntKind.wrap .i64 ((IntKind.wrap .u64 n).tmod k)=posI n k:=wrap_of (n:=posI n k) (posI_nonneg n k) (by have:=posI_lt n k h;omega)
 have msk:Msk 2028 2028:=⟨⟩
 refine CallP.of_bodyN 11 cfg_ok Tryz.func15 rfl rfl (by kernel_rfl) fun base=>?_;simp only [mkA,Nat.reduceAdd]
 refine wpA_ok 0 rfl fun ok0=>?_
 refine wpA_ok 1 rfl fun ok1=>?_
 exact walk⟩
instance call15_2 (n:Int):Cal 15 [.int .i64 n,.int .i64 2] [.int .i64 (posI n 2)]:=cal15 n 2 (by decide) (by decide)
instance call15_3 (n:Int):Cal 15 [.int .i64 n,.int .i64 3] [.int .i64 (posI n 3)]:=cal15 n 3 (by decide) (by decide)
instance call15_16 (n:Int):Cal 15 [.int .i64 n,.int .i64 16] [.int .i64 (posI n 16)]:=cal15 n 16 (by decide) (by decide)
instance call15_1000 (n:Int):Cal 15 [.int .i64 n,.int .i64 1000] [.int .i64 (posI n 1000)]:=cal15 n 1000 (by decide) (by decide)
attribute [local simp] zeroE nullW in
attribute [local simp] Tryz.f18 in
instance call18 (e:Expr):Cal 18 [e.p] [.bool (sameE e zeroE)]:=⟨by
 have msk:Msk 56 56:=⟨⟩
 refine CallP.of_bodyN 6 cfg_ok Tryz.func18 rfl rfl (by kernel_rfl) fun base=>?_;simp only [mkA,Nat.reduceAdd]
 exact walk⟩
def twoC:List Col:=[⟨1,false⟩,⟨1,true⟩]
section
attribute [local simp] twoC
attribute [local simp] Tryz.f56 in
instance call56  : Cal 56 [] [.lst (Col.ps twoC)]:=⟨by
 have msk:Msk 14 14:=⟨⟩
 refine CallP.of_bodyN 4 cfg_ok Tryz.func56 rfl rfl (by kernel_rfl) fun base=>?_;simp only [mkA,Nat.reduceAdd]
 exact walk⟩
end
attribute [local simp] Tryz.f86 in
instance call86 (l:List Col):Cal 86 [.lst (Col.ps l)] [.bool (decide ((l.length:Int) > 0) && decide ((l.length:Int) ≤ 16) && !l.any badCol)]:=⟨by
 have msk:Msk 65530 65530:=⟨⟩
 refine CallP.of_bodyN 16 cfg_ok Tryz.func86 rfl rfl (by kernel_rfl) fun base=>?_;simp only [mkA,Nat.reduceAdd]
 exact walk⟩
end
section
attribute [local simp] wl0 wl1 wl2 wl3 wl4 wl5 wl6 wl7 wl8 wl9 wl10 wl11 wl12 wl13 wl14 wl15 wl16 wl17 wl18 wl19 wl20
attribute [local simp high] evalOp_fieldP
attribute [local simp] ty149 ty189
attribute [local simp] fldV_p fldV_agg aggP_agg aggP_col aggP_val aggP_expr
attribute [local simp] runK_nil runK_cons goG_true goG_false goC_none goC_some goV_some goV_none goD_some goD_none
def zr:List P:=[.str ⟨#[]⟩,.int .i64 0,.int .i64 0,.bool false,.lst [],.lst [],.lst [],.lst [],.lst [],.lst [],.lst [],.int .i64 0,.int .i64 0,.lst []]
mutual
def bareE:Expr→Prop
 | .mk _ _ _ _ _ args rels=>bareEs args∧∀ r ∈ rels,r.rest=zr
def bareEs:List Expr→Prop
 | []=>True
 | e :: r=>bareE e∧bareEs r
end
def fitR (l at_:Int):Bool × Int:=(!(decide (l - 1 < 0) || decide (24 < at_)),l - 1)
def fitRs (l at_:Int):List Rel→Bool × Int
 | []=>(true,l)
 | _ :: r=>if (fitR l at_).1 then fitRs (fitR l at_).2 at_ r else fitR l at_
mutual
def fitE (l at_:Int):Expr→Bool × Int
 | .mk _ _ _ _ _ args rels=>if l - 1 < 0 ∨ at_ > 24 then (false,l - 1) else if (fitEs (l - 1) (at_ + 1) args).1 then fitRs (fitEs (l - 1) (at_ + 1) args).2 (at_ + 1) rels else fitEs (l - 1) (at_ + 1) args
def fitEs (l at_:Int):List Expr→Bool × Int
 | []=>(true,l)
 | e :: r=>if (fitE l at_ e).1 then fitEs (fitE l at_ e).2 at_ r else fitE l at_ e
end
theorem fitR_pos {l at_:Int} (h:(fitR l at_).1=true):0 ≤ (fitR l at_).2∧(fitR l at_).2 ≤ l:=by
 simp [fitR] at h ⊢;omega
theorem fitRs_pos {at_:Int}:∀ {rs:List Rel} {l:Int},0 ≤ l→(fitRs l at_ rs).1=true→0 ≤ (fitRs l at_ rs).2∧(fitRs l at_ rs).2 ≤ l
 | [],l,hl,h=>⟨hl,Int.le_refl _⟩
 | r :: rs,l,hl,h=>by
  simp only [fitRs] at h ⊢
  split at h
  ·rename_i hr
   rw [if_pos hr]
   have h1:=fitR_pos hr
   have h2:=fitRs_pos h1.1 h
   omega
  ·rename_i hr;exact absurd h hr
mutual
theorem fitE_pos {at_:Int}:∀ {e:Expr} {l:Int},0 ≤ l→(fitE l at_ e).1=true→0 ≤ (fitE l at_ e).2∧(fitE l at_ e).2 ≤ l
 | .mk op n m kind lit args rels,l,hl,h=>by
  simp only [fitE] at h ⊢
  split at h
  ·cases h
  ·rename_i hc
   rw [if_neg hc]
   split at h
   ·rename_i h1
    rw [if_pos h1]
    have h2:=fitEs_pos (e:=args) (l:=l - 1) (by omega) h1
    have h3:=fitRs_pos h2.1 h
    omega
   ·rename_i h1;exact absurd h h1
theorem fitEs_pos {at_:Int}:∀ {e:List Expr} {l:Int},0 ≤ l→(fitEs l at_ e).1=true→0 ≤ (fitEs l at_ e).2∧(fitEs l at_ e).2 ≤ l
 | [],l,hl,h=>⟨hl,Int.le_refl _⟩
 | e :: r,l,hl,h=>by
  simp only [fitEs] at h ⊢
  split at h
  ·rename_i he
   rw [if_pos he]
   have h1:=fitE_pos hl he
   have h2:=fitEs_pos h1.1 h
   omega
  ·rename_i he;exact absurd h he
end
theorem bareEs_get {l:List Expr} (h:bareEs l):∀ (i:Nat) (hi:i < l.length),bareE l[i]:=by
 induction l with
 | nil=>intro i hi;simp at hi
 | cons e r ih=>
  intro i hi
  cases i with
  | zero=>exact h.1
  | succ i=>exact ih h.2 i (by simpa using hi)
theorem fitEs_nil (l at_:Int):fitEs l at_ []=(true,l):=rfl
theorem fitEs_cons (l at_:Int) (e:Expr) (r:List Expr):fitEs l at_ (e :: r)=if (fitE l at_ e).1 then fitEs (fitE l at_ e).2 at_ r else fitE l at_ e:=rfl
theorem fitRs_nil (l at_:Int):fitRs l at_ []=(true,l):=rfl
theorem fitRs_cons (l at_:Int) (e:Rel) (r:List Rel):fitRs l at_ (e :: r)=if (fitR l at_).1 then fitRs (fitR l at_).2 at_ r else fitR l at_:=rfl
attribute [local simp] fitEs_nil fitEs_cons fitRs_nil fitRs_cons
theorem callM164 (op l at_:Int) (h0:0 ≤ l) (h1:l ≤ 400) :
  CallM cfg Tryz.prog 164 [(1000,.cells [.p (.int .i64 l),.p (.int .i64 24)])] (.ref 1000 0 :: [.agg (.int .i64 op :: zr),.int .i64 at_].map .p) [.p (.bool (fitR l at_).1)] [(1000,.cells [.p (.int .i64 (fitR l at_).2),.p (.int .i64 24)])]:=by
 have hw:IntKind.wrap .i64 (l - 1)=l - 1:=wrap_i64 (by omega) (by omega)
 have hl0:([]:List Expr).length ≤ 4294967296:=by decide
 unfold fitR
 simp only [List.map_cons,List.map_nil,zr]
 have msk:Msk 431281171473627816 575968141029407400:=⟨⟩
 refine CallM.of_body cfg_ok Tryz.func164 rfl rfl fun base=>?_
 rw [show startM Tryz.f164 [.ref 1000 0,.p (.agg [.int .i64 op,.str ⟨#[]⟩,.int .i64 0,.int .i64 0,.bool false,.lst [],.lst [],.lst [],.lst [],.lst [],.lst [],.lst [],.int .i64 0,.int .i64 0,.lst []]),.p (.int .i64 at_)] [(1000,.cells [.p (.int .i64 l),.p (.int .i64 24)])]=⟨mkT 59 [(0,.ref 1000 0),(1,.p (.agg [.int .i64 op,.str ⟨#[]⟩,.int .i64 0,.int .i64 0,.bool false,.lst [],.lst [],.lst [],.lst [],.lst [],.lst [],.lst [],.int .i64 0,.int .i64 0,.lst []])),(2,.p (.int .i64 at_))],[(1000,.cells [.p (.int .i64 l),.p (.int .i64 24)])],[1000]⟩ by kernel_rfl]
 have ld0:LD (σ:=Nat) 0 35167192219968 [8] (fun y_=>(fun i=>[(34,.p (.int .i64 i))]) y_) (fun y_=>(fun i=>[]) y_) (fun y_=>(fun i=>InvL (i ≤ (([]:List Expr)).length) (True) ((0:Nat)=0)) y_) (fun y_=>(fun i=>(([]:List Expr)).length - i) y_) (0) [] (fun y_=>(fun i=>i < (([]:List Expr)).length) y_) (fun y_ (h:(fun i=>i < (([]:List Expr)).length) y_)=>(fun i (h:i < (([]:List Expr)).length)=>i + 1) y_ h) (fun y_ (h:(fun i=>i < (([]:List Expr)).length) y_)=>(fun i (h:i < (([]:List Expr)).length)=>i + 1) y_ h):=⟨⟩
 have ld1:LD (σ:=Nat) 2 576179277326713920 [10] (fun y_=>(fun i=>[(48,.p (.int .i64 i))]) y_) (fun y_=>(fun i=>[]) y_) (fun y_=>(fun i=>InvL (i ≤ (([]:List Expr)).length) (True) ((0:Nat)=0)) y_) (fun y_=>(fun i=>(([]:List Expr)).length - i) y_) (0) [] (fun y_=>(fun i=>i < (([]:List Expr)).length) y_) (fun y_ (h:(fun i=>i < (([]:List Expr)).length) y_)=>(fun i (h:i < (([]:List Expr)).length)=>i + 1) y_ h) (fun y_ (h:(fun i=>i < (([]:List Expr)).length) y_)=>(fun i (h:i < (([]:List Expr)).length)=>i + 1) y_ h):=⟨⟩
 exact walkX trivial trivial
theorem callM108_no (e:Expr) (l at_:Int) (h0:0 ≤ l) (h1:l ≤ 400) (hc:l - 1 < 0 ∨ at_ > 24) :
  CallM cfg Tryz.prog 108 [(1000,.cells [.p (.int .i64 l),.p (.int .i64 24)])] (.ref 1000 0 :: [e.p,.int .i64 at_].map .p) [.p (.bool (fitE l at_ e).1)] [(1000,.cells [.p (.int .i64 (fitE l at_ e).2),.p (.int .i64 24)])]:=by
 have hw:IntKind.wrap .i64 (l - 1)=l - 1:=wrap_i64 (by omega) (by omega)
 have e1:fitE l at_ e=(false,l - 1):=by
  obtain ⟨op,n,m,kind,lit,args,rels⟩:=e
  rw [fitE,if_pos hc]
 have hcond:(decide (l - 1 < 0) || decide (24 < at_))=true:=by simpa using hc
 simp only [List.map_cons,List.map_nil,e1]
 clear hc e1
 have msk:Msk 431281171473627816 575968141029407400:=⟨⟩
 refine CallM.of_body cfg_ok Tryz.func108 rfl rfl fun base=>?_
 rw [show startM Tryz.f108 [.ref 1000 0,.p e.p,.p (.int .i64 at_)] [(1000,.cells [.p (.int .i64 l),.p (.int .i64 24)])]=⟨mkT 59 [(0,.ref 1000 0),(1,.p e.p),(2,.p (.int .i64 at_))],[(1000,.cells [.p (.int .i64 l),.p (.int .i64 24)])],[1000]⟩ by kernel_rfl]
 exact walkX trivial trivial
attribute [local simp] zr in
attribute [local irreducible] fitE fitEs fitRs in
theorem callM108_yes (e:Expr) (l at_:Int) (h1:1 ≤ l) (h2:l ≤ 400) (h3:0 ≤ at_) (h4:at_ ≤ 24) (hr:∀ (i:Nat) (h:i < e.rels.length),e.rels[i].rest=zr) (ha:e.args.length ≤ 4294967296) (hr':e.rels.length ≤ 4294967296)
  (rec108:∀ (i:Nat) (h:i < e.args.length) (k:Int),0 ≤ k→k ≤ 400→CallM cfg Tryz.prog 108 [(1000,.cells [.p (.int .i64 k),.p (.int .i64 24)])] (.ref 1000 0 :: [e.args[i].p,.int .i64 (at_ + 1)].map .p) [.p (.bool (fitE k (at_ + 1) e.args[i]).1)] [(1000,.cells [.p (.int .i64 (fitE k (at_ + 1) e.args[i]).2),.p (.int .i64 24)])]) :
  CallM cfg Tryz.prog 108 [(1000,.cells [.p (.int .i64 l),.p (.int .i64 24)])] (.ref 1000 0 :: [e.p,.int .i64 at_].map .p) [.p (.bool (fitE l at_ e).1)] [(1000,.cells [.p (.int .i64 (fitE l at_ e).2),.p (.int .i64 24)])]:=by
 have hw:IntKind.wrap .i64 (l - 1)=l - 1:=wrap_i64 (by omega) (by omega)
 have hw2:IntKind.wrap .i64 (at_ + 1)=at_ + 1:=wrap_i64 (by omega) (by omega)
 have e1:fitE l at_ e=if (fitEs (l - 1) (at_ + 1) e.args).1 then fitRs (fitEs (l - 1) (at_ + 1) e.args).2 (at_ + 1) e.rels else fitEs (l - 1) (at_ + 1) e.args:=by
  obtain ⟨op,n,m,kind,lit,args,rels⟩:=e
  rw [fitE,if_neg (by omega)]
  rfl
 have hc1:decide (l - 1 < 0)=false:=by simp;omega
 have hc2:decide (24 < at_)=false:=by simp;omega
 have hl1:0 ≤ l - 1:=by omega
 have hl2:l - 1 ≤ 400:=by omega
 have p1:∀ (k:Int) (i:Nat) (h:i < e.args.length),0 ≤ k→(fitE k (at_ + 1) e.args[i]).1=true→0 ≤ (fitE k (at_ + 1) e.args[i]).2∧(fitE k (at_ + 1) e.args[i]).2 ≤ k:=fun k i h=>fitE_pos
 generalize hR:fitE l at_ e=R at e1
 have e2:=e1.symm
 clear e1 hR h1 h2 h3 h4
 have recH:Hid _:=⟨rec108⟩
 clear rec108
 simp only [List.map_cons,List.map_nil]
 have msk:Msk 431281171473627816 575968141029407400:=⟨⟩
 refine CallM.of_body cfg_ok Tryz.func108 rfl rfl fun base=>?_
 rw [show startM Tryz.f108 [.ref 1000 0,.p e.p,.p (.int .i64 at_)] [(1000,.cells [.p (.int .i64 l),.p (.int .i64 24)])]=⟨mkT 59 [(0,.ref 1000 0),(1,.p e.p),(2,.p (.int .i64 at_))],[(1000,.cells [.p (.int .i64 l),.p (.int .i64 24)])],[1000]⟩ by kernel_rfl]
 have ld0:LD (σ:=Nat × Int) 0 35167192219968 [8] (fun y_=>(fun i k=>[(34,.p (.int .i64 i))]) y_.1 y_.2) (fun y_=>(fun i k=>[(1000,.cells [.p (.int .i64 k),.p (.int .i64 24)])]) y_.1 y_.2) (fun y_=>(fun i k=>InvL (i ≤ (e.args).length) (0 ≤ k∧k ≤ 400) ((if (fitEs k (at_ + 1) (e.args.drop i)).1 then fitRs (fitEs k (at_ + 1) (e.args.drop i)).2 (at_ + 1) e.rels else fitEs k (at_ + 1) (e.args.drop i))=R)) y_.1 y_.2) (fun y_=>(fun i k=>(e.args).length - i) y_.1 y_.2) ((0,l - 1)) [] (fun y_=>(fun i k=>i < (e.args).length) y_.1 y_.2) (fun y_ (h:(fun i k=>i < (e.args).length) y_.1 y_.2)=>(fun i k (h:i < (e.args).length)=>(i + 1,(fitE k (at_ + 1) e.args[i]).2)) y_.1 y_.2 h) (fun y_ (h:(fun i k=>i < (e.args).length) y_.1 y_.2)=>(fun i k (h:i < (e.args).length)=>(i + 1,(fitE k (at_ + 1) e.args[i]).2)) y_.1 y_.2 h):=⟨⟩
 have st0:Stop 7:=⟨⟩
 have st1:Stop 10:=⟨⟩
 refine walkX ?_ ?_
 ·intro x0 hi0 hs0 hn0 ny0 nz0 hj0
  first | intro h' h | intro h | skip
  refine ⟨?_⟩
  clear st0 st1
  refine wpA_seqK cfg_ok fun K hK=>?_
  simp -implicitDefEqProofs [*]
  refine goX_intro (x_lend (nm:=1000) (cs:=[.int .i64 x0.2,.int .i64 24]) (cs':=[.int .i64 (fitE x0.2 (at_ + 1) e.args[x0.1]).2,.int .i64 24]) (rs:=[.bool (fitE x0.2 (at_ + 1) e.args[x0.1]).1]) (recH.out x0.1 (by assumption) x0.2 hs0.1 hs0.2) rfl (by simp -implicitDefEqProofs [callArgs,renVs,renV]) (by simp [V.namesL,V.names]) (by simp -implicitDefEqProofs)) ?_
  rintro S' rfl
  refine runK_id ?_
  simp -implicitDefEqProofs [*]
  refine hK.out _ _ ?_;clear hK;clear K
  have hx:=p1 x0.2 x0.1 (by assumption) hs0.1
  obtain ⟨hs1,hs2⟩:=hs0
  clear p1 e2 recH hw2 hl1 hl2 hw
  have hd:=hn0
  rw [List.drop_eq_getElem_cons (by assumption),fitEs_cons] at hd
  cases hq:(fitE x0.2 (at_ + 1) e.args[x0.1]).1
  ·clear hx
   simp only [hq,Bool.false_eq_true,if_false] at hd
   subst hd
   exact walkX trivial trivial
  ·obtain ⟨hx1,hx2⟩:=hx hq
   have hx3:=Int.le_trans hx2 hs2
   simp only [hq,if_true] at hd
   exact walkX trivial trivial
 ·intro x0 hi0 hs0 hn0 ny0 nz0 hj0
  first | intro h' h | intro h | skip
  refine ⟨?_⟩
  clear st0 st1 recH e2 p1 hl1 hl2 hw hc1 hc2
  obtain ⟨i0,k0⟩:=x0
  dsimp only at *
  rw [List.drop_eq_nil_of_le h,fitEs_nil,if_pos rfl] at hn0
  clear ld0 ny0 nz0 hi0 hj0
  obtain ⟨hk1,hk2⟩:=hs0
  have hn1':=hn0
  clear hn0
  refine walkX ?_ trivial
  all_goals first | intro h' h | intro h | skip
  have ld1:LD (σ:=Nat × Int) 2 576179277326713920 [10] (fun y_=>(fun i k=>[(48,.p (.int .i64 i))]) y_.1 y_.2) (fun y_=>(fun i k=>[(1000,.cells [.p (.int .i64 k),.p (.int .i64 24)])]) y_.1 y_.2) (fun y_=>(fun i k=>InvL (i ≤ (e.rels).length) (0 ≤ k∧k ≤ 400) (fitRs k (at_ + 1) (e.rels.drop i)=R)) y_.1 y_.2) (fun y_=>(fun i k=>(e.rels).length - i) y_.1 y_.2) ((0,k0)) [] (fun y_=>(fun i k=>i < (e.rels).length) y_.1 y_.2) (fun y_ (h:(fun i k=>i < (e.rels).length) y_.1 y_.2)=>(fun i k (h:i < (e.rels).length)=>(i + 1,(fitR k (at_ + 1)).2)) y_.1 y_.2 h) (fun y_ (h:(fun i k=>i < (e.rels).length) y_.1 y_.2)=>(fun i k (h:i < (e.rels).length)=>(i + 1,(fitR k (at_ + 1)).2)) y_.1 y_.2 h):=⟨⟩
  refine headLD ld1 leS ⟨Nat.zero_le _,⟨hk1,hk2⟩,hn1'⟩ ?_
  rintro x1 ⟨hi1,hs1,hn1⟩ ny1 nz1
  (try simp only [headM,List.nil_append,List.cons_append,dropA,Nat.reducePow,Nat.reduceDiv,Nat.reduceMod, ↓reduceIte,Nat.reduceOr,Nat.zero_ne_one])
  have hj1:x1.1 ≤ 4294967296:=by omega
  clear hn1'
  have st0:Stop 13:=⟨⟩
  refine walkX ?_ ?_
  all_goals first | intro h' h | intro h | skip
  ·refine ⟨?_⟩
   clear st0 ld1 nz1
   refine wpA_seqK cfg_ok fun K hK=>?_
   simp -implicitDefEqProofs [*]
   refine goX_intro (x_lend (nm:=1000) (cs:=[.int .i64 x1.2,.int .i64 24]) (cs':=[.int .i64 (fitR x1.2 (at_ + 1)).2,.int .i64 24]) (rs:=[.bool (fitR x1.2 (at_ + 1)).1]) (callM164 (e.rels[x1.1]).op x1.2 (at_ + 1) hs1.1 hs1.2) rfl (by simp -implicitDefEqProofs [callArgs,renVs,renV,zr]) (by simp [V.namesL,V.names]) (by simp -implicitDefEqProofs)) ?_
   rintro S' rfl
   refine runK_id ?_
   simp -implicitDefEqProofs [*]
   refine hK.out _ _ ?_;clear hK;clear K
   have hd:=hn1
   rw [List.drop_eq_getElem_cons (by assumption),fitRs_cons] at hd
   have hx:=@fitR_pos x1.2 (at_ + 1)
   obtain ⟨hs1,hs2⟩:=hs1
   clear hw2
   cases hq:(fitR x1.2 (at_ + 1)).1
   ·clear hx
    simp only [hq,Bool.false_eq_true,if_false] at hd
    subst hd
    (try clear hz0)
    (try clear h')
    clear hn1
    exact walkX trivial trivial
   ·obtain ⟨hx1,hx2⟩:=hx hq
    have hx3:=Int.le_trans hx2 hs2
    simp only [hq,if_true] at hd
    exact walkX trivial trivial
  ·rw [List.drop_eq_nil_of_le (by assumption),fitRs_nil] at hn1
   subst hn1
   refine bodyM_2 (by first | (simp -implicitDefEqProofs [*];done) | (simp -implicitDefEqProofs [*];rfl)) (by simp -implicitDefEqProofs) (by rfl) (by rfl)
theorem callM108:∀ (n:Nat) (e:Expr),e.size ≤ n→okP e.p→bareE e→∀ (l at_:Int),0 ≤ l→l ≤ 400→0 ≤ at_ →
  CallM cfg Tryz.prog 108 [(1000,.cells [.p (.int .i64 l),.p (.int .i64 24)])] (.ref 1000 0 :: [e.p,.int .i64 at_].map .p) [.p (.bool (fitE l at_ e).1)] [(1000,.cells [.p (.int .i64 (fitE l at_ e).2),.p (.int .i64 24)])]
 | 0,e,hn,_,_=>by
  obtain ⟨op,n,m,kind,lit,args,rels⟩:=e
  simp [Expr.size] at hn
 | n + 1,e,hn,hok,hb=>by
  intro l at_ h1 h2 h3
  by_cases hc:l - 1 < 0 ∨ at_ > 24
  ·exact callM108_no e l at_ h1 h2 hc
  have hb':=hb
  have hok':=hok
  obtain ⟨op,nn,m,kind,lit,args,rels⟩:=e
  simp only [bareE] at hb
  simp only [Expr.p,okP,okPs,eps_len,rps_len] at hok
  obtain ⟨hb1,hb2⟩:=hb
  refine callM108_yes _ l at_ (by omega) h2 h3 (by omega) (fun i h=>hb2 _ (List.getElem_mem h)) hok.2.2.2.2.2.2.2.1.1 hok.2.2.2.2.2.2.2.2.1.1 fun i h k k1 k2=>?_
  have hs:args[i].size < (Expr.mk op nn m kind lit args rels).size:=Expr.size_get (e:=Expr.mk op nn m kind lit args rels) h
  refine callM108 n _ (by omega) ?_ (bareEs_get hb1 i h) k (at_ + 1) k1 k2 (by omega)
  have h8:=hok.2.2.2.2.2.2.2.1.2
  rw [okPs_iff] at h8
  refine h8 _ ?_
  rw [Expr.ps_map]
  exact List.mem_map.2 ⟨_,List.getElem_mem h,rfl⟩
end
section
attribute [local simp] wl0 wl1 wl2 wl3 wl4 wl5 wl6 wl7 wl8 wl9 wl10 wl11 wl12 wl13 wl14 wl15 wl16 wl17 wl18 wl19 wl20
attribute [local simp high] evalOp_fieldP
attribute [local simp] ty189 ty184
attribute [local simp] fldV_p fldV_agg aggP_agg aggP_col aggP_val aggP_expr
def relB (op:Int):Rel:=⟨op,zr⟩
theorem relB_fold (op:Int):P.agg [.int .i64 op,.str ⟨#[]⟩,.int .i64 0,.int .i64 0,.bool false,.lst [],.lst [],.lst [],.lst [],.lst [],.lst [],.lst [],.int .i64 0,.int .i64 0,.lst []]=(relB op).p:=rfl
theorem rps_app (a b:List Rel):Rel.ps a ++ Rel.ps b=Rel.ps (a ++ b):=by simp [Rel.ps]
theorem rps_one (r:Rel):[r.p]=Rel.ps [r]:=rfl
def cutTxt (s:ByteArray):ByteArray:=s.extract 0 (if ((202:Int) < (s.size:Int)) then 202 else (s.size:Int)).toNat
def cutRL (i:Nat) (acc:List Rel):List Rel→List Rel
 | []=>acc
 | r :: l=>if i < 2 then cutRL (i + 1) (acc ++ [relB r.op]) l else acc
mutual
def cutE (l:Int):Expr→Expr × Int
 | .mk op n m k v args rels=>(.mk op n m k ⟨v.kind,v.int,cutTxt v.text⟩ (cutL (l - 1) [] args).1 (cutRL 0 [] rels),(cutL (l - 1) [] args).2)
def cutL (l:Int) (acc:List Expr):List Expr→List Expr × Int
 | []=>(acc,l)
 | a :: r=>if l > 0 then cutL (cutE l a).2 (acc ++ [(cutE l a).1]) r else (acc,l)
end
theorem cutE_eq (l:Int) (e:Expr):cutE l e=(.mk e.op e.n e.m e.kind ⟨e.lit.kind,e.lit.int,cutTxt e.lit.text⟩ (cutL (l - 1) [] e.args).1 (cutRL 0 [] e.rels),(cutL (l - 1) [] e.args).2):=by cases e;rfl
theorem cutL_nil (l:Int) (acc:List Expr):cutL l acc []=(acc,l):=rfl
theorem cutL_cons (l:Int) (acc:List Expr) (a:Expr) (r:List Expr):cutL l acc (a :: r)=if l > 0 then cutL (cutE l a).2 (acc ++ [(cutE l a).1]) r else (acc,l):=rfl
mutual
theorem cutE_pos:∀ {e:Expr} {l:Int},0 < l→0 ≤ (cutE l e).2∧(cutE l e).2 < l
 | .mk op n m k v args rels,l,h=>by
  simp only [cutE]
  have:=@cutL_pos args (l - 1) [] (by omega)
  omega
theorem cutL_pos:∀ {r:List Expr} {l:Int} {acc:List Expr},0 ≤ l→0 ≤ (cutL l acc r).2∧(cutL l acc r).2 ≤ l
 | [],l,acc,h=>⟨h,Int.le_refl _⟩
 | a :: r,l,acc,h=>by
  rw [cutL_cons]
  split
  ·rename_i hl
   have h1:=@cutE_pos a l hl
   have h2:=@cutL_pos r (cutE l a).2 (acc ++ [(cutE l a).1]) h1.1
   omega
  ·exact ⟨h,Int.le_refl _⟩
end
theorem bareEs_append:∀ {acc:List Expr} {a:Expr},bareEs acc→bareE a→bareEs (acc ++ [a])
 | [],a,_,h=>⟨h,trivial⟩
 | b :: r,a,hb,h=>⟨hb.1,bareEs_append hb.2 h⟩
theorem sizes_append:∀ (acc:List Expr) (a:Expr),Expr.sizes (acc ++ [a])=Expr.sizes acc + a.size
 | [],a=>by simp [Expr.sizes]
 | b :: r,a=>by simp [Expr.sizes,sizes_append r a];omega
mutual
def rawE:Expr→Prop
 | .mk _ _ _ _ _ args rels=>rawEs args∧∀ r ∈ rels,r.rest.length=14
def rawEs:List Expr→Prop
 | []=>True
 | e :: r=>rawE e∧rawEs r
end
theorem rawEs_get {l:List Expr} (h:rawEs l):∀ (i:Nat) (hi:i < l.length),rawE l[i]:=by
 induction l with
 | nil=>intro i hi;simp at hi
 | cons e r ih=>
  intro i hi
  cases i with
  | zero=>exact h.1
  | succ i=>exact ih h.2 i (by simpa using hi)
theorem relB_ok (op:Int):sizesOk 15 (Rel.ps [relB op])=true:=rfl
theorem relB_ok1 (op:Int):elemOk 15 (relB op).p=true:=rfl
attribute [local simp] cutL_nil cutL_cons cutRL relB_fold rps_app rps_one relB_ok relB_ok1
attribute [local irreducible] cutE cutL in
theorem s84 (e:Expr) (l:Int) (h1:0 < l) (h2:l ≤ 420) (hr:∀ (i:Nat) (h:i < e.rels.length),e.rels[i].rest.length=14)
  (rec84:∀ (i:Nat) (h:i < e.args.length) (k:Int),0 < k→k ≤ 420→Cal 84 [e.args[i].p,.int .i64 k] [(cutE k e.args[i]).1.p,.int .i64 (cutE k e.args[i]).2]) :
  Cal 84 [e.p,.int .i64 l] [(cutE l e).1.p,.int .i64 (cutE l e).2]:=⟨by
 have pc0:∀ {i:Nat} {h:i < e.args.length} {k:Int},(0 < k∧k ≤ 420)→CallP cfg Tryz.prog 84 [e.args[i].p,.int .i64 k] [(cutE k e.args[i]).1.p,.int .i64 (cutE k e.args[i]).2]:=fun hk=>(rec84 _ _ _ hk.1 hk.2).out
 clear rec84
 have hw:IntKind.wrap .i64 (l - 1)=l - 1:=wrap_i64 (by omega) (by omega)
 have hl1:0 ≤ l - 1:=by omega
 have hl2:l - 1 ≤ 420:=by omega
 have hs1:(0:Int) ≤ if (202:Int) < (e.lit.text.size:Int) then 202 else (e.lit.text.size:Int):=by split <;> omega
 have hs2:(if (202:Int) < (e.lit.text.size:Int) then 202 else (e.lit.text.size:Int)).toNat ≤ e.lit.text.size:=by split <;> omega
 rw [cutE_eq]
 have hp:∀ (i:Nat) (h:i < e.args.length) (k:Int),0 < k→0 ≤ (cutE k e.args[i]).2∧(cutE k e.args[i]).2 < k:=fun i h k hk=>cutE_pos hk
 have hpH:Hid _:=⟨hp⟩
 clear h1 h2 hp
 unfold cutTxt
 generalize hx:e.lit.text.extract 0 (if (202:Int) < (e.lit.text.size:Int) then 202 else (e.lit.text.size:Int)).toNat=tx
 generalize hR:cutL (l - 1) [] e.args=R
 generalize hT:cutRL 0 [] e.rels=T
 have msk:Msk 1208916596242557960189960 1208925819614629174704136:=⟨⟩
 refine CallP.of_bodyN 80 cfg_ok Tryz.func84 rfl rfl (by kernel_rfl) fun base=>?_;simp only [mkA,Nat.reduceAdd]
 refine wpA_ok 0 rfl fun ok0=>?_
 refine wpA_ok 1 rfl fun ok1=>?_
 have hln:e.args.length ≤ 4294967296:=okP_args ok0
 have ld0:LD (σ:=Nat × List Expr × Int) 0 36028796884747138 [8,51] (fun y_=>(fun i acc k=>[(7,.p (.int .i64 i)),(1,.p (.int .i64 k))]) y_.1 y_.2.1 y_.2.2) (fun y_=>(fun i acc k=>[(6,.cells [.p (.int .i64 e.op),.p (.int .i64 e.n),.p (.int .i64 e.m),.p (.int .i64 e.kind),.p (.int .i64 e.lit.kind),.p (.int .i64 e.lit.int),.p (.str tx),.own 52 i,.nils]),(52,.arr 9 (Expr.ps acc) false)]) y_.1 y_.2.1 y_.2.2) (fun y_=>(fun i acc k=>InvL (i ≤ (e.args).length) (acc.length=i∧0 ≤ k∧k ≤ 420) (cutL k acc (e.args.drop i)=R)) y_.1 y_.2.1 y_.2.2) (fun y_=>(fun i acc k=>(e.args).length - i) y_.1 y_.2.1 y_.2.2) ((0,[],l - 1)) [52] (fun y_=>(fun i acc k=>i < (e.args).length) y_.1 y_.2.1 y_.2.2) (fun y_ (h:(fun i acc k=>i < (e.args).length) y_.1 y_.2.1 y_.2.2)=>(fun i acc k (h:i < (e.args).length)=>(i + 1,acc ++ [(cutE k e.args[i]).1],(cutE k e.args[i]).2)) y_.1 y_.2.1 y_.2.2 h) (fun y_ (h:(fun i acc k=>i < (e.args).length) y_.1 y_.2.1 y_.2.2)=>(fun i acc k (h:i < (e.args).length)=>(i + 1,acc ++ [(cutE k e.args[i]).1],(cutE k e.args[i]).2)) y_.1 y_.2.1 y_.2.2 h):=⟨⟩
 have st0:Stop 8:=⟨⟩
 have st1:Stop 11:=⟨⟩
 refine walkX ?_ ?_
 ·intro x0 hi0 hs0 hn0 ny0 nz0 hj0
  first | intro h' h | intro h | skip
  refine ⟨?_⟩
  clear st0 st1 hx hs1 hs2 hw
  have hq:=hpH.out x0.1 h' x0.2.2 h
  obtain ⟨hq1,hq2⟩:=hq
  obtain ⟨hs1,hs2,hs3⟩:=hs0
  have hq3:(cutE x0.2.2 e.args[x0.1]).2 ≤ 420:=by omega
  have hd:=hn0
  rw [List.drop_eq_getElem_cons h',cutL_cons,if_pos h] at hd
  have hroom:roomFor (x0.1 + 1) 112=true:=roomFor_of (by omega) (by decide)
  exact walkX trivial trivial
 ·intro x0 hi0 hs0 hn0 ny0 nz0 hj0
  first | intro h' h | intro h | skip
  refine ⟨?_⟩
  clear st0 st1 hpH pc0
  obtain ⟨i0,acc0,k0⟩:=x0
  dsimp only at *
  have hd:R=(acc0,k0):=by
   rw [← hn0]
   by_cases hi:i0 < e.args.length
   ·have hk:¬ k0 > 0:=by
     simp only [decide_eq_true hi,Bool.true_and,decide_eq_false_iff_not] at h
     exact h
    rw [List.drop_eq_getElem_cons hi,cutL_cons,if_neg hk]
   ·rw [List.drop_eq_nil_of_le (by omega),cutL_nil]
  subst hd
  have hacc:=hs0.1
  clear hn0 hR ld0 ny0 nz0 h hi0 hj0 hs0
  have hrl:e.rels.length ≤ 4294967296:=okP_rels ok0
  have ld1:LD (σ:=Nat × List Rel) 2 302231418874860274713600 [75] (fun y_=>(fun i acc=>[(10,.p (.int .i64 i))]) y_.1 y_.2) (fun y_=>(fun i acc=>[(6,.cells [.p (.int .i64 e.op),.p (.int .i64 e.n),.p (.int .i64 e.m),.p (.int .i64 e.kind),.p (.int .i64 e.lit.kind),.p (.int .i64 e.lit.int),.p (.str tx),.own 52 i0,.own 76 i]),(76,.arr 15 (Rel.ps acc) false)]) y_.1 y_.2) (fun y_=>(fun i acc=>InvL (i ≤ e.rels.length) (acc.length=i) (cutRL i acc (e.rels.drop i)=T)) y_.1 y_.2) (fun y_=>(fun i acc=>e.rels.length - i) y_.1 y_.2) ((0,[])) [76] (fun y_=>(fun i acc=>i < e.rels.length∧i < 2) y_.1 y_.2) (fun y_ (h:(fun i acc=>i < e.rels.length∧i < 2) y_.1 y_.2)=>(fun i acc (h:i < e.rels.length∧i < 2)=>(i + 1,acc ++ [relB e.rels[i].op])) y_.1 y_.2 h) (fun y_ (h:(fun i acc=>i < e.rels.length∧i < 2) y_.1 y_.2)=>(fun i acc (h:i < e.rels.length∧i < 2)=>(i + 1,acc ++ [relB e.rels[i].op])) y_.1 y_.2 h):=⟨⟩
  have st0:Stop 14:=⟨⟩
  have st1:Stop 15:=⟨⟩
  refine walkX ?_ ?_
  ·intro x1 hi1 hs1 hn1 ny1 nz1 hj1
   first | intro h' h | intro h | skip
   refine ⟨?_⟩
   clear st0 st1
   have h2:x1.1 < 2:=by omega
   have hroom:roomFor (x1.1 + 1) 256=true:=roomFor_of (by omega) (by decide)
   have hd:=hn1
   rw [List.drop_eq_getElem_cons h',cutRL,if_pos h2] at hd
   exact walkX trivial trivial
  ·intro x1 hi1 hs1 hn1 ny1 nz1 hj1
   first | intro h' h | intro h | skip
   refine ⟨?_⟩
   clear st0 st1
   have hd:x1.2=T:=by
    rw [← hn1]
    by_cases hi:x1.1 < e.rels.length
    ·have hk:¬ x1.1 < 2:=by
      simp only [decide_eq_true hi,Bool.true_and,decide_eq_false_iff_not] at h
      omega
     rw [List.drop_eq_getElem_cons hi,cutRL,if_neg hk]
    ·rw [List.drop_eq_nil_of_le (by omega),cutRL]
   rw [← hd]
   clear ld1 hn1 hd ny1 nz1 hT
   exact walk⟩
theorem cal84:∀ (n:Nat) (e:Expr),e.size ≤ n→rawE e→∀ (l:Int),0 < l→l ≤ 420→Cal 84 [e.p,.int .i64 l] [(cutE l e).1.p,.int .i64 (cutE l e).2]
 | 0,e,hn,_=>by
  obtain ⟨op,n,m,kind,lit,args,rels⟩:=e
  simp [Expr.size] at hn
 | n + 1,e,hn,hr=>by
  intro l h1 h2
  obtain ⟨op,nn,m,kind,lit,args,rels⟩:=e
  obtain ⟨hr1,hr2⟩:=hr
  refine s84 _ l h1 h2 (fun i h=>hr2 _ (List.getElem_mem h)) fun i h k k1 k2=>?_
  have hs:args[i].size < (Expr.mk op nn m kind lit args rels).size:=Expr.size_get (e:=Expr.mk op nn m kind lit args rels) h
  exact cal84 n _ (by omega) (rawEs_get hr1 i h) k k1 k2
def cut420 (e:Expr):Expr:=(cutE 420 e).1
theorem cal46 (e:Expr) (hr:rawE e):Cal 46 [e.p] [(cut420 e).p]:=⟨by
 haveI:=cal84 e.size e (Nat.le_refl _) hr 420 (by omega) (by omega)
 unfold cut420
 clear hr
 have msk:Msk 2032 2032:=⟨⟩
 refine CallP.of_bodyN 11 cfg_ok Tryz.func46 rfl rfl (by kernel_rfl) fun base=>?_;simp only [mkA,Nat.reduceAdd]
 refine wpA_ok 0 rfl fun ok0=>?_
 exact walk⟩
mutual
theorem cutE_good:∀ {e:Expr} {l:Int},0 < l→bareE (cutE l e).1∧((cutE l e).1.size:Int) + (cutE l e).2=l
 | .mk op n m k v args rels,l,h=>by
  simp only [cutE,bareE,Expr.size]
  have h1:=@cutL_good args (l - 1) [] (by omega) trivial
  refine ⟨⟨h1.1,?_⟩,?_⟩
  ·have:∀ (rs:List Rel) (i:Nat) (acc:List Rel),(∀ r ∈ acc,r.rest=zr)→∀ r ∈ cutRL i acc rs,r.rest=zr:=by
    intro rs
    induction rs with
    | nil=>intro i acc h;exact h
    | cons r0 rs ih=>
     intro i acc h
     rw [cutRL]
     split
     ·refine ih _ _ fun r hr=>?_
      rcases List.mem_append.1 hr with h' | h'
      ·exact h r h'
      ·simp only [List.mem_singleton] at h';subst h';rfl
     ·exact h
   exact this rels 0 [] (fun r hr=>by cases hr)
  ·have:=h1.2
   simp only [Expr.sizes] at this
   omega
theorem cutL_good:∀ {r:List Expr} {l:Int} {acc:List Expr},0 ≤ l→bareEs acc→bareEs (cutL l acc r).1∧(Expr.sizes (cutL l acc r).1:Int) + (cutL l acc r).2=Expr.sizes acc + l
 | [],l,acc,h,hb=>⟨hb,rfl⟩
 | a :: r,l,acc,h,hb=>by
  rw [cutL_cons]
  split
  ·rename_i hl
   have h1:=@cutE_good a l hl
   have h0:=@cutE_pos a l hl
   have h2:=@cutL_good r (cutE l a).2 (acc ++ [(cutE l a).1]) h0.1 (bareEs_append hb h1.1)
   refine ⟨h2.1,?_⟩
   rw [h2.2,sizes_append]
   omega
  ·exact ⟨hb,rfl⟩
end
theorem cut420_good (e:Expr):bareE (cut420 e)∧(cut420 e).size ≤ 420:=by
 have h:=@cutE_good e 420 (by omega)
 have h1:=@cutE_pos e 420 (by omega)
 refine ⟨h.1,?_⟩
 unfold cut420
 omega
end
section
attribute [local simp] runK_nil runK_cons goG_true goC_none goC_some goV_some goV_none goD_some goD_none
section
variable {S:St} {o:Oper}
theorem x_slnil {ty:TypeId} {x y:Operand} {u:TypeId} {z:P} {zs:List P} (hu:Tryz.prog.underlying ty=some (.slice 29)) (ho:o.op = .binOp .eql ty x y u) (hx:opnd S.t x = .p (.lst (z :: zs))) (hy:y = .const (.slice none 0 0)) :
  XStep cfg Tryz.prog o S fun S'=>S'=S.put o.dst (.p (.bool false)) S.b S.u:=
 x_of (r:=(.p (.bool false),S.b,S.u)) fun base a w E μ hm ht=>by
  have h1:=rep_opnd ht x
  rw [hx] at h1
  have h2:=h1.inv_p
  obtain ⟨cv,hcv⟩:∃ cv,a.eval x=cv:=⟨_,rfl⟩
  rw [hcv] at h2
  cases h2 with
  | lst base' cap es f b off sz hcap hlen hb hsz hc hr=>
   have hbb:=hb (by simp)
   subst hbb
   refine Does.still hm (.bool false) (.p _ _ (.bool false)) ?_
   have:=Go.Lib.run_eql_slice_nil (P:=Tryz.prog) w ty 29 (some ⟨b,off,none⟩) (z :: zs).length cap 0 0 hu
   subst hy
   have e0:a.eval (.const (.slice none 0 0)) = .slice none 0 0:=rfl
   simp only [execOp,ho,hcv,e0,eqGuard,Sem.run_bind,Sem.run_pure,Result.andThen_ok,this]
   rw [List.length_cons] at this
   simp [this]
end
theorem binV_lst_nil (i:Option Ty) (l:List P):binV i .eql (.p (.lst l)) .nils=none:=by cases i <;> rfl
attribute [local simp] binV_lst_nil
theorem cal233 (x:Expr) (r:List Expr):Cal 233 [.lst (Expr.ps (x :: r))] [.lst (Expr.ps (x :: r))]:=⟨by
 have msk:Msk 234 250:=⟨⟩
 refine CallP.of_bodyN 8 cfg_ok Tryz.func233 rfl rfl (by kernel_rfl) fun base=>?_;simp only [mkA,Nat.reduceAdd]
 refine wpA_ok 0 rfl fun ok0=>?_
 have hok:=okP_eps ok0
 have hroom:roomFor (r.length + 1) 112=true:=roomFor_of hok (by decide)
 have st0:Stop 1:=⟨⟩
 refine walkX ?_ trivial
 all_goals first | intro h' h | intro h | skip
 refine ⟨?_⟩
 refine wpA_seqK cfg_ok fun K hK=>?_
 simp -implicitDefEqProofs
 refine goX_intro (x_slnil und26 rfl (by simp -implicitDefEqProofs [eps_cons];rfl) rfl) ?_
 rintro S' rfl
 refine runK_id ?_
 simp -implicitDefEqProofs
 refine hK.out _ _ ?_
 clear hK
 clear K
 exact walk⟩
theorem callM233 (x:Expr) (r:List Expr) (hok:r.length + 1 ≤ 4294967296):CallM cfg Tryz.prog 233 [] [.p (.lst (Expr.ps (x :: r)))] [.own 5 (r.length + 1)] [(5,.arr 9 (Expr.ps (x :: r)) false)]:=by
 refine CallM.of_body cfg_ok Tryz.func233 rfl rfl fun base=>?_
 have hroom:roomFor (r.length + 1) 112=true:=roomFor_of hok (by decide)
 have msk:Msk 234 250:=⟨⟩
 rw [show startM Tryz.f233 [.p (.lst (Expr.ps (x :: r)))] []=⟨mkT 8 [(0,.p (.lst (Expr.ps (x :: r))))],[],[]⟩ by kernel_rfl]
 have st0:Stop 1:=⟨⟩
 refine walkX ?_ trivial
 all_goals first | intro h' h | intro h | skip
 refine ⟨?_⟩
 refine wpA_seqK cfg_ok fun K hK=>?_
 simp -implicitDefEqProofs
 refine goX_intro (x_slnil und26 rfl (by simp -implicitDefEqProofs [eps_cons];rfl) rfl) ?_
 rintro S' rfl
 refine runK_id ?_
 simp -implicitDefEqProofs
 refine hK.out _ _ ?_
 clear hK
 clear K
 refine walkX ?_ trivial
 all_goals first | intro h' h | intro h | skip
 refine ⟨[.own 5 (r.length + 1)],[.own 5 (r.length + 1)],_,by simp -implicitDefEqProofs [*],by simp -implicitDefEqProofs [argM,dom];rfl,?_⟩
 exact ⟨by simp -implicitDefEqProofs [leT_nil,leT_cons,leV_refl],by simp -implicitDefEqProofs [leBs_nil,leBs_arr'],by kernel_rfl,by kernel_rfl,by kernel_rfl,by kernel_rfl,by kernel_rfl⟩
end
section
attribute [local simp] wl0 wl1 wl2 wl3 wl4 wl5 wl6 wl7 wl8 wl9 wl10 wl11 wl12 wl13 wl14 wl15 wl16 wl17 wl18 wl19 wl20
attribute [local simp high] evalOp_fieldP
attribute [local simp] fldV_p fldV_agg aggP_agg aggP_col aggP_val aggP_expr
instance call242:Cal 242 [.lst [],.lst [],.fn (.func 243) [] []] [.bool true]:=⟨by
 have msk:Msk 3220716600 4294736952:=⟨⟩
 refine CallP.of_bodyN 32 cfg_ok Tryz.func242 rfl rfl (by kernel_rfl) fun base=>?_;simp only [mkA,Nat.reduceAdd]
 refine wpA_ok 0 rfl fun ok0=>?_
 refine wpA_ok 1 rfl fun ok1=>?_
 refine wpA_ok 2 rfl fun ok2=>?_
 have ld0:LD (σ:=Nat) 0 4294837184 [8,9] (fun y_=>(fun i=>[(17,.p (.int .i64 i))]) y_) (fun y_=>(fun i=>[]) y_) (fun y_=>(fun i=>InvL (i ≤ 5) (True) ((0:Nat)=0)) y_) (fun y_=>(fun i=>5 - i) y_) (0) [] (fun y_=>(fun i=>i < 0) y_) (fun y_ (h:(fun i=>i < 0) y_)=>(fun i (h:i < 0)=>i + 1) y_ h) (fun y_ (h:(fun i=>i < 0) y_)=>(fun i (h:i < 0)=>i + 1) y_ h):=⟨⟩
 exact walk⟩
instance call155:Cal 155 [.lst [],.fn (.func 156) [] []] [.lst []]:=⟨by
 have msk:Msk 4190284 4192332:=⟨⟩
 refine CallP.of_bodyN 22 cfg_ok Tryz.func155 rfl rfl (by kernel_rfl) fun base=>?_;simp only [mkA,Nat.reduceAdd]
 refine wpA_ok 0 rfl fun ok0=>?_
 refine wpA_ok 1 rfl fun ok1=>?_
 have ld0:LD (σ:=Nat) 0 2096288 [7,18] (fun y_=>(fun i=>[(10,.p (.int .i64 i)),(5,.nils)]) y_) (fun y_=>(fun i=>[]) y_) (fun y_=>(fun i=>InvL (i ≤ 5) (True) ((0:Nat)=0)) y_) (fun y_=>(fun i=>5 - i) y_) (0) [] (fun y_=>(fun i=>i < 0) y_) (fun y_ (h:(fun i=>i < 0) y_)=>(fun i (h:i < 0)=>i + 1) y_ h) (fun y_ (h:(fun i=>i < 0) y_)=>(fun i (h:i < 0)=>i + 1) y_ h):=⟨⟩
 exact walk⟩
end
section
attribute [local simp] wl0 wl1 wl2 wl3 wl4 wl5 wl6 wl7 wl8 wl9 wl10 wl11 wl12 wl13 wl14 wl15 wl16 wl17 wl18 wl19 wl20
attribute [local simp high] evalOp_fieldP
attribute [local simp] fldV_p fldV_agg aggP_agg aggP_col aggP_val aggP_expr
def isW (v:Val):Bool:=
 if v.kind == 0 then v.int == 0 && noText v.text else if v.kind == 1 then noText v.text else if v.kind == 2 then noText v.text && (v.int == 0 || v.int == 1)
 else if v.kind == 3 then (v.int == 0 && decide ((v.text.size:Int) ≤ 200)) && printable v.text else false
theorem isW_eq (v:Val):isW v=rightV v:=by
 unfold isW rightV
 split
 ·rfl
 split
 ·rfl
 split
 ·rw [Bool.and_comm]
 rfl
theorem cal306 (v:Val):Cal 306 [v.p] [.bool (isW v)]:=⟨by
 have msk:Msk 2251765452865480 2251799813685224:=⟨⟩
 refine CallP.of_bodyN 51 cfg_ok Tryz.func306 rfl rfl (by kernel_rfl) fun base=>?_;simp only [mkA,Nat.reduceAdd]
 refine wpA_ok 0 rfl fun ok0=>?_
 by_cases hs:v.text.size ≤ 200
 ·haveI:=cal321 v.text (by omega)
  simp only [isW,noText]
  exact walk
 ·have hs':decide ((v.text.size:Int) ≤ 200)=false:=by simp;omega
  simp only [isW,noText]
  exact walk⟩
def mx (a c:Int):Int:=if c > a then c else a
def mn (a c:Int):Int:=if c < a then c else a
def nodeW (e:Expr):Bool:=
 if ((((decide (e.op < 1) || decide (e.op > 28)) || decide ((e.args.length:Int) < (argsOf e.op).1)) || decide ((e.args.length:Int) > (argsOf e.op).2)) || (e.op == 24 && (e.args.length:Int).tmod 2 == 0)) then false
 else if ((decide (e.op ≥ 26) != ((e.rels.length:Int) == 1)) || decide ((e.rels.length:Int) > 1)) then false
 else if e.op == 1 then (((e.n == mx e.n 0 && e.m == 0) && e.kind == 0) && e.lit == nullW)
 else if e.op == 2 then (((e.n == mx e.n 1 && e.m == mx e.m 0) && e.kind == 0) && e.lit == nullW)
 else if e.op == 3 then (if !rightV e.lit || (!(e.lit.kind == 0) && !(e.lit.kind == e.kind)) then false else (((e.n == 0 && e.m == 0) && e.kind == mn (mx e.kind 1) 3) && e.lit == e.lit))
 else if e.op == 26 || e.op == 27 || e.op == 28 then (((e.n == mx e.n 1 && e.m == 0) && e.kind == 0) && e.lit == nullW)
 else (((e.n == 0 && e.m == 0) && e.kind == 0) && e.lit == nullW)
instance call306 (v:Val):Cal 306 [v.p] [.bool (rightV v)]:=isW_eq v ▸ cal306 v
attribute [local simp] nodeW mx mn nullW in
theorem cal261 (e:Expr):Cal 261 [e.p] [.bool (nodeW e)]:=⟨by
 have msk:Msk 11150372598291755907372310216793453901119232 11150372598616274463450987236013795002285824:=⟨⟩
 refine CallP.of_bodyN 143 cfg_ok Tryz.func261 rfl rfl (by kernel_rfl) fun base=>?_;simp only [mkA,Nat.reduceAdd]
 refine wpA_ok 0 rfl fun ok0=>?_
 exact walk⟩
end
end Go.Proofs.YtgiedlcjlalpcaaGreat
