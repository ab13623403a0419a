/- Part of a proof: I2 I3 I4. -/
import Derived.Test.YtgiedlcjlalpcaaGreatPb07
import Derived.Test.YtgiedlcjlalpcaaGreatPb08
import Derived.Test.YtgiedlcjlalpcaaGreatPb09
set_option linter.all false
namespace Go.Proofs.YtgiedlcjlalpcaaGreat
open Go.Abs
set_option maxRecDepth 100000
set_option maxHeartbeats 4000000
attribute [local irreducible] wpA Again LeJ
attribute [local simp high] mkT_getD
attribute [local simp] runM_nil runM_cons mG_some mC_none mC_un mC_gd mV_some mV_none mD_some mP_some mP_none pickV_bool pickV_int specE_pick specE_move specE_assign specE_alloc specE_box specE_build specE_buildSlice specE_load specE_store specE_nilCheck specE_binOp specE_unOp specE_convert specE_makeFunc specE_slice specE_fieldAddr specE_field specE_indexAddr specE_index specE_extract specE_call cond_false_r cond_true_m callPure touches_move touches_assign touches_box touches_load touches_nilCheck touches_unOp touches_convert touches_fieldAddr touches_field touches_extract touches_pick touches_store touches_binOp touches_indexAddr touches_index touches_alloc touches_build touches_buildSlice touches_makeFunc touches_slice touches_call touches_builtin V.names V.namesL callOf_fn callOf_builtin callOf callResW cfg_imp wantedA evalOp_move evalOp_assign evalOp_pick evalOp_alloc evalOp_box evalOp_build evalOp_buildSlice evalOp_load evalOp_store evalOp_nilCheck evalOp_binOp evalOp_unOp evalOp_convert evalOp_makeFunc evalOp_slice evalOp_fieldAddr evalOp_field evalOp_indexAddr evalOp_index evalOp_extract evalOp_builtin opnd_tmp opnd_const opnd_func headM dropA mkT_set mkT_idx mkT_get mkT_len lookA more_true more_false constV boolV St.put getB setB V.cells cells_agg cells_int cells_bool cells_str cells_lst cells_fn cells_nilp cells_nilf cells_nilm cells_imm cells_obj cells_imap mkAgg mkFn allP partV partP placesOf fillV spliceV Ty.agg oneV oneP natOf binV_int binV_str binV_bool_eql binV_ptr_nil_eql binV_ptr_imm_eql binV_ptr_obj_eql binV_ptr_ref_eql binV_func_nil_eql binV_func_fn_eql binV_func_fv_eql binV_bool_neq binV_ptr_nil_neq binV_ptr_imm_neq binV_ptr_obj_neq binV_ptr_ref_neq binV_func_nil_neq binV_func_fn_neq binV_func_fv_neq intBin strBin cfg_ty callRes toP toPs resV addedP appendV partsToP resultPs resultVs St.head roomFor_of wrap_succ wrap_nat sizesOk_nil sizesOk_cons elemOk_int elemOk_bool elemOk_str elemOk_lst elemOk_fn List.getElem?_eq_getElem bne w64 val_cells val_fold val_eta col_cells col_fold col_eta rel_cells expr_cells expr_fold expr_fold0 expr_fold1 expr_fold2 expr_eta expr_op expr_n expr_m expr_kind expr_lit expr_args expr_rels eps_nil eps_len eps_get eps_app eps_take eps_drop eps_ok vps_nil vps_len vps_get vps_app vps_take vps_drop vps_ok cps_nil cps_len cps_get cps_app cps_take cps_drop cps_ok rps_nil rps_len rps_get eps_idx vps_idx cps_idx rps_idx ips_nil ips_len ips_get ips_idx ips_ok elemOk_e elemOk_v elemOk_c ips_app ips_take ips_drop el1 ea1 es1 el2 ea2 es2 el3 ea3 es3 elc eac vl1 va1 vs1 vl2 va2 vs2 vl3 va3 vs3 vlc vac cl1 ca1 cs1 cl2 ca2 cs2 cl3 ca3 cs3 clc cac il1 ia1 is1 il2 ia2 is2 il3 ia3 is3 ilc iac binV_val_eql binV_val_neq binV_col_eql ty2 ty3 ty4 ty5 ty9 ty22 ty23 ty25 ty26 ty27 ty29 ty30 ty34 ty43 ty52 ty57 ty61 ty75 ty86 ty87 ty102 ty131 ty132 ty134 ty135 ty137 ty138 ty141 ty149 ty152 ty156 ty159 ty160 ty172 ty176 ty184 ty185 ty186 ty187 ty189 ty204 ty211 ty221 ty222 ty242 ty259
section
attribute [local simp] wl0 wl1 wl2 wl3 wl4 wl5 wl6 wl7 wl8 wl9 wl10 wl11 wl12 wl13 wl14 wl15 wl16 wl17 wl18 wl19 wl20
attribute [local simp high] evalOp_fieldP
attribute [local simp] ty156 ty159 ty160 ty162 ty204 ty61
attribute [local simp] fldV_p fldV_agg aggP_agg aggP_col aggP_val aggP_expr
def testP (c op:Int) (v:Val):P:=.agg [.int .i64 c,.int .i64 op,.int .i64 v.kind,.int .i64 v.int,.str v.text]
structure Bnd where
 v:Val
 st:Bool
 deriving DecidableEq
structure Span where
 low:Option Bnd
 high:Option Bnd
 out:List Val
 empty:Bool
def bndC (b:Bnd):List P:=[.int .i64 b.v.kind,.int .i64 b.v.int,.str b.v.text,.bool b.st]
def bndP:Option Bnd→P
 | none=>.nilp
 | some b=>.imm (bndC b) 0
def spanC (s:Span):List P:=[bndP s.low,bndP s.high,.lst (Val.ps s.out),.bool s.empty]
def spanP (s:Span):P:=.imm (spanC s) 0
def noneS (s:Span):Bool:=
 if s.empty then true else match s.low,s.high with
 | some l,some h=>decide (orderV l.v h.v > 0) || (orderV l.v h.v == 0 && ((l.st || h.st) || s.out.any fun x=>l.v == x))
 | _,_=>false
attribute [local simp] noneS in
theorem cal117 (s:Span):Cal 117 [spanP s] [.bool (noneS s)]:=⟨by
 obtain ⟨lo,hi,out,em⟩:=s
 unfold spanP spanC bndP
 rcases lo with _ | ⟨⟨lk,li,lt⟩,ls⟩ <;> rcases hi with _ | ⟨⟨hk,hi,ht⟩,hs⟩
 ·simp only
  have msk:Msk 9444732965739289902962 9444732965739290427378:=⟨⟩
  refine CallP.of_bodyN 73 cfg_ok Tryz.func117 rfl rfl (by kernel_rfl) fun base=>?_;simp only [mkA,Nat.reduceAdd]
  refine wpA_ok 0 rfl fun ok0=>?_
  exact walk
 ·simp only [bndC]
  have msk:Msk 9444732965739289902962 9444732965739290427378:=⟨⟩
  refine CallP.of_bodyN 73 cfg_ok Tryz.func117 rfl rfl (by kernel_rfl) fun base=>?_;simp only [mkA,Nat.reduceAdd]
  refine wpA_ok 0 rfl fun ok0=>?_
  exact walk
 ·simp only [bndC]
  have msk:Msk 9444732965739289902962 9444732965739290427378:=⟨⟩
  refine CallP.of_bodyN 73 cfg_ok Tryz.func117 rfl rfl (by kernel_rfl) fun base=>?_;simp only [mkA,Nat.reduceAdd]
  refine wpA_ok 0 rfl fun ok0=>?_
  exact walk
 ·simp only [bndC]
  have msk:Msk 9444732965739289902962 9444732965739290427378:=⟨⟩
  refine CallP.of_bodyN 73 cfg_ok Tryz.func117 rfl rfl (by kernel_rfl) fun base=>?_;simp only [mkA,Nat.reduceAdd]
  refine wpA_ok 0 rfl fun ok0=>?_
  exact walk⟩
def underS (s:Span) (v:Val):Bool:=match s.high with | some h=>decide (orderV h.v v < 0) || (h.v == v && h.st) | none=>false
def overS (s:Span) (v:Val):Bool:=match s.low with | some l=>decide (orderV l.v v > 0) || (l.v == v && l.st) | none=>false
def bndIs (b:Bnd) (v:Val):Bool:=b.v.kind == v.kind && (b.v.int == v.int && (b.v.text == v.text && (b.st == false && true)))
theorem binV_bnd_eql (k:TK) (n b:Nat) (z:List V) (x1 x2 y1 y2:Int) (x3 y3:ByteArray) (x4 y4:Bool):binV (some ⟨k,n,b,z,[.int .i64,.int .i64,.str,.bool]⟩) .eql (.p (.agg [.int .i64 x1,.int .i64 x2,.str x3,.bool x4])) (.p (.agg [.int .i64 y1,.int .i64 y2,.str y3,.bool y4]))=some (.p (.bool (x1 == y1 && (x2 == y2 && (x3 == y3 && (x4 == y4 && true)))))):=by
 simp [binV,eqV,eqCells]
theorem binV_no1 (t:Option Ty) (a:Bool) (k:IntKind) (n:Int):binV t .lss (.p (.bool a)) (.p (.int k n))=none:=rfl
theorem binV_no2 (t:Option Ty) (a:Bool) (k:IntKind) (n:Int):binV t .gtr (.p (.bool a)) (.p (.int k n))=none:=rfl
theorem binV_no3 (t:Option Ty) (a:Bool) (v:Val):binV t .eql (.p (.bool a)) (.p v.p)=none:=rfl
theorem binV_no4 (t:Option Ty) (a:Bool) (l:List P):binV t .eql (.p (.bool a)) (.p (.agg l))=none:=rfl
attribute [local simp] binV_bnd_eql binV_no1 binV_no2 binV_no3 binV_no4
def liesS (s:Span) (op:Int) (v:Val):Bool:=
 if op == 12 then (match s.low,s.high with | some l,some h=>bndIs l v && bndIs h v | _,_=>false)
 else if op == 13 then (underS s v || overS s v) || s.out.any fun x=>v == x
 else if op == 14 then underS s v
 else if op == 15 then underS s v || (match s.high with | some h=>h.v == v | none=>false)
 else if op == 16 then overS s v
 else overS s v || (match s.low with | some l=>l.v == v | none=>false)
attribute [local simp] runK_nil runK_cons goG_true goG_false goC_none goC_some goV_some goV_none goD_some goD_none
attribute [local simp] liesS underS overS bndIs in
theorem cal250 (s:Span) (c op:Int) (v:Val):Cal 250 [spanP s,testP c op v] [.bool (liesS s op v)]:=⟨by
 obtain ⟨lo,hi,out,em⟩:=s
 unfold spanP spanC bndP testP
 rcases lo with _ | ⟨⟨lk,li,lt⟩,ls⟩ <;> rcases hi with _ | ⟨⟨hk,hi,ht⟩,hs⟩
 ·simp only [bndC]
  have msk:Msk 392318811693602608939133987091697968553524386855299055492 392318858461667547739736838950401779753941879011820961668:=⟨⟩
  refine CallP.of_bodyN 188 cfg_ok Tryz.func250 rfl rfl (by kernel_rfl) fun base=>?_;simp only [mkA,Nat.reduceAdd]
  refine wpA_ok 0 rfl fun ok0=>?_
  refine wpA_ok 1 rfl fun ok1=>?_
  have st0:Stop 2:=⟨⟩
  have hno:NoV (-1):=⟨⟩
  refine walkX ?_ trivial
  all_goals first | intro h' h | intro h | skip
  refine ⟨?_⟩
  clear st0
  have hno:NoV (1):=⟨⟩
  exact walkX trivial trivial
 ·simp only [bndC]
  have msk:Msk 392318811693602608939133987091697968553524386855299055492 392318858461667547739736838950401779753941879011820961668:=⟨⟩
  refine CallP.of_bodyN 188 cfg_ok Tryz.func250 rfl rfl (by kernel_rfl) fun base=>?_;simp only [mkA,Nat.reduceAdd]
  refine wpA_ok 0 rfl fun ok0=>?_
  refine wpA_ok 1 rfl fun ok1=>?_
  have hno:NoV (1):=⟨⟩
  exact walkX trivial trivial
 ·simp only [bndC]
  have msk:Msk 392318811693602608939133987091697968553524386855299055492 392318858461667547739736838950401779753941879011820961668:=⟨⟩
  refine CallP.of_bodyN 188 cfg_ok Tryz.func250 rfl rfl (by kernel_rfl) fun base=>?_;simp only [mkA,Nat.reduceAdd]
  refine wpA_ok 0 rfl fun ok0=>?_
  refine wpA_ok 1 rfl fun ok1=>?_
  have hno:NoV (-1):=⟨⟩
  exact walkX trivial trivial
 ·simp only [bndC]
  have msk:Msk 392318811693602608939133987091697968553524386855299055492 392318858461667547739736838950401779753941879011820961668:=⟨⟩
  refine CallP.of_bodyN 188 cfg_ok Tryz.func250 rfl rfl (by kernel_rfl) fun base=>?_;simp only [mkA,Nat.reduceAdd]
  refine wpA_ok 0 rfl fun ok0=>?_
  refine wpA_ok 1 rfl fun ok1=>?_
  exact walk⟩
end
section
attribute [local simp] wl0 wl1 wl2 wl3 wl4 wl5 wl6 wl7 wl8 wl9 wl10 wl11 wl12 wl13 wl14 wl15 wl16 wl17 wl18 wl19 wl20
attribute [local simp high] evalOp_fieldP
attribute [local simp] ty156 ty159 ty160 ty162 ty204 ty61
attribute [local simp] fldV_p fldV_agg aggP_agg aggP_col aggP_val aggP_expr
def cutLow (s:Span) (b:Bnd):Span:=match s.low with
 | none=>{ s with low:=some b }
 | some l=>if decide (orderV b.v l.v > 0) || (b.v == l.v && b.st) then { s with low:=some b } else s
def cutHigh (s:Span) (b:Bnd):Span:=match s.high with
 | none=>{ s with high:=some b }
 | some l=>if decide (orderV b.v l.v < 0) || (b.v == l.v && b.st) then { s with high:=some b } else s
theorem binV_no5 (fs:List (Nat × TypeId)) (n b:Nat) (z:List V) (e:List TK) (x y:Bool):binV (some ⟨.struct fs,n,b,z,e⟩) .eql (.p (.bool x)) (.p (.bool y))=none:=rfl
theorem binV_no6 (t:Option Ty) (a:Bool) (v:Val):binV t .eql (.p v.p) (.p (.bool a))=none:=rfl
attribute [local simp] binV_no1 binV_no2 binV_no3 binV_no4 binV_no5 binV_no6
theorem bndP_none:bndP none = .nilp:=rfl
theorem bndP_some (b:Bnd):bndP (some b) = .imm (bndC b) 0:=rfl
attribute [local simp] runK_nil runK_cons goG_true goG_false goC_none goC_some goV_some goV_none goD_some goD_none
theorem callM171 (s:Span) (b:Bnd):CallM cfg Tryz.prog 171 [(1000,.cells ((spanC s).map .p))] [.ref 1000 0,.p (.agg (bndC b))] ([].map .p) [(1000,.cells ((spanC (cutLow s b)).map .p))]:=by
 obtain ⟨lo,hi,out,em⟩:=s
 obtain ⟨bv,bs⟩:=b
 have fz0:FZ 2 3:=⟨⟩
 rcases lo with _ | ⟨lv,ls⟩
 ·simp only [spanC,cutLow,bndP_none,bndP_some,List.map_cons,List.map_nil]
  generalize bndP hi=hP
  generalize Val.ps out=outP
  simp only [bndC]
  have msk:Msk 2061584302068 2199023255540:=⟨⟩
  refine CallM.of_body cfg_ok Tryz.func171 rfl rfl fun base=>?_
  rw [show startM Tryz.f171 [.ref 1000 0,.p (.agg [.int .i64 bv.kind,.int .i64 bv.int,.str bv.text,.bool bs])] [(1000,.cells [.p (.nilp),.p hP,.p (.lst outP),.p (.bool em)])]=⟨mkT 41 [(0,.ref 1000 0),(1,.p (.agg [.int .i64 bv.kind,.int .i64 bv.int,.str bv.text,.bool bs]))],[(1000,.cells [.p (.nilp),.p hP,.p (.lst outP),.p (.bool em)])],[1000]⟩ by kernel_rfl]
  exact walkX trivial trivial
  all_goals (refine bodyM_normal (bodyM_of rfl rfl trivial ?_ (by rfl) (by rfl) (by rfl));simp [getB,leK,leT,leV])
 ·simp only [spanC,cutLow,bndP_none,bndP_some,List.map_cons,List.map_nil]
  generalize hc:(decide (orderV bv lv > 0) || (bv == lv && bs))=q
  have hc2:(decide (0 < orderV bv lv) || (bv == lv && bs))=q:=by rw [← hc]
  clear hc
  cases q
  ·simp only [Bool.false_eq_true,if_true,if_false,bndP_some]
   generalize bndP hi=hP
   generalize Val.ps out=outP
   simp only [bndC]
   have msk:Msk 2061584302068 2199023255540:=⟨⟩
   refine CallM.of_body cfg_ok Tryz.func171 rfl rfl fun base=>?_
   rw [show startM Tryz.f171 [.ref 1000 0,.p (.agg [.int .i64 bv.kind,.int .i64 bv.int,.str bv.text,.bool bs])] [(1000,.cells [.p (.imm [.int .i64 lv.kind,.int .i64 lv.int,.str lv.text,.bool ls] 0),.p hP,.p (.lst outP),.p (.bool em)])]=⟨mkT 41 [(0,.ref 1000 0),(1,.p (.agg [.int .i64 bv.kind,.int .i64 bv.int,.str bv.text,.bool bs]))],[(1000,.cells [.p (.imm [.int .i64 lv.kind,.int .i64 lv.int,.str lv.text,.bool ls] 0),.p hP,.p (.lst outP),.p (.bool em)])],[1000]⟩ by kernel_rfl]
   exact walkX trivial trivial
   all_goals (refine bodyM_normal (bodyM_of rfl rfl trivial ?_ (by rfl) (by rfl) (by rfl));simp [getB,leK,leT,leV])
  ·simp only [Bool.false_eq_true,if_true,if_false,bndP_some]
   generalize bndP hi=hP
   generalize Val.ps out=outP
   simp only [bndC]
   have msk:Msk 2061584302068 2199023255540:=⟨⟩
   refine CallM.of_body cfg_ok Tryz.func171 rfl rfl fun base=>?_
   rw [show startM Tryz.f171 [.ref 1000 0,.p (.agg [.int .i64 bv.kind,.int .i64 bv.int,.str bv.text,.bool bs])] [(1000,.cells [.p (.imm [.int .i64 lv.kind,.int .i64 lv.int,.str lv.text,.bool ls] 0),.p hP,.p (.lst outP),.p (.bool em)])]=⟨mkT 41 [(0,.ref 1000 0),(1,.p (.agg [.int .i64 bv.kind,.int .i64 bv.int,.str bv.text,.bool bs]))],[(1000,.cells [.p (.imm [.int .i64 lv.kind,.int .i64 lv.int,.str lv.text,.bool ls] 0),.p hP,.p (.lst outP),.p (.bool em)])],[1000]⟩ by kernel_rfl]
   exact walkX trivial trivial
   all_goals (refine bodyM_normal (bodyM_of rfl rfl trivial ?_ (by rfl) (by rfl) (by rfl));simp [getB,leK,leT,leV])
theorem callM172 (s:Span) (b:Bnd):CallM cfg Tryz.prog 172 [(1000,.cells ((spanC s).map .p))] [.ref 1000 0,.p (.agg (bndC b))] ([].map .p) [(1000,.cells ((spanC (cutHigh s b)).map .p))]:=by
 obtain ⟨lo,hi,out,em⟩:=s
 obtain ⟨bv,bs⟩:=b
 have fz0:FZ 2 3:=⟨⟩
 rcases hi with _ | ⟨lv,ls⟩
 ·simp only [spanC,cutHigh,bndP_none,bndP_some,List.map_cons,List.map_nil]
  generalize bndP lo=hP
  generalize Val.ps out=outP
  simp only [bndC]
  have msk:Msk 2061584302068 2199023255540:=⟨⟩
  refine CallM.of_body cfg_ok Tryz.func172 rfl rfl fun base=>?_
  rw [show startM Tryz.f172 [.ref 1000 0,.p (.agg [.int .i64 bv.kind,.int .i64 bv.int,.str bv.text,.bool bs])] [(1000,.cells [.p hP,.p (.nilp),.p (.lst outP),.p (.bool em)])]=⟨mkT 41 [(0,.ref 1000 0),(1,.p (.agg [.int .i64 bv.kind,.int .i64 bv.int,.str bv.text,.bool bs]))],[(1000,.cells [.p hP,.p (.nilp),.p (.lst outP),.p (.bool em)])],[1000]⟩ by kernel_rfl]
  exact walkX trivial trivial
  all_goals (refine bodyM_normal (bodyM_of rfl rfl trivial ?_ (by rfl) (by rfl) (by rfl));simp [getB,leK,leT,leV])
 ·simp only [spanC,cutHigh,bndP_none,bndP_some,List.map_cons,List.map_nil]
  generalize hc:(decide (orderV bv lv < 0) || (bv == lv && bs))=q
  have hc2:(decide (orderV bv lv < 0) || (bv == lv && bs))=q:=by rw [← hc]
  clear hc
  cases q
  ·simp only [Bool.false_eq_true,if_true,if_false,bndP_some]
   generalize bndP lo=hP
   generalize Val.ps out=outP
   simp only [bndC]
   have msk:Msk 2061584302068 2199023255540:=⟨⟩
   refine CallM.of_body cfg_ok Tryz.func172 rfl rfl fun base=>?_
   rw [show startM Tryz.f172 [.ref 1000 0,.p (.agg [.int .i64 bv.kind,.int .i64 bv.int,.str bv.text,.bool bs])] [(1000,.cells [.p hP,.p (.imm [.int .i64 lv.kind,.int .i64 lv.int,.str lv.text,.bool ls] 0),.p (.lst outP),.p (.bool em)])]=⟨mkT 41 [(0,.ref 1000 0),(1,.p (.agg [.int .i64 bv.kind,.int .i64 bv.int,.str bv.text,.bool bs]))],[(1000,.cells [.p hP,.p (.imm [.int .i64 lv.kind,.int .i64 lv.int,.str lv.text,.bool ls] 0),.p (.lst outP),.p (.bool em)])],[1000]⟩ by kernel_rfl]
   exact walkX trivial trivial
   all_goals (refine bodyM_normal (bodyM_of rfl rfl trivial ?_ (by rfl) (by rfl) (by rfl));simp [getB,leK,leT,leV])
  ·simp only [Bool.false_eq_true,if_true,if_false,bndP_some]
   generalize bndP lo=hP
   generalize Val.ps out=outP
   simp only [bndC]
   have msk:Msk 2061584302068 2199023255540:=⟨⟩
   refine CallM.of_body cfg_ok Tryz.func172 rfl rfl fun base=>?_
   rw [show startM Tryz.f172 [.ref 1000 0,.p (.agg [.int .i64 bv.kind,.int .i64 bv.int,.str bv.text,.bool bs])] [(1000,.cells [.p hP,.p (.imm [.int .i64 lv.kind,.int .i64 lv.int,.str lv.text,.bool ls] 0),.p (.lst outP),.p (.bool em)])]=⟨mkT 41 [(0,.ref 1000 0),(1,.p (.agg [.int .i64 bv.kind,.int .i64 bv.int,.str bv.text,.bool bs]))],[(1000,.cells [.p hP,.p (.imm [.int .i64 lv.kind,.int .i64 lv.int,.str lv.text,.bool ls] 0),.p (.lst outP),.p (.bool em)])],[1000]⟩ by kernel_rfl]
   exact walkX trivial trivial
   all_goals (refine bodyM_normal (bodyM_of rfl rfl trivial ?_ (by rfl) (by rfl) (by rfl));simp [getB,leK,leT,leV])
end
section
attribute [local simp] wl0 wl1 wl2 wl3 wl4 wl5 wl6 wl7 wl8 wl9 wl10 wl11 wl12 wl13 wl14 wl15 wl16 wl17 wl18 wl19 wl20
attribute [local simp high] evalOp_fieldP
attribute [local simp] ty156 ty159 ty160 ty162 ty204 ty61
attribute [local simp] fldV_p fldV_agg aggP_agg aggP_col aggP_val aggP_expr
attribute [local simp] runK_nil runK_cons goG_true goG_false goC_none goC_some goV_some goV_none goD_some goD_none
def lessV (v:Val):Bnd:=if v.kind == 1 then ⟨⟨v.kind,IntKind.wrap .i64 (v.int - 1),v.text⟩,false⟩ else ⟨v,true⟩
def moreV (v:Val):Bnd:=if v.kind == 1 then ⟨⟨v.kind,IntKind.wrap .i64 (v.int + 1),v.text⟩,false⟩ else ⟨v,true⟩
def addS (s:Span) (op:Int) (v:Val):Span:=
 if op == 12 then cutHigh (cutLow s ⟨v,false⟩) ⟨v,false⟩
 else if op == 13 then { s with out:=s.out ++ [v] }
 else if op == 14 then (if v.kind == 1 && v.int == -9223372036854775808 then { s with empty:=true } else cutHigh s (lessV v))
 else if op == 15 then cutHigh s ⟨v,false⟩
 else if op == 16 then (if v.kind == 1 && v.int == 9223372036854775807 then { s with empty:=true } else cutLow s (moreV v))
 else if op == 17 then cutLow s ⟨v,false⟩ else s
theorem callM116 (s:Span) (c op:Int) (v:Val) (h13:(op == 13)=false):CallM cfg Tryz.prog 116 [(1000,.cells ((spanC s).map .p))] [.ref 1000 0,.p (testP c op v)] ([].map .p) [(1000,.cells ((spanC (addS s op v)).map .p))]:=by
 unfold addS
 rw [h13]
 simp only [Bool.false_eq_true,if_false]
 cases h12:op == 12
 ·cases h14:op == 14
  ·cases h15:op == 15
   ·cases h16:op == 16
    ·cases h17:op == 17
     ·simp only [Bool.false_eq_true,if_false,if_true,spanC,List.map_cons,List.map_nil,testP]
      have msk:Msk 2437174372917978194126032836 2475880078570760549798244292:=⟨⟩
      refine CallM.of_body cfg_ok Tryz.func116 rfl rfl fun base=>?_
      rw [show startM Tryz.f116 [.ref 1000 0,.p (.agg [.int .i64 c,.int .i64 op,.int .i64 v.kind,.int .i64 v.int,.str v.text])] [(1000,.cells [.p (bndP s.low),.p (bndP s.high),.p (.lst (Val.ps s.out)),.p (.bool s.empty)])]=⟨mkT 91 [(0,.ref 1000 0),(1,.p (.agg [.int .i64 c,.int .i64 op,.int .i64 v.kind,.int .i64 v.int,.str v.text]))],[(1000,.cells [.p (bndP s.low),.p (bndP s.high),.p (.lst (Val.ps s.out)),.p (.bool s.empty)])],[1000]⟩ by kernel_rfl]
      exact walkX trivial trivial
      all_goals (refine bodyM_normal (bodyM_of rfl rfl trivial ?_ (by rfl) (by rfl) (by rfl));simp [getB,leK,leT,leV])
     ·simp only [Bool.false_eq_true,if_false,if_true]
      generalize hs1:cutLow s ⟨v,false⟩=s1
      simp only [spanC,List.map_cons,List.map_nil,testP]
      have msk:Msk 2437174372917978194126032836 2475880078570760549798244292:=⟨⟩
      refine CallM.of_body cfg_ok Tryz.func116 rfl rfl fun base=>?_
      rw [show startM Tryz.f116 [.ref 1000 0,.p (.agg [.int .i64 c,.int .i64 op,.int .i64 v.kind,.int .i64 v.int,.str v.text])] [(1000,.cells [.p (bndP s.low),.p (bndP s.high),.p (.lst (Val.ps s.out)),.p (.bool s.empty)])]=⟨mkT 91 [(0,.ref 1000 0),(1,.p (.agg [.int .i64 c,.int .i64 op,.int .i64 v.kind,.int .i64 v.int,.str v.text]))],[(1000,.cells [.p (bndP s.low),.p (bndP s.high),.p (.lst (Val.ps s.out)),.p (.bool s.empty)])],[1000]⟩ by kernel_rfl]
      have st0:Stop 24:=⟨⟩
      refine walkX ?_ trivial
      all_goals first | intro h' h | intro h | skip
      refine ⟨?_⟩
      clear st0
      refine wpA_regK cfg_ok fun K hK=>?_
      simp -implicitDefEqProofs [*]
      refine goX_intro (x_lend (nm:=1000) (cs:=spanC s) (cs':=spanC s1) (rs:=[]) (by have hx:=callM171 s ⟨v,false⟩;rw [hs1] at hx;exact hx) rfl (by simp -implicitDefEqProofs [callArgs,renVs,renV,bndC]) (by simp [V.namesL,V.names]) (by simp -implicitDefEqProofs [spanC])) ?_
      rintro S' rfl
      refine runK_id ?_
      simp -implicitDefEqProofs [*,spanC]
      refine hK.out _ _ ?_;clear hK;clear K
      exact walkX trivial trivial
      all_goals (refine bodyM_normal (bodyM_of rfl rfl trivial ?_ (by rfl) (by rfl) (by rfl));simp [getB,leK,leT,leV])
    ·cases hk:v.kind == 1
     ·simp only [Bool.false_and,Bool.false_eq_true,if_false,if_true,moreV,hk]
      generalize hs1:cutLow s ⟨v,true⟩=s1
      simp only [spanC,List.map_cons,List.map_nil,testP]
      have msk:Msk 2437174372917978194126032836 2475880078570760549798244292:=⟨⟩
      refine CallM.of_body cfg_ok Tryz.func116 rfl rfl fun base=>?_
      rw [show startM Tryz.f116 [.ref 1000 0,.p (.agg [.int .i64 c,.int .i64 op,.int .i64 v.kind,.int .i64 v.int,.str v.text])] [(1000,.cells [.p (bndP s.low),.p (bndP s.high),.p (.lst (Val.ps s.out)),.p (.bool s.empty)])]=⟨mkT 91 [(0,.ref 1000 0),(1,.p (.agg [.int .i64 c,.int .i64 op,.int .i64 v.kind,.int .i64 v.int,.str v.text]))],[(1000,.cells [.p (bndP s.low),.p (bndP s.high),.p (.lst (Val.ps s.out)),.p (.bool s.empty)])],[1000]⟩ by kernel_rfl]
      have st0:Stop 22:=⟨⟩
      refine walkX ?_ trivial
      all_goals first | intro h' h | intro h | skip
      refine ⟨?_⟩
      clear st0
      refine wpA_regK cfg_ok fun K hK=>?_
      simp -implicitDefEqProofs [*]
      refine goX_intro (x_lend (nm:=1000) (cs:=spanC s) (cs':=spanC s1) (rs:=[]) (by have hx:=callM171 s ⟨v,true⟩;rw [hs1] at hx;exact hx) rfl (by simp -implicitDefEqProofs [callArgs,renVs,renV,bndC]) (by simp [V.namesL,V.names]) (by simp -implicitDefEqProofs [spanC])) ?_
      rintro S' rfl
      refine runK_id ?_
      simp -implicitDefEqProofs [*,spanC]
      refine hK.out _ _ ?_;clear hK;clear K
      exact walkX trivial trivial
      all_goals (refine bodyM_normal (bodyM_of rfl rfl trivial ?_ (by rfl) (by rfl) (by rfl));simp [getB,leK,leT,leV])
     ·cases hm:v.int == 9223372036854775807
      ·simp only [Bool.true_and,Bool.false_eq_true,if_false,if_true,moreV,hk,hm]
       generalize hs1:cutLow s ⟨⟨v.kind,IntKind.wrap .i64 (v.int + 1),v.text⟩,false⟩=s1
       simp only [spanC,List.map_cons,List.map_nil,testP]
       have msk:Msk 2437174372917978194126032836 2475880078570760549798244292:=⟨⟩
       refine CallM.of_body cfg_ok Tryz.func116 rfl rfl fun base=>?_
       rw [show startM Tryz.f116 [.ref 1000 0,.p (.agg [.int .i64 c,.int .i64 op,.int .i64 v.kind,.int .i64 v.int,.str v.text])] [(1000,.cells [.p (bndP s.low),.p (bndP s.high),.p (.lst (Val.ps s.out)),.p (.bool s.empty)])]=⟨mkT 91 [(0,.ref 1000 0),(1,.p (.agg [.int .i64 c,.int .i64 op,.int .i64 v.kind,.int .i64 v.int,.str v.text]))],[(1000,.cells [.p (bndP s.low),.p (bndP s.high),.p (.lst (Val.ps s.out)),.p (.bool s.empty)])],[1000]⟩ by kernel_rfl]
       have st0:Stop 22:=⟨⟩
       refine walkX ?_ trivial
       all_goals first | intro h' h | intro h | skip
       refine ⟨?_⟩
       clear st0
       refine wpA_regK cfg_ok fun K hK=>?_
       simp -implicitDefEqProofs [*]
       refine goX_intro (x_lend (nm:=1000) (cs:=spanC s) (cs':=spanC s1) (rs:=[]) (by have hx:=callM171 s ⟨⟨v.kind,IntKind.wrap .i64 (v.int + 1),v.text⟩,false⟩;rw [hs1] at hx;exact hx) rfl (by simp -implicitDefEqProofs [callArgs,renVs,renV,bndC]) (by simp [V.namesL,V.names]) (by simp -implicitDefEqProofs [spanC])) ?_
       rintro S' rfl
       refine runK_id ?_
       simp -implicitDefEqProofs [*,spanC]
       refine hK.out _ _ ?_;clear hK;clear K
       exact walkX trivial trivial
       all_goals (refine bodyM_normal (bodyM_of rfl rfl trivial ?_ (by rfl) (by rfl) (by rfl));simp [getB,leK,leT,leV])
      ·simp only [Bool.true_and,Bool.false_eq_true,if_false,if_true,hm,spanC,List.map_cons,List.map_nil,testP]
       have msk:Msk 2437174372917978194126032836 2475880078570760549798244292:=⟨⟩
       refine CallM.of_body cfg_ok Tryz.func116 rfl rfl fun base=>?_
       rw [show startM Tryz.f116 [.ref 1000 0,.p (.agg [.int .i64 c,.int .i64 op,.int .i64 v.kind,.int .i64 v.int,.str v.text])] [(1000,.cells [.p (bndP s.low),.p (bndP s.high),.p (.lst (Val.ps s.out)),.p (.bool s.empty)])]=⟨mkT 91 [(0,.ref 1000 0),(1,.p (.agg [.int .i64 c,.int .i64 op,.int .i64 v.kind,.int .i64 v.int,.str v.text]))],[(1000,.cells [.p (bndP s.low),.p (bndP s.high),.p (.lst (Val.ps s.out)),.p (.bool s.empty)])],[1000]⟩ by kernel_rfl]
       exact walkX trivial trivial
       all_goals (refine bodyM_of rfl rfl trivial ?_ (by rfl) (by rfl) (by rfl);simp [getB,leK,leT,leV])
   ·simp only [Bool.false_eq_true,if_false,if_true]
    generalize hs1:cutHigh s ⟨v,false⟩=s1
    simp only [spanC,List.map_cons,List.map_nil,testP]
    have msk:Msk 2437174372917978194126032836 2475880078570760549798244292:=⟨⟩
    refine CallM.of_body cfg_ok Tryz.func116 rfl rfl fun base=>?_
    rw [show startM Tryz.f116 [.ref 1000 0,.p (.agg [.int .i64 c,.int .i64 op,.int .i64 v.kind,.int .i64 v.int,.str v.text])] [(1000,.cells [.p (bndP s.low),.p (bndP s.high),.p (.lst (Val.ps s.out)),.p (.bool s.empty)])]=⟨mkT 91 [(0,.ref 1000 0),(1,.p (.agg [.int .i64 c,.int .i64 op,.int .i64 v.kind,.int .i64 v.int,.str v.text]))],[(1000,.cells [.p (bndP s.low),.p (bndP s.high),.p (.lst (Val.ps s.out)),.p (.bool s.empty)])],[1000]⟩ by kernel_rfl]
    have st0:Stop 16:=⟨⟩
    refine walkX ?_ trivial
    all_goals first | intro h' h | intro h | skip
    refine ⟨?_⟩
    clear st0
    refine wpA_regK cfg_ok fun K hK=>?_
    simp -implicitDefEqProofs [*]
    refine goX_intro (x_lend (nm:=1000) (cs:=spanC s) (cs':=spanC s1) (rs:=[]) (by have hx:=callM172 s ⟨v,false⟩;rw [hs1] at hx;exact hx) rfl (by simp -implicitDefEqProofs [callArgs,renVs,renV,bndC]) (by simp [V.namesL,V.names]) (by simp -implicitDefEqProofs [spanC])) ?_
    rintro S' rfl
    refine runK_id ?_
    simp -implicitDefEqProofs [*,spanC]
    refine hK.out _ _ ?_;clear hK;clear K
    exact walkX trivial trivial
    all_goals (refine bodyM_normal (bodyM_of rfl rfl trivial ?_ (by rfl) (by rfl) (by rfl));simp [getB,leK,leT,leV])
  ·cases hk:v.kind == 1
   ·simp only [Bool.false_and,Bool.false_eq_true,if_false,if_true,lessV,hk]
    generalize hs1:cutHigh s ⟨v,true⟩=s1
    simp only [spanC,List.map_cons,List.map_nil,testP]
    have msk:Msk 2437174372917978194126032836 2475880078570760549798244292:=⟨⟩
    refine CallM.of_body cfg_ok Tryz.func116 rfl rfl fun base=>?_
    rw [show startM Tryz.f116 [.ref 1000 0,.p (.agg [.int .i64 c,.int .i64 op,.int .i64 v.kind,.int .i64 v.int,.str v.text])] [(1000,.cells [.p (bndP s.low),.p (bndP s.high),.p (.lst (Val.ps s.out)),.p (.bool s.empty)])]=⟨mkT 91 [(0,.ref 1000 0),(1,.p (.agg [.int .i64 c,.int .i64 op,.int .i64 v.kind,.int .i64 v.int,.str v.text]))],[(1000,.cells [.p (bndP s.low),.p (bndP s.high),.p (.lst (Val.ps s.out)),.p (.bool s.empty)])],[1000]⟩ by kernel_rfl]
    have st0:Stop 14:=⟨⟩
    refine walkX ?_ trivial
    all_goals first | intro h' h | intro h | skip
    refine ⟨?_⟩
    clear st0
    refine wpA_regK cfg_ok fun K hK=>?_
    simp -implicitDefEqProofs [*]
    refine goX_intro (x_lend (nm:=1000) (cs:=spanC s) (cs':=spanC s1) (rs:=[]) (by have hx:=callM172 s ⟨v,true⟩;rw [hs1] at hx;exact hx) rfl (by simp -implicitDefEqProofs [callArgs,renVs,renV,bndC]) (by simp [V.namesL,V.names]) (by simp -implicitDefEqProofs [spanC])) ?_
    rintro S' rfl
    refine runK_id ?_
    simp -implicitDefEqProofs [*,spanC]
    refine hK.out _ _ ?_;clear hK;clear K
    exact walkX trivial trivial
    all_goals (refine bodyM_normal (bodyM_of rfl rfl trivial ?_ (by rfl) (by rfl) (by rfl));simp [getB,leK,leT,leV])
   ·cases hm:v.int == -9223372036854775808
    ·simp only [Bool.true_and,Bool.false_eq_true,if_false,if_true,lessV,hk,hm]
     generalize hs1:cutHigh s ⟨⟨v.kind,IntKind.wrap .i64 (v.int - 1),v.text⟩,false⟩=s1
     simp only [spanC,List.map_cons,List.map_nil,testP]
     have msk:Msk 2437174372917978194126032836 2475880078570760549798244292:=⟨⟩
     refine CallM.of_body cfg_ok Tryz.func116 rfl rfl fun base=>?_
     rw [show startM Tryz.f116 [.ref 1000 0,.p (.agg [.int .i64 c,.int .i64 op,.int .i64 v.kind,.int .i64 v.int,.str v.text])] [(1000,.cells [.p (bndP s.low),.p (bndP s.high),.p (.lst (Val.ps s.out)),.p (.bool s.empty)])]=⟨mkT 91 [(0,.ref 1000 0),(1,.p (.agg [.int .i64 c,.int .i64 op,.int .i64 v.kind,.int .i64 v.int,.str v.text]))],[(1000,.cells [.p (bndP s.low),.p (bndP s.high),.p (.lst (Val.ps s.out)),.p (.bool s.empty)])],[1000]⟩ by kernel_rfl]
     have st0:Stop 14:=⟨⟩
     refine walkX ?_ trivial
     all_goals first | intro h' h | intro h | skip
     refine ⟨?_⟩
     clear st0
     refine wpA_regK cfg_ok fun K hK=>?_
     simp -implicitDefEqProofs [*]
     refine goX_intro (x_lend (nm:=1000) (cs:=spanC s) (cs':=spanC s1) (rs:=[]) (by have hx:=callM172 s ⟨⟨v.kind,IntKind.wrap .i64 (v.int - 1),v.text⟩,false⟩;rw [hs1] at hx;exact hx) rfl (by simp -implicitDefEqProofs [callArgs,renVs,renV,bndC]) (by simp [V.namesL,V.names]) (by simp -implicitDefEqProofs [spanC])) ?_
     rintro S' rfl
     refine runK_id ?_
     simp -implicitDefEqProofs [*,spanC]
     refine hK.out _ _ ?_;clear hK;clear K
     exact walkX trivial trivial
     all_goals (refine bodyM_normal (bodyM_of rfl rfl trivial ?_ (by rfl) (by rfl) (by rfl));simp [getB,leK,leT,leV])
    ·simp only [Bool.true_and,Bool.false_eq_true,if_false,if_true,hm,spanC,List.map_cons,List.map_nil,testP]
     have msk:Msk 2437174372917978194126032836 2475880078570760549798244292:=⟨⟩
     refine CallM.of_body cfg_ok Tryz.func116 rfl rfl fun base=>?_
     rw [show startM Tryz.f116 [.ref 1000 0,.p (.agg [.int .i64 c,.int .i64 op,.int .i64 v.kind,.int .i64 v.int,.str v.text])] [(1000,.cells [.p (bndP s.low),.p (bndP s.high),.p (.lst (Val.ps s.out)),.p (.bool s.empty)])]=⟨mkT 91 [(0,.ref 1000 0),(1,.p (.agg [.int .i64 c,.int .i64 op,.int .i64 v.kind,.int .i64 v.int,.str v.text]))],[(1000,.cells [.p (bndP s.low),.p (bndP s.high),.p (.lst (Val.ps s.out)),.p (.bool s.empty)])],[1000]⟩ by kernel_rfl]
     exact walkX trivial trivial
     all_goals (refine bodyM_of rfl rfl trivial ?_ (by rfl) (by rfl) (by rfl);simp [getB,leK,leT,leV])
 ·simp only [Bool.false_eq_true,if_false,if_true]
  generalize hs1:cutLow s ⟨v,false⟩=s1
  generalize hs2:cutHigh s1 ⟨v,false⟩=s2
  simp only [spanC,List.map_cons,List.map_nil,testP]
  have msk:Msk 2437174372917978194126032836 2475880078570760549798244292:=⟨⟩
  refine CallM.of_body cfg_ok Tryz.func116 rfl rfl fun base=>?_
  rw [show startM Tryz.f116 [.ref 1000 0,.p (.agg [.int .i64 c,.int .i64 op,.int .i64 v.kind,.int .i64 v.int,.str v.text])] [(1000,.cells [.p (bndP s.low),.p (bndP s.high),.p (.lst (Val.ps s.out)),.p (.bool s.empty)])]=⟨mkT 91 [(0,.ref 1000 0),(1,.p (.agg [.int .i64 c,.int .i64 op,.int .i64 v.kind,.int .i64 v.int,.str v.text]))],[(1000,.cells [.p (bndP s.low),.p (bndP s.high),.p (.lst (Val.ps s.out)),.p (.bool s.empty)])],[1000]⟩ by kernel_rfl]
  have st0:Stop 5:=⟨⟩
  refine walkX ?_ trivial
  all_goals first | intro h' h | intro h | skip
  refine ⟨?_⟩
  clear st0
  refine wpA_seqK cfg_ok fun K hK=>?_
  simp -implicitDefEqProofs [*]
  refine goX_intro (x_lend (nm:=1000) (cs:=spanC s) (cs':=spanC s1) (rs:=[]) (by have hx:=callM171 s ⟨v,false⟩;rw [hs1] at hx;exact hx) rfl (by simp -implicitDefEqProofs [callArgs,renVs,renV,bndC]) (by simp [V.namesL,V.names]) (by simp -implicitDefEqProofs [spanC])) ?_
  rintro S' rfl
  refine runK_id ?_
  simp -implicitDefEqProofs [*,spanC]
  refine hK.out _ _ ?_;clear hK;clear K
  have st0:Stop 6:=⟨⟩
  refine walkX ?_ trivial
  all_goals first | intro h' h | intro h | skip
  refine ⟨?_⟩
  clear st0
  refine wpA_regK cfg_ok fun K hK=>?_
  simp -implicitDefEqProofs [*]
  refine goX_intro (x_lend (nm:=1000) (cs:=spanC s1) (cs':=spanC s2) (rs:=[]) (by have hx:=callM172 s1 ⟨v,false⟩;rw [hs2] at hx;exact hx) rfl (by simp -implicitDefEqProofs [callArgs,renVs,renV,bndC]) (by simp [V.namesL,V.names]) (by simp -implicitDefEqProofs [spanC])) ?_
  rintro S' rfl
  refine runK_id ?_
  simp -implicitDefEqProofs [*,spanC]
  refine hK.out _ _ ?_;clear hK;clear K
  exact walkX trivial trivial
  all_goals (refine bodyM_normal (bodyM_of rfl rfl trivial ?_ (by rfl) (by rfl) (by rfl));simp [getB,leK,leT,leV])
end
end Go.Proofs.YtgiedlcjlalpcaaGreat
