/- Part of a proof: K10. -/
import Derived.Test.YtgiedlcjlalpcaaGreatPb06
import Derived.Test.YtgiedlcjlalpcaaGreatPb08
import Derived.Test.YtgiedlcjlalpcaaGreatPb12
set_option linter.all false
namespace Go.Proofs.YtgiedlcjlalpcaaGreat
open Go.Abs
set_option maxRecDepth 100000
set_option maxHeartbeats 4000000
attribute [local irreducible] wpA Again LeJ
attribute [local simp high] mkT_getD
attribute [local simp] runM_nil runM_cons mG_some mC_none mC_un mC_gd mV_some mV_none mD_some mP_some mP_none pickV_bool pickV_int specE_pick specE_move specE_assign specE_alloc specE_box specE_build specE_buildSlice specE_load specE_store specE_nilCheck specE_binOp specE_unOp specE_convert specE_makeFunc specE_slice specE_fieldAddr specE_field specE_indexAddr specE_index specE_extract specE_call cond_false_r cond_true_m callPure touches_move touches_assign touches_box touches_load touches_nilCheck touches_unOp touches_convert touches_fieldAddr touches_field touches_extract touches_pick touches_store touches_binOp touches_indexAddr touches_index touches_alloc touches_build touches_buildSlice touches_makeFunc touches_slice touches_call touches_builtin V.names V.namesL callOf_fn callOf_builtin callOf callResW cfg_imp wantedA evalOp_move evalOp_assign evalOp_pick evalOp_alloc evalOp_box evalOp_build evalOp_buildSlice evalOp_load evalOp_store evalOp_nilCheck evalOp_binOp evalOp_unOp evalOp_convert evalOp_makeFunc evalOp_slice evalOp_fieldAddr evalOp_field evalOp_indexAddr evalOp_index evalOp_extract evalOp_builtin opnd_tmp opnd_const opnd_func headM dropA mkT_set mkT_idx mkT_get mkT_len lookA more_true more_false constV boolV St.put getB setB V.cells cells_agg cells_int cells_bool cells_str cells_lst cells_fn cells_nilp cells_nilf cells_nilm cells_imm cells_obj cells_imap mkAgg mkFn allP partV partP placesOf fillV spliceV Ty.agg oneV oneP natOf binV_int binV_str binV_bool_eql binV_ptr_nil_eql binV_ptr_imm_eql binV_ptr_obj_eql binV_ptr_ref_eql binV_func_nil_eql binV_func_fn_eql binV_func_fv_eql binV_bool_neq binV_ptr_nil_neq binV_ptr_imm_neq binV_ptr_obj_neq binV_ptr_ref_neq binV_func_nil_neq binV_func_fn_neq binV_func_fv_neq intBin strBin cfg_ty callRes toP toPs resV addedP appendV partsToP resultPs resultVs St.head roomFor_of wrap_succ wrap_nat sizesOk_nil sizesOk_cons elemOk_int elemOk_bool elemOk_str elemOk_lst elemOk_fn List.getElem?_eq_getElem bne w64 val_cells val_fold val_eta col_cells col_fold col_eta rel_cells expr_cells expr_fold expr_fold0 expr_fold1 expr_fold2 expr_eta expr_op expr_n expr_m expr_kind expr_lit expr_args expr_rels eps_nil eps_len eps_get eps_app eps_take eps_drop eps_ok vps_nil vps_len vps_get vps_app vps_take vps_drop vps_ok cps_nil cps_len cps_get cps_app cps_take cps_drop cps_ok rps_nil rps_len rps_get eps_idx vps_idx cps_idx rps_idx ips_nil ips_len ips_get ips_idx ips_ok elemOk_e elemOk_v elemOk_c ips_app ips_take ips_drop el1 ea1 es1 el2 ea2 es2 el3 ea3 es3 elc eac vl1 va1 vs1 vl2 va2 vs2 vl3 va3 vs3 vlc vac cl1 ca1 cs1 cl2 ca2 cs2 cl3 ca3 cs3 clc cac il1 ia1 is1 il2 ia2 is2 il3 ia3 is3 ilc iac binV_val_eql binV_val_neq binV_col_eql ty2 ty3 ty4 ty5 ty9 ty22 ty23 ty25 ty26 ty27 ty29 ty30 ty34 ty43 ty52 ty57 ty61 ty75 ty86 ty87 ty102 ty131 ty132 ty134 ty135 ty137 ty138 ty141 ty149 ty152 ty156 ty159 ty160 ty172 ty176 ty184 ty185 ty186 ty187 ty189 ty204 ty211 ty221 ty222 ty242 ty259
section
attribute [local simp] wl0 wl1 wl2 wl3 wl4 wl5 wl6 wl7 wl8 wl9 wl10 wl11 wl12 wl13 wl14 wl15 wl16 wl17 wl18 wl19 wl20
attribute [local simp high] evalOp_fieldP
attribute [local simp] fldV_p fldV_agg aggP_agg aggP_col aggP_val aggP_expr
def smallV (v:Val):Bool:=decide (v.text.size ≤ 200)
def allSmall:List Val→Bool
 | []=>true
 | v :: r=>smallV v && allSmall r
theorem allSmall_nil:allSmall []=true:=rfl
theorem allSmall_app:∀ (l:List Val) (v:Val),allSmall (l ++ [v])=(allSmall l && smallV v)
 | [],v=>by simp [allSmall]
 | a :: r,v=>by simp [allSmall,allSmall_app r v,Bool.and_assoc]
theorem allSmall_mem:∀ {l:List Val},allSmall l=true→∀ v ∈ l,v.text.size ≤ 200
 | [],h,v,hv=>by simp at hv
 | a :: r,h,v,hv=>by
  simp only [allSmall,Bool.and_eq_true,smallV,decide_eq_true_eq] at h
  cases hv with
  | head=>exact h.1
  | tail _ hv=>exact allSmall_mem h.2 v hv
theorem len1 {e:Expr} (h:e.args.length=1):∃ a,e.args=[a]:=by
 match hh:e.args with
 | [a]=>exact ⟨a,rfl⟩
 | []=>rw [hh] at h;simp at h
 | _ :: _ :: _=>rw [hh] at h;simp at h
theorem len2 {e:Expr} (h:e.args.length=2):∃ a b,e.args=[a,b]:=by
 match hh:e.args with
 | [a,b]=>exact ⟨a,b,rfl⟩
 | []=>rw [hh] at h;simp at h
 | [_]=>rw [hh] at h;simp at h
 | _ :: _ :: _ :: _=>rw [hh] at h;simp at h
theorem inner_len {e:Expr} (h:Inner e):(e.op=9 ∨ e.op=11 ∨ e.op=21 ∨ e.op=22 ∨ e.op=23→e.args.length=1)∧(e.op=19 ∨ e.op=20 ∨ e.op=25→2 ≤ e.args.length)∧(e.op=24→3 ≤ e.args.length∧e.args.length % 2=1) ∧
  (e.op ≤ 18→e.op ≠ 9→e.op ≠ 11→e.args.length=2):=by
 have hm:=h.many
 have h1:=h.lo
 have h2:=h.hi
 unfold many at hm
 refine ⟨fun ho=>?_,fun ho=>?_,fun ho=>?_,fun ho h9 h11=>?_⟩
 ·rw [if_pos (by simpa [or_assoc] using ho)] at hm
  simp at hm;omega
 ·rw [if_neg (by simp;omega),if_pos (by simpa [or_assoc] using ho)] at hm
  simp at hm;omega
 ·rw [if_neg (by simp;omega),if_neg (by simp;omega),if_pos (by simpa using ho)] at hm
  have ht:((e.args.length:Int)).tmod 2=((e.args.length % 2:Nat):Int):=rfl
  rw [ht] at hm
  simp at hm;omega
 ·rw [if_neg (by simp;omega),if_neg (by simp;omega),if_neg (by simp;omega)] at hm
  simp at hm;omega
theorem cal79 (e:Expr) (hi:Inner e) (l:List Val) (hl:l.length=e.args.length) (hs:allSmall l=true):Cal 79 [e.p,.lst (Val.ps l)] [(valueV e l).p]:=by
 have hin:=inner_len hi
 have hm:=allSmall_mem hs
 have h1:=hi.lo
 have h2:=hi.hi
 have two:e.args.length=2→∃ x y,l=[x,y]:=fun h=>by
  match l,hl with
  | [x,y],_=>exact ⟨x,y,rfl⟩
  | [],hl=>simp at hl;omega
  | [_],hl=>simp at hl;omega
  | _ :: _ :: _ :: _,hl=>simp at hl;omega
 have one:e.args.length=1→∃ x,l=[x]:=fun h=>by
  match l,hl with
  | [x],_=>exact ⟨x,rfl⟩
  | [],hl=>simp at hl;omega
  | _ :: _ :: _,hl=>simp at hl;omega
 have strict:∀ k:Int,e.op=k→4 ≤ k∧k ≤ 17→(Cal 135 [.int .i64 k,.lst (Val.ps l)] [(strictV k l).p])→Cal 79 [e.p,.lst (Val.ps l)] [(valueV e l).p]:=by
  intro k hk hk2 hc
  rw [show valueV e l=if anyNullV l then nullW else strictV k l by
   unfold valueV
   subst hk
   rw [if_neg (by simp;omega),if_neg (by simp;omega),if_neg (by simp;omega),if_neg (by simp;omega),if_neg (by simp;omega),if_neg (by simp;omega),if_neg (by simp;omega),if_neg (by simp;omega),if_neg (by simp;omega)]]
  exact v79_s e (by omega) l _ (by rw [hk];exact hc)
 have hs2:∀ {x y:Val},l=[x,y]→x.text.size ≤ 200∧y.text.size ≤ 200:=fun {x y} h=>⟨hm x (by simp [h]),hm y (by simp [h])⟩
 have hs1:∀ {x:Val},l=[x]→x.text.size ≤ 200:=fun {x} h=>hm x (by simp [h])
 have cases:e.op=4 ∨ e.op=5 ∨ e.op=6 ∨ e.op=7 ∨ e.op=8 ∨ e.op=9 ∨ e.op=10 ∨ e.op=11 ∨ e.op=12 ∨ e.op=13 ∨ e.op=14 ∨ e.op=15 ∨ e.op=16 ∨ e.op=17 ∨ e.op=18 ∨ e.op=19 ∨ e.op=20 ∨ e.op=21 ∨ e.op=22 ∨ e.op=23 ∨ e.op=24 ∨ e.op=25:=by omega
 rcases cases with h | h | h | h | h | h | h | h | h | h | h | h | h | h | h | h | h | h | h | h | h | h
 ·obtain ⟨x,y,hxy⟩:=two (hin.2.2.2 (by omega) (by omega) (by omega))
  exact strict 4 h (by omega) (by have:=hs2 hxy;subst hxy;exact s135_4 x y this.1 this.2)
 ·obtain ⟨x,y,hxy⟩:=two (hin.2.2.2 (by omega) (by omega) (by omega))
  exact strict 5 h (by omega) (by have:=hs2 hxy;subst hxy;exact s135_5 x y this.1 this.2)
 ·obtain ⟨x,y,hxy⟩:=two (hin.2.2.2 (by omega) (by omega) (by omega))
  exact strict 6 h (by omega) (by have:=hs2 hxy;subst hxy;exact s135_6 x y this.1 this.2)
 ·obtain ⟨x,y,hxy⟩:=two (hin.2.2.2 (by omega) (by omega) (by omega))
  exact strict 7 h (by omega) (by have:=hs2 hxy;subst hxy;exact s135_7 x y this.1 this.2)
 ·obtain ⟨x,y,hxy⟩:=two (hin.2.2.2 (by omega) (by omega) (by omega))
  exact strict 8 h (by omega) (by have:=hs2 hxy;subst hxy;exact s135_8 x y this.1 this.2)
 ·obtain ⟨x,hx⟩:=one (hin.1 (by omega))
  exact strict 9 h (by omega) (by have:=hs1 hx;subst hx;exact s135_9 x this)
 ·obtain ⟨x,y,hxy⟩:=two (hin.2.2.2 (by omega) (by omega) (by omega))
  exact strict 10 h (by omega) (by have:=hs2 hxy;subst hxy;exact s135_10 x y this.1 this.2)
 ·obtain ⟨x,hx⟩:=one (hin.1 (by omega))
  exact strict 11 h (by omega) (by have:=hs1 hx;subst hx;exact s135_11 x this)
 ·obtain ⟨x,y,hxy⟩:=two (hin.2.2.2 (by omega) (by omega) (by omega))
  exact strict 12 h (by omega) (by have:=hs2 hxy;subst hxy;exact s135_12 x y this.1 this.2)
 ·obtain ⟨x,y,hxy⟩:=two (hin.2.2.2 (by omega) (by omega) (by omega))
  exact strict 13 h (by omega) (by have:=hs2 hxy;subst hxy;exact s135_13 x y this.1 this.2)
 ·obtain ⟨x,y,hxy⟩:=two (hin.2.2.2 (by omega) (by omega) (by omega))
  exact strict 14 h (by omega) (by have:=hs2 hxy;subst hxy;exact s135_14 x y this.1 this.2)
 ·obtain ⟨x,y,hxy⟩:=two (hin.2.2.2 (by omega) (by omega) (by omega))
  exact strict 15 h (by omega) (by have:=hs2 hxy;subst hxy;exact s135_15 x y this.1 this.2)
 ·obtain ⟨x,y,hxy⟩:=two (hin.2.2.2 (by omega) (by omega) (by omega))
  exact strict 16 h (by omega) (by have:=hs2 hxy;subst hxy;exact s135_16 x y this.1 this.2)
 ·obtain ⟨x,y,hxy⟩:=two (hin.2.2.2 (by omega) (by omega) (by omega))
  exact strict 17 h (by omega) (by have:=hs2 hxy;subst hxy;exact s135_17 x y this.1 this.2)
 ·obtain ⟨x,y,hxy⟩:=two (hin.2.2.2 (by omega) (by omega) (by omega))
  subst hxy
  rw [show valueV e [x,y]=boolW (x == y) by simp [valueV,h]]
  exact v79_18 e h x y
 ·rw [show valueV e l=andV l by simp [valueV,h]]
  exact v79_19 e h l
 ·rw [show valueV e l=orVs l by simp [valueV,h]]
  exact v79_20 e h l
 ·obtain ⟨x,hx⟩:=one (hin.1 (by omega))
  subst hx
  rw [show valueV e [x]=notV x by simp [valueV,h]]
  exact v79_21 e h x
 ·obtain ⟨x,hx⟩:=one (hin.1 (by omega))
  subst hx
  rw [show valueV e [x]=boolW (x.kind == 0) by simp [valueV,h]]
  exact v79_22 e h x
 ·obtain ⟨x,hx⟩:=one (hin.1 (by omega))
  subst hx
  rw [show valueV e [x]=boolW (trueV x) by simp [valueV,h]]
  exact v79_23 e h x
 ·have:=(hin.2.2.1 h).1
  rw [show valueV e l=caseV (lastV l) l by simp [valueV,h]]
  exact v79_24 e h l (l.length - 1) (by omega)
 ·rw [show valueV e l=coalV l by simp [valueV,h]]
  exact v79_25 e h l
end
end Go.Proofs.YtgiedlcjlalpcaaGreat
