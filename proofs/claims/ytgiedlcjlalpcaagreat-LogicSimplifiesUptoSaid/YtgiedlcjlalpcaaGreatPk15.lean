/- Part 15 of a proof: K9 L4 L5 U2 U4 U5 U6 U7. -/
import Derived.Test.YtgiedlcjlalpcaaGreatPk06
import Derived.Test.YtgiedlcjlalpcaaGreatPk07
import Derived.Test.YtgiedlcjlalpcaaGreatPk08
import Derived.Test.YtgiedlcjlalpcaaGreatPk09
import Derived.Test.YtgiedlcjlalpcaaGreatPk11
import Derived.Test.YtgiedlcjlalpcaaGreatPk13
import Derived.Test.YtgiedlcjlalpcaaGreatPk14
set_option linter.all false
namespace Go.Proofs.YtgiedlcjlalpcaaGreat
open Go.Abs
set_option maxRecDepth 100000
set_option maxHeartbeats 4000000
attribute [local irreducible] wpA Again LeJ
attribute [local simp high] mkT_getD
attribute [local simp] runM_nil runM_cons mG_some mC_none mC_un mC_gd mV_some mV_none mD_some mP_some mP_none pickV_bool pickV_int specE_pick specE_move specE_assign specE_alloc specE_box specE_build specE_buildSlice specE_load specE_store specE_nilCheck specE_binOp specE_unOp specE_convert specE_makeFunc specE_slice specE_fieldAddr specE_field specE_indexAddr specE_index specE_extract specE_call cond_false_r cond_true_m callPure touches_move touches_assign touches_box touches_load touches_nilCheck touches_unOp touches_convert touches_fieldAddr touches_field touches_extract touches_pick touches_store touches_binOp touches_indexAddr touches_index touches_alloc touches_build touches_buildSlice touches_makeFunc touches_slice touches_call touches_builtin V.names V.namesL callOf_fn callOf_builtin callOf callResW cfg_imp wantedA evalOp_move evalOp_assign evalOp_pick evalOp_alloc evalOp_box evalOp_build evalOp_buildSlice evalOp_load evalOp_store evalOp_nilCheck evalOp_binOp evalOp_unOp evalOp_convert evalOp_makeFunc evalOp_slice evalOp_fieldAddr evalOp_field evalOp_indexAddr evalOp_index evalOp_extract evalOp_builtin opnd_tmp opnd_const opnd_func headM dropA mkT_set mkT_idx mkT_get mkT_len lookA more_true more_false constV boolV St.put getB setB V.cells cells_agg cells_int cells_bool cells_str cells_lst cells_fn cells_nilp cells_nilf cells_nilm cells_imm cells_obj cells_imap mkAgg mkFn allP partV partP placesOf fillV spliceV Ty.agg oneV oneP natOf binV_int binV_str binV_bool_eql binV_ptr_nil_eql binV_ptr_imm_eql binV_ptr_obj_eql binV_ptr_ref_eql binV_func_nil_eql binV_func_fn_eql binV_func_fv_eql binV_bool_neq binV_ptr_nil_neq binV_ptr_imm_neq binV_ptr_obj_neq binV_ptr_ref_neq binV_func_nil_neq binV_func_fn_neq binV_func_fv_neq intBin strBin cfg_ty callRes toP toPs resV addedP appendV partsToP resultPs resultVs St.head roomFor_of wrap_succ wrap_nat sizesOk_nil sizesOk_cons elemOk_int elemOk_bool elemOk_str elemOk_lst elemOk_fn List.getElem?_eq_getElem bne w64 val_cells val_fold val_eta col_cells col_fold col_eta rel_cells expr_cells expr_fold expr_fold0 expr_fold1 expr_fold2 expr_eta expr_op expr_n expr_m expr_kind expr_lit expr_args expr_rels eps_nil eps_len eps_get eps_app eps_take eps_drop eps_ok vps_nil vps_len vps_get vps_app vps_take vps_drop vps_ok cps_nil cps_len cps_get cps_app cps_take cps_drop cps_ok rps_nil rps_len rps_get eps_idx vps_idx cps_idx rps_idx ips_nil ips_len ips_get ips_idx ips_ok elemOk_e elemOk_v elemOk_c ips_app ips_take ips_drop el1 ea1 es1 el2 ea2 es2 el3 ea3 es3 elc eac vl1 va1 vs1 vl2 va2 vs2 vl3 va3 vs3 vlc vac cl1 ca1 cs1 cl2 ca2 cs2 cl3 ca3 cs3 clc cac il1 ia1 is1 il2 ia2 is2 il3 ia3 is3 ilc iac binV_val_eql binV_val_neq binV_col_eql ty2 ty3 ty4 ty5 ty9 ty22 ty23 ty25 ty26 ty27 ty29 ty30 ty34 ty43 ty52 ty57 ty61 ty75 ty86 ty87 ty102 ty131 ty132 ty134 ty135 ty137 ty138 ty141 ty149 ty152 ty156 ty159 ty160 ty172 ty176 ty184 ty185 ty186 ty187 ty189 ty204 ty211 ty221 ty222 ty242 ty259
section
attribute [local simp] wl0 wl1 wl2 wl3 wl4 wl5 wl6 wl7 wl8 wl9 wl10 wl11 wl12 wl13 wl14 wl15 wl16 wl17 wl18 wl19 wl20
attribute [local simp high] evalOp_fieldP
attribute [local simp] fldV_p fldV_agg aggP_agg aggP_col aggP_val aggP_expr
def goneW (l : List Expr) (a : Expr) (n : Nat) (g : Bool) (k : Nat) : Bool := if k < n then goneW l a n (g || sameE (l.getD k zeroE) a) (k + 1) else g
termination_by n - k
theorem goneW_eq (l : List Expr) (a : Expr) (n : Nat) (hn : n ≤ l.length) (x : Nat × Bool) : goneW l a n x.2 x.1 = if h : x.1 < n then goneW l a n (x.2 || sameE (l[x.1]'(by omega)) a) (x.1 + 1) else x.2 := by
 rw [goneW]
 split
 ·rename_i h
  have : x.1 < l.length := by omega
  simp [List.getD_eq_getElem?_getD, this, h]
 ·rfl
theorem goneW_L (l : List Expr) (a : Expr) (n : Nat) (hn : n ≤ l.length) : ∀ (d k : Nat) (g : Bool), n - k = d → goneL a g ((l.take n).drop k) = goneW l a n g k := by
 intro d
 induction d with
 | zero =>
  intro k g h
  rw [goneW, if_neg (by omega), List.drop_eq_nil_of_le (by simp; omega)]
  rfl
 | succ d ih =>
  intro k g h
  have hk : k < (l.take n).length := by simp; omega
  have hk' : k < l.length := by omega
  rw [goneW, if_pos (by omega), List.drop_eq_getElem_cons hk]
  simp only [goneL]
  rw [ih (k + 1) _ (by omega)]
  simp [List.getD_eq_getElem?_getD, hk']
attribute [local simp] Nat.add_assoc
attribute [local simp] list1 list2 list3 goneL joins spliceE setA in
theorem cal92 (e : Expr) (and : Bool) (hw : wf e = true) : Cal 92 [e.p, .bool and] [(listedE e and).1.p, .bool (listedE e and).2] := ⟨by
 have pc0 : ∀ {i : Nat}, i < e.args.length → CallP cfg Tryz.prog 157 [e.p, .int .i64 i] [(withoutE e i).p] := fun {i} hi => (cal157 e i hi).out
 have hl := wf_len hw
 have hargs : ∀ (i : Nat) (h : i < e.args.length), e.args[i].args.length ≤ 16 := fun i h => wf_len (wf_get hw h)
 have w1 : IntKind.wrap .i64 ((e.args.length : Int) - 1) = (e.args.length : Int) - 1 := by
  by_cases h : e.args.length = 0
  ·rw [h]; rfl
  ·exact wrap_of (by omega) (by omega)
 have w2 : ∀ (i : Nat) (h : i < e.args.length), IntKind.wrap .i64 ((e.args.length : Int) - 1 + (e.args[i].args.length : Int)) = (e.args.length : Int) - 1 + (e.args[i].args.length : Int) := fun i h => wrap_of (by omega) (by have := hargs i h; omega)
 have h1 : ∀ i, i < e.args.length → i ≤ e.args.length := fun i _ => by omega
 have h2 : ∀ i, i < e.args.length → min i e.args.length = i := fun i _ => by omega
 have h3 : ∀ i, i < e.args.length → i + 1 ≤ e.args.length := fun i _ => by omega
 have h4 : ∀ i, i < e.args.length → roomFor i 112 = true := fun i _ => roomFor_of (by omega) (by decide)
 have h5 : ∀ (i : Nat) (h : i < e.args.length), roomFor (i + e.args[i].args.length) 112 = true := fun i h => roomFor_of (by have := hargs i h; omega) (by decide)
 have h6 : ∀ (i : Nat) (h : i < e.args.length), roomFor (i + (e.args[i].args.length + (e.args.length - (i + 1)))) 112 = true := fun i h => roomFor_of (by have := hargs i h; omega) (by decide)
 have h7 : ∀ i : Nat, (0 : Int) ≤ (i : Int) + 1 := fun i => by omega
 have h8 : ∀ i : Nat, ((i : Int) + 1).toNat = i + 1 := fun i => by omega
 clear hargs hw
 have msk : Msk 659286660750472473212937180587956826120 680564733841876926926749214863536418824 := ⟨⟩
 refine CallP.of_bodyN 129 cfg_ok Tryz.func92 rfl rfl (by kernel_rfl) fun base => ?_; simp only [mkA, Nat.reduceAdd]
 refine wpA_ok 0 rfl fun ok0 => ?_
 refine wpA_ok 1 rfl fun ok1 => ?_
 have ld0 : LD (σ := Nat) 0 2361183241434822602976 [7, 44] (fun y_ => (fun i => [(6, .p (.int .i64 i))]) y_) (fun y_ => (fun i => []) y_) (fun y_ => (fun i => InvL (i ≤ (e.args).length) (True) (list1 e and (e.args.drop i) i = listedE e and)) y_) (fun y_ => (fun i => (e.args).length - i) y_) (0) [] (fun y_ => (fun i => i < (e.args).length) y_) (fun y_ (h : (fun i => i < (e.args).length) y_) => (fun i (h : i < (e.args).length) => i + 1) y_ h) (fun y_ (h : (fun i => i < (e.args).length) y_) => (fun i (h : i < (e.args).length) => i + 1) y_ h) := ⟨⟩
 have ld1 : LD (σ := Nat) 2 649037107314492270324877218547488 [] (fun y_ => (fun i => [(8, .p (.int .i64 i))]) y_) (fun y_ => (fun i => []) y_) (fun y_ => (fun i => InvL (i ≤ (e.args).length) (True) (list2 e and (e.args.drop i) i = list2 e and e.args 0)) y_) (fun y_ => (fun i => (e.args).length - i) y_) (0) [] (fun y_ => (fun i => i < (e.args).length) y_) (fun y_ (h : (fun i => i < (e.args).length) y_) => (fun i (h : i < (e.args).length) => i + 1) y_ h) (fun y_ (h : (fun i => i < (e.args).length) y_) => (fun i (h : i < (e.args).length) => i + 1) y_ h) := ⟨⟩
 set_option hygiene false in
 repeat' (first
  | (refine wpA_seqD cfg_ok mix msk (by decide +kernel) fun K hK => ?_)
  | (refine wpA_seq ?_)
  | (refine wpA_block ?_)
  | (refine thenR_normal ?_)
  | (refine thenR_ret ?_)
  | (refine thenR_exit ?_)
  | (refine blockR_normal ?_)
  | (refine blockR_ret ?_)
  | (refine blockR_same ?_)
  | (refine blockR_other rfl ?_)
  | (refine wpA_skip ?_)
  | (refine wpA_ret ?_)
  | (refine wpA_exit ?_)
  | (refine wpA_regD cfg_ok mix msk (by decide +kernel) fun K hK => ?_)
  | (refine hK.out _ _ _ _ _ (by first | (intro h; cases h; done) | (intro _; kernel_rfl)) ?_; clear hK; clear K; try simp only [dropA, Nat.reducePow, Nat.reduceDiv, Nat.reduceMod, ↓reduceIte, Nat.reduceOr, Nat.zero_ne_one])
  | (refine wpA_condD msk (by first | (simp -implicitDefEqProofs [*]; done) | (simp -implicitDefEqProofs [*]; rfl)) ?_; try simp only [dropA, Nat.reducePow, Nat.reduceDiv, Nat.reduceMod, ↓reduceIte, Nat.reduceOr, Nat.zero_ne_one])
  | (refine bodyR_ret (by first | (simp -implicitDefEqProofs [*]; done) | (simp -implicitDefEqProofs [*]; rfl)) ?_)
  | (refine bodyR_normal (by first | (simp -implicitDefEqProofs [*]; done) | (simp -implicitDefEqProofs [*]; rfl)) ?_)
  | (refine runM_id ?_; simp -implicitDefEqProofs)
  | (refine mV_id ?_; simp -implicitDefEqProofs [*])
  | (refine mG_id ?_; simp -implicitDefEqProofs [*])
  | (refine mD_id ?_; simp -implicitDefEqProofs [*])
  | (refine mQ_intro Cal.out ?_)
  | (refine mR_intro (fun _ => Cal.out) ?_)
  | (refine mR_no ?_)
  | (refine mQ_intro (pc0 (by first | assumption | omega | (simp -implicitDefEqProofs [*]; done) | (simp -implicitDefEqProofs; omega))) ?_)
  | (refine mR_intro (fun hw => pc0 (by first | assumption | omega | (simp -implicitDefEqProofs [*]; done) | (simp -implicitDefEqProofs at hw; simp -implicitDefEqProofs [*]; done))) ?_)
  | (refine mQ_id ?_; simp -implicitDefEqProofs [*])
  | (refine mR_id ?_; simp -implicitDefEqProofs [*])
  | (refine goB_true ?_)
  | (refine goB_false ?_)
  | (refine headLD ld0 leS (by first | exact ⟨by first | exact Nat.zero_le _ | omega, by first | trivial | (simp -implicitDefEqProofs [*]; done), by first | rfl | (simp -implicitDefEqProofs [*]; done)⟩ | (simp -implicitDefEqProofs [*]; done)) ?_; rintro x0 ⟨hi0, hs0, hn0⟩ ny0 nz0; (try simp only [headM, List.nil_append, List.cons_append, dropA, Nat.reducePow, Nat.reduceDiv, Nat.reduceMod, ↓reduceIte, Nat.reduceOr, Nat.zero_ne_one]); have hj0 : x0.1 ≤ 4294967296 := by omega)
  | (refine headLD ld0 leS (by first | exact ⟨by first | exact Nat.zero_le _ | omega, by first | trivial | (simp -implicitDefEqProofs [*]; done), by first | rfl | (simp -implicitDefEqProofs [*]; done)⟩ | (simp -implicitDefEqProofs [*]; done)) ?_; rintro x0 ⟨hi0, hs0, hn0⟩ ny0 nz0; (try simp only [headM, List.nil_append, List.cons_append, dropA, Nat.reducePow, Nat.reduceDiv, Nat.reduceMod, ↓reduceIte, Nat.reduceOr, Nat.zero_ne_one]); have hj0 : x0 ≤ 4294967296 := by omega)
  | (refine headLD ld1 leS (by first | exact ⟨by first | exact Nat.zero_le _ | omega, by first | trivial | (simp -implicitDefEqProofs [*]; done), by first | rfl | (simp -implicitDefEqProofs [*]; done)⟩ | (simp -implicitDefEqProofs [*]; done)) ?_; rintro x1 ⟨hi1, hs1, hn1⟩ ny1 nz1; (try simp only [headM, List.nil_append, List.cons_append, dropA, Nat.reducePow, Nat.reduceDiv, Nat.reduceMod, ↓reduceIte, Nat.reduceOr, Nat.zero_ne_one]); have hj1 : x1.1 ≤ 4294967296 := by omega)
  | (refine headLD ld1 leS (by first | exact ⟨by first | exact Nat.zero_le _ | omega, by first | trivial | (simp -implicitDefEqProofs [*]; done), by first | rfl | (simp -implicitDefEqProofs [*]; done)⟩ | (simp -implicitDefEqProofs [*]; done)) ?_; rintro x1 ⟨hi1, hs1, hn1⟩ ny1 nz1; (try simp only [headM, List.nil_append, List.cons_append, dropA, Nat.reducePow, Nat.reduceDiv, Nat.reduceMod, ↓reduceIte, Nat.reduceOr, Nat.zero_ne_one]); have hj1 : x1 ≤ 4294967296 := by omega)
  | (refine goB_intro (fun h => ?_) (fun h => ?_) <;> (try simp only [Bool.not_eq_true', Bool.not_eq_false', Bool.not_eq_true, Bool.not_eq_false, Bool.and_eq_true, Bool.or_eq_false_iff, and_assoc, decide_eq_true_eq, decide_eq_false_iff_not, Nat.not_lt, Nat.not_le, Int.ofNat_lt, Int.ofNat_le, Int.not_lt, Int.not_le] at h) <;> (try have g := ne_of_beqI h) <;> (repeat (have h' := And.left h; replace h := And.right h)) <;> (try (have hz0 := Eq.symm hn0; rw [List.drop_eq_nil_of_le h] at hz0; simp -implicitDefEqProofs at hz0)) <;> (try (have hz1 := Eq.symm hn1; rw [List.drop_eq_nil_of_le h] at hz1; simp -implicitDefEqProofs at hz1)) <;> (try (have hz3 := Eq.symm hn3; rw [List.drop_eq_nil_of_le h] at hz3; simp -implicitDefEqProofs at hz3)) <;> (try (have hz0 := Eq.symm hn0; rw [hst0.out] at hz0; rw [dif_neg (by first | exact Nat.not_lt.mpr h | omega)] at hz0)) <;> (try (have hz1 := Eq.symm hn1; rw [hst1.out] at hz1; rw [dif_neg (by first | exact Nat.not_lt.mpr h | omega)] at hz1)) <;> (try (have hz2 := Eq.symm hn2; rw [hst2.out] at hz2; rw [dif_neg (by first | exact Nat.not_lt.mpr h | omega)] at hz2)) <;> (try (have hz3 := Eq.symm hn3; rw [hst3.out] at hz3; rw [dif_neg (by first | exact Nat.not_lt.mpr h | omega)] at hz3))))
 ·rw [List.drop_eq_getElem_cons (by assumption)] at hn0
  rw [← hn0]
  have g1 : joins e e.args[x0] = true := by
   simp only [joins, Bool.and_eq_true, decide_eq_true_eq]
   exact ⟨by first | assumption | simp [*], h⟩
  simp only [list1]
  rw [if_pos g1]
  simp [spliceE, setA]
 ·refine again_nx ny0 (by assumption) (by dsimp only; omega) ?_ leS
  rw [List.drop_eq_getElem_cons (by assumption)] at hn0
  have hj : joins e e.args[x0] = false := h
  simp only [list1] at hn0
  rw [if_neg (by rw [hj]; simp)] at hn0
  exact ⟨by dsimp only; omega, trivial, hn0⟩
 ·have hgone : goneL e.args[x1] (isV e.args[x1] (boolW and)) (e.args.take x1) = goneW e.args e.args[x1] x1 (isV e.args[x1] (boolW and)) 0 := goneW_L e.args e.args[x1] x1 (by omega) x1 0 (isV e.args[x1] (boolW and)) rfl
  have hst2 : Hid (∀ x : Nat × Bool, _) := ⟨goneW_eq e.args e.args[x1] x1 (by omega)⟩
  have b2 : ∀ k, k < x1 → k < e.args.length := fun k hk => by omega
  have ld2 : LD (σ := Nat × Bool) 4 40564741836050885511627321378304 [] (fun y_ => (fun k g => [(10, .p (.int .i64 k)), (9, .p (.bool g))]) y_.1 y_.2) (fun y_ => (fun k g => []) y_.1 y_.2) (fun y_ => (fun k g => InvL (k ≤ x1) (True) (goneW e.args e.args[x1] x1 g k = goneW e.args e.args[x1] x1 (isV e.args[x1] (boolW and)) 0)) y_.1 y_.2) (fun y_ => (fun k g => x1 - k) y_.1 y_.2) ((0, isV e.args[x1] (boolW and))) [] (fun y_ => (fun k g => k < x1) y_.1 y_.2) (fun y_ (h : (fun k g => k < x1) y_.1 y_.2) => (fun k g (h : k < x1) => (k + 1, g || sameE (e.args[k]'(by omega)) e.args[x1])) y_.1 y_.2 h) (fun y_ (h : (fun k g => k < x1) y_.1 y_.2) => (fun k g (h : k < x1) => (k + 1, g || sameE (e.args[k]'(by omega)) e.args[x1])) y_.1 y_.2 h) := ⟨⟩
  set_option hygiene false in
  repeat' (first
   | (refine wpA_seqD cfg_ok mix msk (by decide +kernel) fun K hK => ?_)
   | (refine wpA_seq ?_)
   | (refine wpA_block ?_)
   | (refine thenR_normal ?_)
   | (refine thenR_ret ?_)
   | (refine thenR_exit ?_)
   | (refine blockR_normal ?_)
   | (refine blockR_ret ?_)
   | (refine blockR_same ?_)
   | (refine blockR_other rfl ?_)
   | (refine wpA_skip ?_)
   | (refine wpA_ret ?_)
   | (refine wpA_exit ?_)
   | (refine wpA_regD cfg_ok mix msk (by decide +kernel) fun K hK => ?_)
   | (refine hK.out _ _ _ _ _ (by first | (intro h; cases h; done) | (intro _; kernel_rfl)) ?_; clear hK; clear K; try simp only [dropA, Nat.reducePow, Nat.reduceDiv, Nat.reduceMod, ↓reduceIte, Nat.reduceOr, Nat.zero_ne_one])
   | (refine wpA_condD msk (by first | (simp -implicitDefEqProofs [*]; done) | (simp -implicitDefEqProofs [*]; rfl)) ?_; try simp only [dropA, Nat.reducePow, Nat.reduceDiv, Nat.reduceMod, ↓reduceIte, Nat.reduceOr, Nat.zero_ne_one])
   | (refine bodyR_ret (by first | (simp -implicitDefEqProofs [*]; done) | (simp -implicitDefEqProofs [*]; rfl)) ?_)
   | (refine bodyR_normal (by first | (simp -implicitDefEqProofs [*]; done) | (simp -implicitDefEqProofs [*]; rfl)) ?_)
   | (refine runM_id ?_; simp -implicitDefEqProofs)
   | (refine mV_id ?_; simp -implicitDefEqProofs [*])
   | (refine mG_id ?_; simp -implicitDefEqProofs [*])
   | (refine mD_id ?_; simp -implicitDefEqProofs [*])
   | (refine mQ_intro Cal.out ?_)
   | (refine mR_intro (fun _ => Cal.out) ?_)
   | (refine mR_no ?_)
   | (refine mQ_intro (pc0 (by first | assumption | omega | (simp -implicitDefEqProofs [*]; done) | (simp -implicitDefEqProofs; omega))) ?_)
   | (refine mR_intro (fun hw => pc0 (by first | assumption | omega | (simp -implicitDefEqProofs [*]; done) | (simp -implicitDefEqProofs at hw; simp -implicitDefEqProofs [*]; done))) ?_)
   | (refine mQ_id ?_; simp -implicitDefEqProofs [*])
   | (refine mR_id ?_; simp -implicitDefEqProofs [*])
   | (refine goB_true ?_)
   | (refine goB_false ?_)
   | (refine headLD ld0 leS (by first | exact ⟨by first | exact Nat.zero_le _ | omega, by first | trivial | (simp -implicitDefEqProofs [*]; done), by first | rfl | (simp -implicitDefEqProofs [*]; done)⟩ | (simp -implicitDefEqProofs [*]; done)) ?_; rintro x0 ⟨hi0, hs0, hn0⟩ ny0 nz0; (try simp only [headM, List.nil_append, List.cons_append, dropA, Nat.reducePow, Nat.reduceDiv, Nat.reduceMod, ↓reduceIte, Nat.reduceOr, Nat.zero_ne_one]); have hj0 : x0.1 ≤ 4294967296 := by omega)
   | (refine headLD ld0 leS (by first | exact ⟨by first | exact Nat.zero_le _ | omega, by first | trivial | (simp -implicitDefEqProofs [*]; done), by first | rfl | (simp -implicitDefEqProofs [*]; done)⟩ | (simp -implicitDefEqProofs [*]; done)) ?_; rintro x0 ⟨hi0, hs0, hn0⟩ ny0 nz0; (try simp only [headM, List.nil_append, List.cons_append, dropA, Nat.reducePow, Nat.reduceDiv, Nat.reduceMod, ↓reduceIte, Nat.reduceOr, Nat.zero_ne_one]); have hj0 : x0 ≤ 4294967296 := by omega)
   | (refine headLD ld1 leS (by first | exact ⟨by first | exact Nat.zero_le _ | omega, by first | trivial | (simp -implicitDefEqProofs [*]; done), by first | rfl | (simp -implicitDefEqProofs [*]; done)⟩ | (simp -implicitDefEqProofs [*]; done)) ?_; rintro x1 ⟨hi1, hs1, hn1⟩ ny1 nz1; (try simp only [headM, List.nil_append, List.cons_append, dropA, Nat.reducePow, Nat.reduceDiv, Nat.reduceMod, ↓reduceIte, Nat.reduceOr, Nat.zero_ne_one]); have hj1 : x1.1 ≤ 4294967296 := by omega)
   | (refine headLD ld1 leS (by first | exact ⟨by first | exact Nat.zero_le _ | omega, by first | trivial | (simp -implicitDefEqProofs [*]; done), by first | rfl | (simp -implicitDefEqProofs [*]; done)⟩ | (simp -implicitDefEqProofs [*]; done)) ?_; rintro x1 ⟨hi1, hs1, hn1⟩ ny1 nz1; (try simp only [headM, List.nil_append, List.cons_append, dropA, Nat.reducePow, Nat.reduceDiv, Nat.reduceMod, ↓reduceIte, Nat.reduceOr, Nat.zero_ne_one]); have hj1 : x1 ≤ 4294967296 := by omega)
   | (refine headLD ld2 leS (by first | exact ⟨by first | exact Nat.zero_le _ | omega, by first | trivial | (simp -implicitDefEqProofs [*]; done), by first | rfl | (simp -implicitDefEqProofs [*]; done)⟩ | (simp -implicitDefEqProofs [*]; done)) ?_; rintro x2 ⟨hi2, hs2, hn2⟩ ny2 nz2; (try simp only [headM, List.nil_append, List.cons_append, dropA, Nat.reducePow, Nat.reduceDiv, Nat.reduceMod, ↓reduceIte, Nat.reduceOr, Nat.zero_ne_one]); have hj2 : x2.1 ≤ 4294967296 := by omega)
   | (refine headLD ld2 leS (by first | exact ⟨by first | exact Nat.zero_le _ | omega, by first | trivial | (simp -implicitDefEqProofs [*]; done), by first | rfl | (simp -implicitDefEqProofs [*]; done)⟩ | (simp -implicitDefEqProofs [*]; done)) ?_; rintro x2 ⟨hi2, hs2, hn2⟩ ny2 nz2; (try simp only [headM, List.nil_append, List.cons_append, dropA, Nat.reducePow, Nat.reduceDiv, Nat.reduceMod, ↓reduceIte, Nat.reduceOr, Nat.zero_ne_one]); have hj2 : x2 ≤ 4294967296 := by omega)
   | (refine goB_intro (fun h => ?_) (fun h => ?_) <;> (try simp only [Bool.not_eq_true', Bool.not_eq_false', Bool.not_eq_true, Bool.not_eq_false, Bool.and_eq_true, Bool.or_eq_false_iff, and_assoc, decide_eq_true_eq, decide_eq_false_iff_not, Nat.not_lt, Nat.not_le, Int.ofNat_lt, Int.ofNat_le, Int.not_lt, Int.not_le] at h) <;> (try have g := ne_of_beqI h) <;> (repeat (have h' := And.left h; replace h := And.right h)) <;> (try (have hz0 := Eq.symm hn0; rw [List.drop_eq_nil_of_le h] at hz0; simp -implicitDefEqProofs at hz0)) <;> (try (have hz1 := Eq.symm hn1; rw [List.drop_eq_nil_of_le h] at hz1; simp -implicitDefEqProofs at hz1)) <;> (try (have hz3 := Eq.symm hn3; rw [List.drop_eq_nil_of_le h] at hz3; simp -implicitDefEqProofs at hz3)) <;> (try (have hz0 := Eq.symm hn0; rw [hst0.out] at hz0; rw [dif_neg (by first | exact Nat.not_lt.mpr h | omega)] at hz0)) <;> (try (have hz1 := Eq.symm hn1; rw [hst1.out] at hz1; rw [dif_neg (by first | exact Nat.not_lt.mpr h | omega)] at hz1)) <;> (try (have hz2 := Eq.symm hn2; rw [hst2.out] at hz2; rw [dif_neg (by first | exact Nat.not_lt.mpr h | omega)] at hz2)) <;> (try (have hz3 := Eq.symm hn3; rw [hst3.out] at hz3; rw [dif_neg (by first | exact Nat.not_lt.mpr h | omega)] at hz3))))
  ·refine again_nx ny2 (by assumption) (by dsimp only; omega) ?_ leS
   rw [hst2.out, dif_pos h] at hn2
   exact ⟨by dsimp only; omega, trivial, hn2⟩
  ·rw [hst2.out, dif_neg (by omega)] at hn2
   rw [List.drop_eq_getElem_cons (by assumption)] at hn1
   simp only [list2] at hn1
   rw [hgone, ← hn2, if_pos h] at hn1
   rw [hz0, ← hn1]
  ·refine again_nx ny1 (by assumption) (by dsimp only; omega) ?_ leS
   rw [hst2.out, dif_neg (by omega)] at hn2
   rw [List.drop_eq_getElem_cons (by assumption)] at hn1
   simp only [list2] at hn1
   rw [hgone, ← hn2, if_neg (by rw [h]; simp)] at hn1
   exact ⟨by dsimp only; omega, trivial, hn1⟩
 ·have ld3 : LD (σ := Nat) 6 340281717883831146609921041119727061024 [] (fun y_ => (fun i => [(11, .p (.int .i64 i))]) y_) (fun y_ => (fun i => []) y_) (fun y_ => (fun i => InvL (i ≤ (e.args).length) (True) (list3 e and (e.args.drop i) = list3 e and e.args)) y_) (fun y_ => (fun i => (e.args).length - i) y_) (0) [] (fun y_ => (fun i => i < (e.args).length) y_) (fun y_ (h : (fun i => i < (e.args).length) y_) => (fun i (h : i < (e.args).length) => i + 1) y_ h) (fun y_ (h : (fun i => i < (e.args).length) y_) => (fun i (h : i < (e.args).length) => i + 1) y_ h) := ⟨⟩
  exact walk⟩
end
section
attribute [local simp] wl0 wl1 wl2 wl3 wl4 wl5 wl6 wl7 wl8 wl9 wl10 wl11 wl12 wl13 wl14 wl15 wl16 wl17 wl18 wl19 wl20
attribute [local simp high] evalOp_fieldP
attribute [local simp] fldV_p fldV_agg aggP_agg aggP_col aggP_val aggP_expr
theorem len1 {e : Expr} (h : e.args.length = 1) : ∃ a, e.args = [a] := by
 match hh : e.args with
 | [a] => exact ⟨a, rfl⟩
 | [] => rw [hh] at h; simp at h
 | _ :: _ :: _ => rw [hh] at h; simp at h
theorem len2 {e : Expr} (h : e.args.length = 2) : ∃ a b, e.args = [a, b] := by
 match hh : e.args with
 | [a, b] => exact ⟨a, b, rfl⟩
 | [] => rw [hh] at h; simp at h
 | [_] => rw [hh] at h; simp at h
 | _ :: _ :: _ :: _ => rw [hh] at h; simp at h
theorem inner_len {e : Expr} (h : Inner e) : (e.op = 9 ∨ e.op = 11 ∨ e.op = 21 ∨ e.op = 22 ∨ e.op = 23 → e.args.length = 1) ∧ (e.op = 19 ∨ e.op = 20 ∨ e.op = 25 → 2 ≤ e.args.length) ∧ (e.op = 24 → 3 ≤ e.args.length ∧ e.args.length % 2 = 1) ∧
  (e.op ≤ 18 → e.op ≠ 9 → e.op ≠ 11 → e.args.length = 2) := by
 have hm := h.many
 have h1 := h.lo
 have h2 := h.hi
 unfold many at hm
 refine ⟨fun ho => ?_, fun ho => ?_, fun ho => ?_, fun ho h9 h11 => ?_⟩
 ·rw [if_pos (by simpa [or_assoc] using ho)] at hm
  simp at hm; omega
 ·rw [if_neg (by simp; omega), if_pos (by simpa [or_assoc] using ho)] at hm
  simp at hm; omega
 ·rw [if_neg (by simp; omega), if_neg (by simp; omega), if_pos (by simpa using ho)] at hm
  have ht : ((e.args.length : Int)).tmod 2 = ((e.args.length % 2 : Nat) : Int) := rfl
  rw [ht] at hm
  simp at hm; omega
 ·rw [if_neg (by simp; omega), if_neg (by simp; omega), if_neg (by simp; omega)] at hm
  simp at hm; omega
theorem cal93 (a : Expr) (hw : wf a = true) : Cal 93 [a.p] [(notE a).1.p, .bool (notE a).2] := by
 by_cases h21 : a.op = 21
 ·have hi := nodeR_inner (wf_node hw) (by omega) (by omega) (by omega)
  obtain ⟨x, hx⟩ := len1 ((inner_len hi).1 (by omega))
  rw [show notE a = (x, true) by simp [notE, h21, hx, hdE]]
  exact v93_21 a h21 x hx
 ·by_cases h12 : 12 ≤ a.op ∧ a.op ≤ 17
  ·rw [show notE a = (opE (opposite a.op) a.args, true) by simp [notE, h21, h12]]
   exact v93_12 a h12
  ·by_cases h19 : a.op = 19 ∨ a.op = 20
   ·rw [show notE a = (opE (39 - a.op) (a.args.map notL), true) by
     unfold notE
     rw [if_neg (by simpa using h21), if_neg (by simpa using h12), if_pos (by simpa using h19)]
     rfl]
    exact v93_19 a h19
   ·rw [show notE a = (a, false) by
     unfold notE
     rw [if_neg (by simpa using h21), if_neg (by simpa using h12), if_neg (by simpa using h19)]]
    exact v93_no a h21 h12 (by omega) (by omega)
theorem cal79 (e : Expr) (hi : Inner e) (l : List Val) (hl : l.length = e.args.length) (hs : allSmall l = true) : Cal 79 [e.p, .lst (Val.ps l)] [(valueV e l).p] := by
 have hin := inner_len hi
 have hm := allSmall_mem hs
 have h1 := hi.lo
 have h2 := hi.hi
 have two : e.args.length = 2 → ∃ x y, l = [x, y] := fun h => by
  match l, hl with
  | [x, y], _ => exact ⟨x, y, rfl⟩
  | [], hl => simp at hl; omega
  | [_], hl => simp at hl; omega
  | _ :: _ :: _ :: _, hl => simp at hl; omega
 have one : e.args.length = 1 → ∃ x, l = [x] := fun h => by
  match l, hl with
  | [x], _ => exact ⟨x, rfl⟩
  | [], hl => simp at hl; omega
  | _ :: _ :: _, hl => simp at hl; omega
 have strict : ∀ k : Int, e.op = k → 4 ≤ k ∧ k ≤ 17 → (Cal 135 [.int .i64 k, .lst (Val.ps l)] [(strictV k l).p]) → Cal 79 [e.p, .lst (Val.ps l)] [(valueV e l).p] := by
  intro k hk hk2 hc
  rw [show valueV e l = if anyNullV l then nullW else strictV k l by
   unfold valueV
   subst hk
   rw [if_neg (by simp; omega), if_neg (by simp; omega), if_neg (by simp; omega), if_neg (by simp; omega), if_neg (by simp; omega), if_neg (by simp; omega), if_neg (by simp; omega), if_neg (by simp; omega), if_neg (by simp; omega)]]
  exact v79_s e (by omega) l _ (by rw [hk]; exact hc)
 have hs2 : ∀ {x y : Val}, l = [x, y] → x.text.size ≤ 200 ∧ y.text.size ≤ 200 := fun {x y} h => ⟨hm x (by simp [h]), hm y (by simp [h])⟩
 have hs1 : ∀ {x : Val}, l = [x] → x.text.size ≤ 200 := fun {x} h => hm x (by simp [h])
 have cases : e.op = 4 ∨ e.op = 5 ∨ e.op = 6 ∨ e.op = 7 ∨ e.op = 8 ∨ e.op = 9 ∨ e.op = 10 ∨ e.op = 11 ∨ e.op = 12 ∨ e.op = 13 ∨ e.op = 14 ∨ e.op = 15 ∨ e.op = 16 ∨ e.op = 17 ∨ e.op = 18 ∨ e.op = 19 ∨ e.op = 20 ∨ e.op = 21 ∨ e.op = 22 ∨ e.op = 23 ∨ e.op = 24 ∨ e.op = 25 := by omega
 rcases cases with h | h | h | h | h | h | h | h | h | h | h | h | h | h | h | h | h | h | h | h | h | h
 ·obtain ⟨x, y, hxy⟩ := two (hin.2.2.2 (by omega) (by omega) (by omega))
  exact strict 4 h (by omega) (by have := hs2 hxy; subst hxy; exact s135_4 x y this.1 this.2)
 ·obtain ⟨x, y, hxy⟩ := two (hin.2.2.2 (by omega) (by omega) (by omega))
  exact strict 5 h (by omega) (by have := hs2 hxy; subst hxy; exact s135_5 x y this.1 this.2)
 ·obtain ⟨x, y, hxy⟩ := two (hin.2.2.2 (by omega) (by omega) (by omega))
  exact strict 6 h (by omega) (by have := hs2 hxy; subst hxy; exact s135_6 x y this.1 this.2)
 ·obtain ⟨x, y, hxy⟩ := two (hin.2.2.2 (by omega) (by omega) (by omega))
  exact strict 7 h (by omega) (by have := hs2 hxy; subst hxy; exact s135_7 x y this.1 this.2)
 ·obtain ⟨x, y, hxy⟩ := two (hin.2.2.2 (by omega) (by omega) (by omega))
  exact strict 8 h (by omega) (by have := hs2 hxy; subst hxy; exact s135_8 x y this.1 this.2)
 ·obtain ⟨x, hx⟩ := one (hin.1 (by omega))
  exact strict 9 h (by omega) (by have := hs1 hx; subst hx; exact s135_9 x this)
 ·obtain ⟨x, y, hxy⟩ := two (hin.2.2.2 (by omega) (by omega) (by omega))
  exact strict 10 h (by omega) (by have := hs2 hxy; subst hxy; exact s135_10 x y this.1 this.2)
 ·obtain ⟨x, hx⟩ := one (hin.1 (by omega))
  exact strict 11 h (by omega) (by have := hs1 hx; subst hx; exact s135_11 x this)
 ·obtain ⟨x, y, hxy⟩ := two (hin.2.2.2 (by omega) (by omega) (by omega))
  exact strict 12 h (by omega) (by have := hs2 hxy; subst hxy; exact s135_12 x y this.1 this.2)
 ·obtain ⟨x, y, hxy⟩ := two (hin.2.2.2 (by omega) (by omega) (by omega))
  exact strict 13 h (by omega) (by have := hs2 hxy; subst hxy; exact s135_13 x y this.1 this.2)
 ·obtain ⟨x, y, hxy⟩ := two (hin.2.2.2 (by omega) (by omega) (by omega))
  exact strict 14 h (by omega) (by have := hs2 hxy; subst hxy; exact s135_14 x y this.1 this.2)
 ·obtain ⟨x, y, hxy⟩ := two (hin.2.2.2 (by omega) (by omega) (by omega))
  exact strict 15 h (by omega) (by have := hs2 hxy; subst hxy; exact s135_15 x y this.1 this.2)
 ·obtain ⟨x, y, hxy⟩ := two (hin.2.2.2 (by omega) (by omega) (by omega))
  exact strict 16 h (by omega) (by have := hs2 hxy; subst hxy; exact s135_16 x y this.1 this.2)
 ·obtain ⟨x, y, hxy⟩ := two (hin.2.2.2 (by omega) (by omega) (by omega))
  exact strict 17 h (by omega) (by have := hs2 hxy; subst hxy; exact s135_17 x y this.1 this.2)
 ·obtain ⟨x, y, hxy⟩ := two (hin.2.2.2 (by omega) (by omega) (by omega))
  subst hxy
  rw [show valueV e [x, y] = boolW (x == y) by simp [valueV, h]]
  exact v79_18 e h x y
 ·rw [show valueV e l = andV l by simp [valueV, h]]
  exact v79_19 e h l
 ·rw [show valueV e l = orVs l by simp [valueV, h]]
  exact v79_20 e h l
 ·obtain ⟨x, hx⟩ := one (hin.1 (by omega))
  subst hx
  rw [show valueV e [x] = notV x by simp [valueV, h]]
  exact v79_21 e h x
 ·obtain ⟨x, hx⟩ := one (hin.1 (by omega))
  subst hx
  rw [show valueV e [x] = boolW (x.kind == 0) by simp [valueV, h]]
  exact v79_22 e h x
 ·obtain ⟨x, hx⟩ := one (hin.1 (by omega))
  subst hx
  rw [show valueV e [x] = boolW (trueV x) by simp [valueV, h]]
  exact v79_23 e h x
 ·have := (hin.2.2.1 h).1
  rw [show valueV e l = caseV (lastV l) l by simp [valueV, h]]
  exact v79_24 e h l (l.length - 1) (by omega)
 ·rw [show valueV e l = coalV l by simp [valueV, h]]
  exact v79_25 e h l
end
section
attribute [local simp] wl0 wl1 wl2 wl3 wl4 wl5 wl6 wl7 wl8 wl9 wl10 wl11 wl12 wl13 wl14 wl15 wl16 wl17 wl18 wl19 wl20
attribute [local simp high] evalOp_fieldP
attribute [local simp] fldV_p fldV_agg aggP_agg aggP_col aggP_val aggP_expr
section
variable (e : Expr) (cols : List Col) (hw : wf e = true)
include hw
theorem s57_none (h : e.args = []) : Cal 57 [e.p, .lst (Col.ps cols)] [e.p, .bool false] := ⟨by
 have het : Expr.mk e.op e.n e.m e.kind e.lit [] e.rels = e := by rw [← h]; exact expr_eta e
 have msk : Msk 85029048264947072000383635074424237576 85070591730234615865843651857933663752 := ⟨⟩
 refine CallP.of_bodyN 126 cfg_ok Tryz.func57 rfl rfl (by kernel_rfl) fun base => ?_; simp only [mkA, Nat.reduceAdd]
 refine wpA_ok 0 rfl fun ok0 => ?_
 refine wpA_ok 1 rfl fun ok1 => ?_
 exact walk⟩
variable (h91 : Cal 91 [e.p, .lst (Col.ps cols)] [(constantE e cols).1.p, .bool (constantE e cols).2])
include h91
theorem s57_const (h0 : ((e.args.length : Int) == 0) = false) (hc : (constantE e cols).2 = true) : Cal 57 [e.p, .lst (Col.ps cols)] [(constantE e cols).1.p, .bool true] := ⟨by
 have msk : Msk 85029048264947072000383635074424237576 85070591730234615865843651857933663752 := ⟨⟩
 refine CallP.of_bodyN 126 cfg_ok Tryz.func57 rfl rfl (by kernel_rfl) fun base => ?_; simp only [mkA, Nat.reduceAdd]
 refine wpA_ok 0 rfl fun ok0 => ?_
 refine wpA_ok 1 rfl fun ok1 => ?_
 exact walk⟩
variable (h0 : ((e.args.length : Int) == 0) = false) (hc : (constantE e cols).2 = false)
include h0 hc
theorem s57_19 (h : e.op = 19) : Cal 57 [e.p, .lst (Col.ps cols)] [((listedE e true).1).p, .bool ((listedE e true).2)] := ⟨by
 haveI := cal92 e true hw
 have msk : Msk 85029048264947072000383635074424237576 85070591730234615865843651857933663752 := ⟨⟩
 refine CallP.of_bodyN 126 cfg_ok Tryz.func57 rfl rfl (by kernel_rfl) fun base => ?_; simp only [mkA, Nat.reduceAdd]
 refine wpA_ok 0 rfl fun ok0 => ?_
 refine wpA_ok 1 rfl fun ok1 => ?_
 exact walk⟩
theorem s57_20 (h : e.op = 20) : Cal 57 [e.p, .lst (Col.ps cols)] [((listedE e false).1).p, .bool ((listedE e false).2)] := ⟨by
 haveI := cal92 e false hw
 have msk : Msk 85029048264947072000383635074424237576 85070591730234615865843651857933663752 := ⟨⟩
 refine CallP.of_bodyN 126 cfg_ok Tryz.func57 rfl rfl (by kernel_rfl) fun base => ?_; simp only [mkA, Nat.reduceAdd]
 refine wpA_ok 0 rfl fun ok0 => ?_
 refine wpA_ok 1 rfl fun ok1 => ?_
 exact walk⟩
theorem s57_21 (h : e.op = 21) (a : Expr) (hab : e.args = [a]) : Cal 57 [e.p, .lst (Col.ps cols)] [((notE a).1).p, .bool ((notE a).2)] := ⟨by
 haveI := cal93 a (wf_arg hw a (by simp [hab]))
 have msk : Msk 85029048264947072000383635074424237576 85070591730234615865843651857933663752 := ⟨⟩
 refine CallP.of_bodyN 126 cfg_ok Tryz.func57 rfl rfl (by kernel_rfl) fun base => ?_; simp only [mkA, Nat.reduceAdd]
 refine wpA_ok 0 rfl fun ok0 => ?_
 refine wpA_ok 1 rfl fun ok1 => ?_
 exact walk⟩
theorem s57_22 (h : e.op = 22) (a : Expr) (hab : e.args = [a]) : Cal 57 [e.p, .lst (Col.ps cols)] [(truthE false).p, .bool (!(kindE cols a).1.null)] := ⟨by
 haveI := cal94 a cols (wf_arg hw a (by simp [hab]))
 have msk : Msk 85029048264947072000383635074424237576 85070591730234615865843651857933663752 := ⟨⟩
 refine CallP.of_bodyN 126 cfg_ok Tryz.func57 rfl rfl (by kernel_rfl) fun base => ?_; simp only [mkA, Nat.reduceAdd]
 refine wpA_ok 0 rfl fun ok0 => ?_
 refine wpA_ok 1 rfl fun ok1 => ?_
 exact walk⟩
theorem s57_23 (h : e.op = 23) (a : Expr) (hab : e.args = [a]) : Cal 57 [e.p, .lst (Col.ps cols)] [(a).p, .bool (!(kindE cols a).1.null)] := ⟨by
 haveI := cal94 a cols (wf_arg hw a (by simp [hab]))
 have msk : Msk 85029048264947072000383635074424237576 85070591730234615865843651857933663752 := ⟨⟩
 refine CallP.of_bodyN 126 cfg_ok Tryz.func57 rfl rfl (by kernel_rfl) fun base => ?_; simp only [mkA, Nat.reduceAdd]
 refine wpA_ok 0 rfl fun ok0 => ?_
 refine wpA_ok 1 rfl fun ok1 => ?_
 exact walk⟩
theorem s57_18 (h : e.op = 18) (a b : Expr) (hab : e.args = [a, b]) : Cal 57 [e.p, .lst (Col.ps cols)] [((sameStepE cols a b).1).p, .bool ((sameStepE cols a b).2)] := ⟨by
 haveI := cal95 e cols hw a b hab
 have msk : Msk 85029048264947072000383635074424237576 85070591730234615865843651857933663752 := ⟨⟩
 refine CallP.of_bodyN 126 cfg_ok Tryz.func57 rfl rfl (by kernel_rfl) fun base => ?_; simp only [mkA, Nat.reduceAdd]
 refine wpA_ok 0 rfl fun ok0 => ?_
 refine wpA_ok 1 rfl fun ok1 => ?_
 exact walk⟩
theorem s57_24 (h : e.op = 24) (n : Nat) (hn : e.args.length = n + 1) (h2 : 2 ≤ n) : Cal 57 [e.p, .lst (Col.ps cols)] [((casesE e).1).p, .bool ((casesE e).2)] := ⟨by
 haveI := cal96 e hw n hn h2
 have msk : Msk 85029048264947072000383635074424237576 85070591730234615865843651857933663752 := ⟨⟩
 refine CallP.of_bodyN 126 cfg_ok Tryz.func57 rfl rfl (by kernel_rfl) fun base => ?_; simp only [mkA, Nat.reduceAdd]
 refine wpA_ok 0 rfl fun ok0 => ?_
 refine wpA_ok 1 rfl fun ok1 => ?_
 exact walk⟩
theorem s57_25 (h : e.op = 25) (n : Nat) (hn : e.args.length = n + 1) : Cal 57 [e.p, .lst (Col.ps cols)] [((firstE e cols).1).p, .bool ((firstE e cols).2)] := ⟨by
 haveI := cal97 e cols hw n hn
 have msk : Msk 85029048264947072000383635074424237576 85070591730234615865843651857933663752 := ⟨⟩
 refine CallP.of_bodyN 126 cfg_ok Tryz.func57 rfl rfl (by kernel_rfl) fun base => ?_; simp only [mkA, Nat.reduceAdd]
 refine wpA_ok 0 rfl fun ok0 => ?_
 refine wpA_ok 1 rfl fun ok1 => ?_
 exact walk⟩
attribute [local simp] strictL litE in
theorem s57_s (h : 4 ≤ e.op ∧ e.op ≤ 17) (hcmp : 12 ≤ e.op → Cal 98 [e.p, .lst (Col.ps cols)] [(comparedE e cols (hdE e.args) (lastE e.args)).1.p, .bool (comparedE e cols (hdE e.args) (lastE e.args)).2])
  (hcom : e.op < 12 → Cal 99 [e.p, .lst (Col.ps cols)] [(computedE e cols).1.p, .bool (computedE e cols).2]) : Cal 57 [e.p, .lst (Col.ps cols)] [(strictL e cols e.args).1.p, .bool (strictL e cols e.args).2] := ⟨by
 have h19 : ¬ e.op = 19 := by omega
 have h20 : ¬ e.op = 20 := by omega
 have h21 : ¬ e.op = 21 := by omega
 have h22 : ¬ e.op = 22 := by omega
 have h23 : ¬ e.op = 23 := by omega
 have h18 : ¬ e.op = 18 := by omega
 have h24 : ¬ e.op = 24 := by omega
 have h25 : ¬ e.op = 25 := by omega
 have h17 : e.op ≤ 17 := h.2
 haveI := cal94 e cols hw
 clear h
 by_cases h12 : 12 ≤ e.op
 ·haveI := hcmp h12
  clear hcmp hcom
  have msk : Msk 85029048264947072000383635074424237576 85070591730234615865843651857933663752 := ⟨⟩
  refine CallP.of_bodyN 126 cfg_ok Tryz.func57 rfl rfl (by kernel_rfl) fun base => ?_; simp only [mkA, Nat.reduceAdd]
  refine wpA_ok 0 rfl fun ok0 => ?_
  refine wpA_ok 1 rfl fun ok1 => ?_
  have hl := okP_args ok0
  have ld0 : LD (σ := Nat) 1 324517315718387441402881121452320 [] (fun y_ => (fun i => [(8, .p (.int .i64 i))]) y_) (fun y_ => (fun i => []) y_) (fun y_ => (fun i => InvL (i ≤ (e.args).length) (True) (strictL e cols (e.args.drop i) = strictL e cols e.args)) y_) (fun y_ => (fun i => (e.args).length - i) y_) (0) [] (fun y_ => (fun i => i < (e.args).length) y_) (fun y_ (h : (fun i => i < (e.args).length) y_) => (fun i (h : i < (e.args).length) => i + 1) y_ h) (fun y_ (h : (fun i => i < (e.args).length) y_) => (fun i (h : i < (e.args).length) => i + 1) y_ h) := ⟨⟩
  exact walk
 ·haveI := hcom (by omega)
  have h12' : ¬ 12 ≤ e.op := h12
  clear hcmp hcom
  have msk : Msk 85029048264947072000383635074424237576 85070591730234615865843651857933663752 := ⟨⟩
  refine CallP.of_bodyN 126 cfg_ok Tryz.func57 rfl rfl (by kernel_rfl) fun base => ?_; simp only [mkA, Nat.reduceAdd]
  refine wpA_ok 0 rfl fun ok0 => ?_
  refine wpA_ok 1 rfl fun ok1 => ?_
  have hl := okP_args ok0
  have ld0 : LD (σ := Nat) 1 324517315718387441402881121452320 [] (fun y_ => (fun i => [(8, .p (.int .i64 i))]) y_) (fun y_ => (fun i => []) y_) (fun y_ => (fun i => InvL (i ≤ (e.args).length) (True) (strictL e cols (e.args.drop i) = strictL e cols e.args)) y_) (fun y_ => (fun i => (e.args).length - i) y_) (0) [] (fun y_ => (fun i => i < (e.args).length) y_) (fun y_ (h : (fun i => i < (e.args).length) y_) => (fun i (h : i < (e.args).length) => i + 1) y_ h) (fun y_ (h : (fun i => i < (e.args).length) y_) => (fun i (h : i < (e.args).length) => i + 1) y_ h) := ⟨⟩
  exact walk⟩
end
end
section
attribute [local simp] wl0 wl1 wl2 wl3 wl4 wl5 wl6 wl7 wl8 wl9 wl10 wl11 wl12 wl13 wl14 wl15 wl16 wl17 wl18 wl19 wl20
attribute [local simp high] evalOp_fieldP
attribute [local simp] ty86
attribute [local simp] fldV_p fldV_agg aggP_agg aggP_col aggP_val aggP_expr
def tk (k : Int) : Int := w64 (1 + w64 ((IntKind.wrap .u64 (w64 (k - 1))).tmod 3))
def tcL (i : Nat) (acc : List Col) : List Col → List Col
 | [] => acc
 | c :: r => if i < 4 then tcL (i + 1) (acc ++ [⟨tk c.kind, c.null⟩]) r else acc
def tameCols (l : List Col) : List Col := if (tcL 0 [] l).length = 0 then [⟨1, true⟩] else tcL 0 [] l
attribute [local simp] tk tcL in
theorem cal48 (l : List Col) : Cal 48 [.lst (Col.ps l)] [.lst (Col.ps (tameCols l))] := ⟨by
 unfold tameCols
 generalize hT : tcL 0 [] l = T
 have msk : Msk 4329327030242 4398046511074 := ⟨⟩
 refine CallP.of_bodyN 42 cfg_ok Tryz.func48 rfl rfl (by kernel_rfl) fun base => ?_; simp only [mkA, Nat.reduceAdd]
 refine wpA_ok 0 rfl fun ok0 => ?_
 have hl := okP_cps ok0
 have ld0 : LD (σ := Nat × List Col) 0 17179869176 [32] (fun y_ => (fun i acc => [(4, .p (.int .i64 i)), (3, .own 33 i)]) y_.1 y_.2) (fun y_ => (fun i acc => [(33, .arr 2 (Col.ps acc) false)]) y_.1 y_.2) (fun y_ => (fun i acc => InvL (i ≤ l.length) (acc.length = i) (tcL i acc (l.drop i) = T)) y_.1 y_.2) (fun y_ => (fun i acc => l.length - i) y_.1 y_.2) ((0, [])) [33] (fun y_ => (fun i acc => i < l.length ∧ i < 4) y_.1 y_.2) (fun y_ (h : (fun i acc => i < l.length ∧ i < 4) y_.1 y_.2) => (fun i acc (h : i < l.length ∧ i < 4) => (i + 1, acc ++ [⟨tk l[i].kind, l[i].null⟩])) y_.1 y_.2 h) (fun y_ (h : (fun i acc => i < l.length ∧ i < 4) y_.1 y_.2) => (fun i acc (h : i < l.length ∧ i < 4) => (i + 1, acc ++ [⟨tk l[i].kind, l[i].null⟩])) y_.1 y_.2 h) := ⟨⟩
 have st0 : Stop 5 := ⟨⟩
 have st1 : Stop 6 := ⟨⟩
 refine walkX ?_ ?_
 ·intro x0 hi0 hs0 hn0 ny0 nz0 hj0 h' h
  refine ⟨?_⟩
  clear st0 st1
  have h2 : x0.1 < 4 := by omega
  have hroom : roomFor (x0.1 + 1) 16 = true := roomFor_of (by omega) (by decide)
  have hd := hn0
  rw [List.drop_eq_getElem_cons h', tcL, if_pos h2] at hd
  exact walkX trivial trivial
 ·intro x0 hi0 hs0 hn0 ny0 nz0 hj0 h
  refine ⟨?_⟩
  clear st0 st1
  have hd : x0.2 = T := by
   rw [← hn0]
   by_cases hi : x0.1 < l.length
   ·have hk : ¬ x0.1 < 4 := by
     simp only [decide_eq_true hi, Bool.true_and, decide_eq_false_iff_not] at h
     omega
    rw [List.drop_eq_getElem_cons hi, tcL, if_neg hk]
   ·rw [List.drop_eq_nil_of_le (by omega), tcL]
  rw [← hd]
  have hroom : roomFor (0 + 1) 16 = true := by decide
  clear ld0 hn0 hd ny0 nz0 hT h
  by_cases hz : x0.1 = 0
  ·have ha : x0.2 = [] := List.eq_nil_of_length_eq_zero (by omega)
   rw [ha, hz]
   exact walk
  ·rw [if_neg (by omega)]
   have hz' : ((x0.1 : Int) == 0) = false := by simp; omega
   exact walk⟩
def piece (c : UInt8) : ByteArray := (⟨#[97, 98, 39]⟩ : ByteArray).extract ((c.toNat : Int).tmod 3).toNat ((c.toNat : Int).tmod 3 + 1).toNat
def tameTxt (s : ByteArray) (i : Nat) (acc : ByteArray) : ByteArray :=
 if h : i < s.size ∧ i < 3 then tameTxt s (i + 1) (acc ++ piece (s[i]'h.1)) else acc
termination_by 3 - i
def tameAs (v : Val) (c : Col) : Val :=
 if c.null && (v.kind == 0 || (IntKind.wrap .u64 v.int).tmod 5 == 4) then nullW
 else if c.kind == 2 then boolW (v.int.tmod 2 != 0)
 else if c.kind == 3 then textW (tameTxt v.text 0 ⟨#[]⟩)
 else if (IntKind.wrap .u64 v.int).tmod 16 == 15 then intW v.int
 else intW (w64 (w64 ((IntKind.wrap .u64 v.int).tmod 7) - 2))
theorem byte3 (c : UInt8) : 0 ≤ (c.toNat : Int).tmod 3 ∧ (c.toNat : Int).tmod 3 < 3 := by
 have h1 : (0 : Int) ≤ (c.toNat : Int) := by omega
 have h2 := Int.tmod_lt_of_pos (c.toNat : Int) (show (0 : Int) < 3 by decide)
 have h3 := Int.tmod_nonneg (3 : Int) h1
 exact ⟨h3, h2⟩
theorem piece_size (c : UInt8) : (piece c).size = 1 := by
 obtain ⟨h1, h2⟩ := byte3 c
 unfold piece
 generalize (c.toNat : Int).tmod 3 = k at h1 h2
 have h3 : k = 0 ∨ k = 1 ∨ k = 2 := by omega
 rcases h3 with rfl | rfl | rfl <;> rfl
theorem cal126_null (v : Val) (c : Col) (hc : ¬ c.kind = 3) : Cal 126 [v.p, c.p] [(tameAs v c).p] := ⟨by
 have hc' : (c.kind == 3) = false := by simpa using hc
 unfold tameAs
 have msk : Msk 37760485116682255204224 37778931862957153320832 := ⟨⟩
 refine CallP.of_bodyN 75 cfg_ok Tryz.func126 rfl rfl (by kernel_rfl) fun base => ?_; simp only [mkA, Nat.reduceAdd]
 refine wpA_ok 0 rfl fun ok0 => ?_
 refine wpA_ok 1 rfl fun ok1 => ?_
 exact walk⟩
attribute [local simp] piece in
theorem cal126_text (v : Val) (c : Col) (hsz : v.text.size ≤ 4294967296) (hc : c.kind = 3) : Cal 126 [v.p, c.p] [(tameAs v c).p] := ⟨by
 have hc' : (c.kind == 3) = true := by simpa using hc
 have hc2 : (c.kind == 2) = false := by rw [hc]; rfl
 unfold tameAs
 generalize hR : tameTxt v.text 0 ⟨#[]⟩ = R
 have msk : Msk 37760485116682255204224 37778931862957153320832 := ⟨⟩
 refine CallP.of_bodyN 75 cfg_ok Tryz.func126 rfl rfl (by kernel_rfl) fun base => ?_; simp only [mkA, Nat.reduceAdd]
 refine wpA_ok 0 rfl fun ok0 => ?_
 refine wpA_ok 1 rfl fun ok1 => ?_
 have ld0 : LD (σ := Nat × ByteArray) 1 288230367561777248 [] (fun y_ => (fun i acc => [(6, .p (.int .i64 i)), (5, .p (.str acc))]) y_.1 y_.2) (fun y_ => (fun i acc => []) y_.1 y_.2) (fun y_ => (fun i acc => InvL (i ≤ v.text.size) (acc.size = i) (tameTxt v.text i acc = R)) y_.1 y_.2) (fun y_ => (fun i acc => v.text.size - i) y_.1 y_.2) ((0, ⟨#[]⟩)) [] (fun y_ => (fun i acc => i < v.text.size ∧ i < 3) y_.1 y_.2) (fun y_ (h : (fun i acc => i < v.text.size ∧ i < 3) y_.1 y_.2) => (fun i acc (h : i < v.text.size ∧ i < 3) => (i + 1, acc ++ piece v.text[i])) y_.1 y_.2 h) (fun y_ (h : (fun i acc => i < v.text.size ∧ i < 3) y_.1 y_.2) => (fun i acc (h : i < v.text.size ∧ i < 3) => (i + 1, acc ++ piece v.text[i])) y_.1 y_.2 h) := ⟨⟩
 have st0 : Stop 11 := ⟨⟩
 have st1 : Stop 12 := ⟨⟩
 repeat' (first
  | (refine wpA_stopS st0 ?_)
  | (refine wpA_stopR st0 ?_)
  | (refine wpA_stopS st1 ?_)
  | (refine wpA_stopR st1 ?_)
  | (refine wpA_seqD cfg_ok mix msk (by decide +kernel) fun K hK => ?_)
  | (refine wpA_seq ?_)
  | (refine wpA_block ?_)
  | (refine thenR_normal ?_)
  | (refine thenR_ret ?_)
  | (refine thenR_exit ?_)
  | (refine blockR_normal ?_)
  | (refine blockR_ret ?_)
  | (refine blockR_same ?_)
  | (refine blockR_other rfl ?_)
  | (refine wpA_skip ?_)
  | (refine wpA_ret ?_)
  | (refine wpA_exit ?_)
  | (refine wpA_regD cfg_ok mix msk (by decide +kernel) fun K hK => ?_)
  | (refine hK.out _ _ _ _ _ (by first | (intro h; cases h; done) | (intro _; kernel_rfl)) ?_; clear hK; clear K; try simp only [dropA, Nat.reducePow, Nat.reduceDiv, Nat.reduceMod, ↓reduceIte, Nat.reduceOr, Nat.zero_ne_one])
  | (refine wpA_condD msk (by first | (simp -implicitDefEqProofs [*]; done) | (simp -implicitDefEqProofs [*]; rfl)) ?_; try simp only [dropA, Nat.reducePow, Nat.reduceDiv, Nat.reduceMod, ↓reduceIte, Nat.reduceOr, Nat.zero_ne_one])
  | (refine bodyR_ret (by first | (simp -implicitDefEqProofs [*]; done) | (simp -implicitDefEqProofs [*]; rfl)) ?_)
  | (refine bodyR_normal (by first | (simp -implicitDefEqProofs [*]; done) | (simp -implicitDefEqProofs [*]; rfl)) ?_)
  | (refine runM_id ?_; simp -implicitDefEqProofs)
  | (refine mV_id ?_; simp -implicitDefEqProofs [*])
  | (refine mG_id ?_; simp -implicitDefEqProofs [*])
  | (refine mD_id ?_; simp -implicitDefEqProofs [*])
  | (refine mQ_intro Cal.out ?_)
  | (refine mR_intro (fun _ => Cal.out) ?_)
  | (refine mR_no ?_)
  | (refine mQ_id ?_; simp -implicitDefEqProofs [*])
  | (refine mR_id ?_; simp -implicitDefEqProofs [*])
  | (refine goB_true ?_)
  | (refine goB_false ?_)
  | (refine headLD ld0 leS (by first | exact ⟨by first | exact Nat.zero_le _ | omega, by first | trivial | (simp -implicitDefEqProofs [*]; done), by first | rfl | (simp -implicitDefEqProofs [*]; done)⟩ | (simp -implicitDefEqProofs [*]; done)) ?_; rintro x0 ⟨hi0, hs0, hn0⟩ ny0 nz0; (try simp only [headM, List.nil_append, List.cons_append, dropA, Nat.reducePow, Nat.reduceDiv, Nat.reduceMod, ↓reduceIte, Nat.reduceOr, Nat.zero_ne_one]); have hj0 : x0.1 ≤ 4294967296 := by omega)
  | (refine headLD ld0 leS (by first | exact ⟨by first | exact Nat.zero_le _ | omega, by first | trivial | (simp -implicitDefEqProofs [*]; done), by first | rfl | (simp -implicitDefEqProofs [*]; done)⟩ | (simp -implicitDefEqProofs [*]; done)) ?_; rintro x0 ⟨hi0, hs0, hn0⟩ ny0 nz0; (try simp only [headM, List.nil_append, List.cons_append, dropA, Nat.reducePow, Nat.reduceDiv, Nat.reduceMod, ↓reduceIte, Nat.reduceOr, Nat.zero_ne_one]); have hj0 : x0 ≤ 4294967296 := by omega)
  | (refine goB_intro (fun h => ?_) (fun h => ?_) <;> (try simp only [Bool.not_eq_true', Bool.not_eq_false', Bool.not_eq_true, Bool.not_eq_false, Bool.and_eq_true, Bool.or_eq_false_iff, and_assoc, decide_eq_true_eq, decide_eq_false_iff_not, Nat.not_lt, Nat.not_le, Int.ofNat_lt, Int.ofNat_le, Int.not_lt, Int.not_le] at h) <;> (try have g := ne_of_beqI h) <;> (repeat (have h' := And.left h; replace h := And.right h)) <;> (try (have hz0 := Eq.symm hn0; rw [List.drop_eq_nil_of_le h] at hz0; simp -implicitDefEqProofs at hz0)) <;> (try (have hz1 := Eq.symm hn1; rw [List.drop_eq_nil_of_le h] at hz1; simp -implicitDefEqProofs at hz1)) <;> (try (have hz3 := Eq.symm hn3; rw [List.drop_eq_nil_of_le h] at hz3; simp -implicitDefEqProofs at hz3)) <;> (try (have hz0 := Eq.symm hn0; rw [hst0.out] at hz0; rw [dif_neg (by first | exact Nat.not_lt.mpr h | omega)] at hz0)) <;> (try (have hz1 := Eq.symm hn1; rw [hst1.out] at hz1; rw [dif_neg (by first | exact Nat.not_lt.mpr h | omega)] at hz1)) <;> (try (have hz2 := Eq.symm hn2; rw [hst2.out] at hz2; rw [dif_neg (by first | exact Nat.not_lt.mpr h | omega)] at hz2)) <;> (try (have hz3 := Eq.symm hn3; rw [hst3.out] at hz3; rw [dif_neg (by first | exact Nat.not_lt.mpr h | omega)] at hz3))))
 all_goals try (first
  | rfl
  | (refine again_nx ny0 (by first | assumption | omega | (dsimp only; omega)) (by first | omega | (dsimp only; omega)) ?_ leS; dsimp only; (first | rw [List.drop_eq_getElem_cons (by assumption)] at hn0 | rw [hst0.out] at hn0); refine ⟨by omega, by first | trivial | omega | (simp -implicitDefEqProofs [*]; done) | (simp -implicitDefEqProofs; omega), ?_⟩; first | (simpa -implicitDefEqProofs [*] using hn0) | (rw [← hn0]; clear hn0; simp -implicitDefEqProofs [*]; done))
  | (refine again_nx nz0 (by first | assumption | omega | (dsimp only; omega)) (by first | omega | (dsimp only; omega)) ?_ leS; dsimp only; (first | rw [List.drop_eq_getElem_cons (by assumption)] at hn0 | rw [hst0.out] at hn0); refine ⟨by omega, by first | trivial | omega | (simp -implicitDefEqProofs [*]; done) | (simp -implicitDefEqProofs; omega), ?_⟩; first | (simpa -implicitDefEqProofs [*] using hn0) | (rw [← hn0]; clear hn0; simp -implicitDefEqProofs [*]; done))
  | (simp -implicitDefEqProofs [*]; done)
  | ((first | rw [List.drop_eq_getElem_cons (by assumption)] at hn0 | rw [List.drop_eq_nil_of_le (by assumption)] at hn0 | rw [hst0.out] at hn0); rw [← hn0]; first | rfl | (simp -implicitDefEqProofs [*]; done))
  | ((first | rw [List.drop_eq_getElem_cons (by assumption)] at hn0 | rw [List.drop_eq_nil_of_le (by assumption)] at hn0 | rw [hst0.out] at hn0); (try simp -implicitDefEqProofs [*] at hn0); (try simp -implicitDefEqProofs); grind)
  | (rcases Nx.em ny0 with hq | hq <;> (try simp only [Nat.not_lt] at hq) <;> (first | (rw [List.drop_eq_getElem_cons hq] at hn0; rw [← hn0]; (try simp [hq] at h); first | (simp -implicitDefEqProofs [*]; done) | (simp -implicitDefEqProofs; grind) | grind) | (rw [List.drop_eq_nil_of_le hq] at hn0; rw [← hn0]; first | rfl | (simp -implicitDefEqProofs [*]; done) | (simp -implicitDefEqProofs; grind) | grind) | (rw [hst0.out] at hn0; rw [← hn0]; (try simp [hq] at h); first | rfl | (simp -implicitDefEqProofs [*]; done) | (simp -implicitDefEqProofs [*]; grind) | grind)))
  | (simp -implicitDefEqProofs [*]; grind) | grind | (simp_all -implicitDefEqProofs; done))
 ·refine ⟨?_⟩
  clear st0 st1
  have h2 : x0.1 < 3 := by omega
  have hd := hn0
  rw [tameTxt, dif_pos ⟨h', h2⟩] at hd
  obtain ⟨b1, b2⟩ := byte3 v.text[x0.1]
  have b3 : IntKind.wrap .u8 (((v.text[x0.1]).toNat : Int).tmod 3 + 1) = ((v.text[x0.1]).toNat : Int).tmod 3 + 1 := by simp [IntKind.wrap, IntKind.bits, IntKind.signed]; omega
  have b4 : (((v.text[x0.1]).toNat : Int).tmod 3).toNat ≤ (((v.text[x0.1]).toNat : Int).tmod 3 + 1).toNat := by omega
  have b5 : (((v.text[x0.1]).toNat : Int).tmod 3 + 1).toNat ≤ 3 := by omega
  have b6 : 0 ≤ ((v.text[x0.1]).toNat : Int).tmod 3 + 1 := by omega
  have b7 := piece_size v.text[x0.1]
  have b8 : ((v.text[x0.1]).toNat : Int).tmod 3 + 1 ≤ (({ data := #[97, 98, 39] } : ByteArray).size : Int) := by show _ ≤ (3 : Int); omega
  unfold piece at b7 hd
  have b9 : x0.1 + 1 ≤ 4294967296 := by omega
  refine walkX ?_ trivial
  all_goals first | intro h' h | intro h | skip
  refine again_nx ny0 ⟨h', h2⟩ (by dsimp only; omega) ⟨by dsimp only; omega, ?_, hd⟩ leS
  show (x0.2 ++ piece v.text[x0.1]).size = x0.1 + 1
  rw [ByteArray.size_append, hs0, piece_size]
 ·refine ⟨?_⟩
  clear st0 st1
  have hd : x0.2 = R := by
   rw [← hn0, tameTxt, dif_neg]
   rintro ⟨hi, hk⟩
   simp only [decide_eq_true hi, Bool.true_and, decide_eq_false_iff_not] at h
   omega
  rw [← hd]
  clear ld0 hn0 hd ny0 nz0 h hR
  exact walk⟩
theorem cal126 (v : Val) (c : Col) (hsz : v.text.size ≤ 4294967296) : Cal 126 [v.p, c.p] [(tameAs v c).p] := by
 by_cases h : c.kind = 3
 ·exact cal126_text v c hsz h
 ·exact cal126_null v c h
end
section
attribute [local simp] wl0 wl1 wl2 wl3 wl4 wl5 wl6 wl7 wl8 wl9 wl10 wl11 wl12 wl13 wl14 wl15 wl16 wl17 wl18 wl19 wl20
attribute [local simp high] evalOp_fieldP
attribute [local simp] ty172
attribute [local simp] fldV_p fldV_agg aggP_agg aggP_col aggP_val aggP_expr
def tipL (k : Int) (i : Nat) (acc : List Expr) : List Col → List Expr
 | [] => acc
 | c :: r => if c.kind == k then tipL k (i + 1) (acc ++ [colE i, colE i]) r else tipL k (i + 1) acc r
def tipV (v : Val) (k : Int) : Expr := if (tameAs v ⟨k, true⟩).kind == 0 then litE k nullW else litE (tameAs v ⟨k, true⟩).kind (tameAs v ⟨k, true⟩)
def tipE (raw : Expr) (cols : List Col) (k : Int) : Expr :=
 if h : (posI raw.n ((tipL k 0 [] cols).length + 1)).toNat < (tipL k 0 [] cols).length then (tipL k 0 [] cols)[(posI raw.n ((tipL k 0 [] cols).length + 1)).toNat] else tipV raw.lit k
attribute [local simp] tipL in
theorem cal179 (raw : Expr) (cols : List Col) (k : Int) (hc : cols.length ≤ 1000000) (hs : raw.lit.text.size ≤ 4294967296) : Cal 179 [raw.p, .lst (Col.ps cols), .lst [], .int .i64 k] [(tipE raw cols k).p] := ⟨by
 haveI c126 := cal126 raw.lit ⟨k, true⟩ hs
 unfold tipE
 generalize hT : tipL k 0 [] cols = T
 have hl0 : ([] : List Expr).length ≤ 4294967296 := by decide
 have hpair : ∀ i : Nat, [(colE i).p, (colE i).p] = Expr.ps [colE i, colE i] := fun i => rfl
 have msk : Msk 82411486700938421689075772798540841184 85070591730234615865843651857941922016 := ⟨⟩
 refine CallP.of_bodyN 126 cfg_ok Tryz.func179 rfl rfl (by kernel_rfl) fun base => ?_; simp only [mkA, Nat.reduceAdd]
 refine wpA_ok 0 rfl fun ok0 => ?_
 refine wpA_ok 1 rfl fun ok1 => ?_
 refine wpA_ok 2 rfl fun ok2 => ?_
 refine wpA_ok 3 rfl fun ok3 => ?_
 have ld0 : LD (σ := Nat × List Expr) 0 137438823936 [35] (fun y_ => (fun i acc => [(10, .p (.int .i64 i)), (9, .own 36 acc.length)]) y_.1 y_.2) (fun y_ => (fun i acc => [(36, .arr 9 (Expr.ps acc) false)]) y_.1 y_.2) (fun y_ => (fun i acc => InvL (i ≤ (cols).length) (acc.length ≤ 2 * i) (tipL k i acc (cols.drop i) = T)) y_.1 y_.2) (fun y_ => (fun i acc => (cols).length - i) y_.1 y_.2) ((0, [])) [36] (fun y_ => (fun i acc => i < (cols).length) y_.1 y_.2) (fun y_ (h : (fun i acc => i < (cols).length) y_.1 y_.2) => (fun i acc (h : i < (cols).length) => (i + 1, acc ++ [colE i, colE i])) y_.1 y_.2 h) (fun y_ (h : (fun i acc => i < (cols).length) y_.1 y_.2) => (fun i acc (h : i < (cols).length) => (i + 1, acc)) y_.1 y_.2 h) := ⟨⟩
 have st0 : Stop 6 := ⟨⟩
 have st1 : Stop 7 := ⟨⟩
 refine walkX ?_ ?_
 ·intro x0 hi0 hs0 hn0 ny0 nz0 hj0
  first | intro h' h | intro h | skip
  refine ⟨?_⟩
  clear st0 st1 c126
  have hroom : roomFor (x0.2.length + 2) 112 = true := roomFor_of (by omega) (by decide)
  exact walkX trivial trivial
 ·intro x0 hi0 hs0 hn0 ny0 nz0 hj0
  first | intro h' h | intro h | skip
  refine ⟨?_⟩
  clear st0 st1
  obtain ⟨i0, acc⟩ := x0
  dsimp only at *
  have hT' : acc = T := by
   rw [List.drop_eq_nil_of_le (by assumption), tipL] at hn0
   exact hn0
  subst hT'
  haveI c15 := cal15 raw.n ((acc.length : Int) + 1) (by omega) (by omega)
  have hw : IntKind.wrap .i64 ((acc.length : Int) + 1) = (acc.length : Int) + 1 := wrap_i64 (by omega) (by omega)
  obtain ⟨q, hq⟩ := Int.eq_ofNat_of_zero_le (posI_nonneg raw.n ((acc.length : Int) + 1))
  rw [hq] at c15 ⊢
  rw [Int.toNat_natCast]
  (try clear hz0)
  clear hT hn0 ld0 hq hi0 hj0 hs0 ny0 nz0
  unfold tipV
  have ld1 : LD (σ := Nat) 2 1267650600228229401359264283136 [98] (fun y_ => (fun i => [(11, .p (.int .i64 i)), (9, .own 36 acc.length)]) y_) (fun y_ => (fun i => []) y_) (fun y_ => (fun i => InvL (i ≤ (([] : List Expr)).length) (True) ((0 : Nat) = 0)) y_) (fun y_ => (fun i => (([] : List Expr)).length - i) y_) (0) [] (fun y_ => (fun i => i < (([] : List Expr)).length) y_) (fun y_ (h : (fun i => i < (([] : List Expr)).length) y_) => (fun i (h : i < (([] : List Expr)).length) => i + 1) y_ h) (fun y_ (h : (fun i => i < (([] : List Expr)).length) y_) => (fun i (h : i < (([] : List Expr)).length) => i + 1) y_ h) := ⟨⟩
  by_cases hlt : q < acc.length
  ·rw [dif_pos hlt]
   clear c126
   exact walkX trivial trivial
  ·rw [dif_neg hlt]
   exact walk⟩
end
section
attribute [local simp] wl0 wl1 wl2 wl3 wl4 wl5 wl6 wl7 wl8 wl9 wl10 wl11 wl12 wl13 wl14 wl15 wl16 wl17 wl18 wl19 wl20
attribute [local simp high] evalOp_fieldP
attribute [local simp] ty211 ty172
attribute [local simp] fldV_p fldV_agg aggP_agg aggP_col aggP_val aggP_expr
def grN (raw : Expr) (op : Int) : Int :=
 if op == 9 || op == 21 || op == 23 || op == 11 || op == 22 then 1 else if op == 19 || op == 20 || op == 25 then w64 (2 + posI raw.n 2) else if op == 24 then w64 (3 + w64 (2 * posI raw.n 2)) else 2
def grK (raw : Expr) (op k : Int) : Int :=
 if op == 11 then 3 else if op == 22 || op == 12 || op == 13 || op == 14 || op == 15 || op == 16 || op == 17 || op == 18 then w64 (1 + posI raw.m 3) else k
def argN (raw : Expr) (i : Nat) : Expr :=
 let x := raw.args.getD (i % raw.args.length) zeroE
 .mk x.op (w64 (posI x.n 1000 + w64 ((i / raw.args.length : Nat) : Int))) x.m x.kind x.lit x.args x.rels
def kindAt (op n of : Int) (i : Nat) : Int := if (op == 24 && (i : Int).tmod 2 == 0) && decide (w64 ((i : Int) + 1) < n) then 2 else of
def growE (f : Expr → Int → Expr) (raw : Expr) (op k : Int) : Expr :=
 opE op ((List.range (grN raw op).toNat).map fun i => f (argN raw i) (kindAt op (grN raw op) (grK raw op k) i))
theorem grN_bound (raw : Expr) (op : Int) : 0 ≤ grN raw op ∧ grN raw op ≤ 5 := by
 have h1 := posI_nonneg raw.n 2
 have h2 := posI_lt raw.n 2 (by decide)
 unfold grN
 have e1 : w64 (2 + posI raw.n 2) = 2 + posI raw.n 2 := wrap_i64 (by omega) (by omega)
 have e2 : w64 (2 * posI raw.n 2) = 2 * posI raw.n 2 := wrap_i64 (by omega) (by omega)
 have e3 : w64 (3 + 2 * posI raw.n 2) = 3 + 2 * posI raw.n 2 := wrap_i64 (by omega) (by omega)
 rw [e1, e2, e3]
 split
 ·omega
 split
 ·omega
 split
 ·omega
 ·omega
def growL (g : Nat → Expr) (n : Nat) (i : Nat) (acc : List Expr) : List Expr := if h : i < n then growL g n (i + 1) (acc ++ [g i]) else acc
termination_by n - i
theorem growL_eq (g : Nat → Expr) (n : Nat) (x : Nat × List Expr) : growL g n x.1 x.2 = if h : x.1 < n then growL g n (x.1 + 1) (x.2 ++ [g x.1]) else x.2 := by rw [growL]
theorem growL_map (g : Nat → Expr) (n : Nat) : ∀ (k i : Nat) (acc : List Expr), n - i = k → i ≤ n → acc = (List.range i).map g → growL g n i acc = (List.range n).map g
 | 0, i, acc, h, hi, ha => by
  have : i = n := by omega
  subst this
  rw [growL, dif_neg (by omega)]; exact ha
 | k + 1, i, acc, h, hi, ha => by
  rw [growL, dif_pos (by omega)]
  exact growL_map g n k (i + 1) _ (by omega) (by omega) (by rw [ha, List.range_succ, List.map_append]; rfl)
attribute [local simp] grN grK in
attribute [local simp] opE nullW in
theorem s180 (raw : Expr) (op k d : Int) (cols : List Col) (f : Expr → Int → Expr) (hne : ¬ raw.args = []) (hw : IntKind.wrap .i64 (d - 1) = d - 1)
  (rec128 : ∀ (j : Nat) (h : j < raw.args.length) (q k' : Int), Cal 128 [(Expr.mk raw.args[j].op q raw.args[j].m raw.args[j].kind raw.args[j].lit raw.args[j].args raw.args[j].rels).p, .lst (Col.ps cols), .lst [], .int .i64 k', .int .i64 (d - 1)] [(f (Expr.mk raw.args[j].op q raw.args[j].m raw.args[j].kind raw.args[j].lit raw.args[j].args raw.args[j].rels) k').p]) :
  Cal 180 [raw.p, .int .i64 op, .lst (Col.ps cols), .lst [], .int .i64 k, .int .i64 d] [(growE f raw op k).p] := ⟨by
 have msk : Msk 10384593715860710981659897385979776 10384593717069655257025799692750720 := ⟨⟩
 refine CallP.of_bodyN 113 cfg_ok Tryz.func180 rfl rfl (by kernel_rfl) fun base => ?_; simp only [mkA, Nat.reduceAdd]
 refine wpA_ok 0 rfl fun ok0 => ?_
 refine wpA_ok 1 rfl fun ok1 => ?_
 refine wpA_ok 2 rfl fun ok2 => ?_
 refine wpA_ok 3 rfl fun ok3 => ?_
 refine wpA_ok 4 rfl fun ok4 => ?_
 refine wpA_ok 5 rfl fun ok5 => ?_
 have st0 : Stop 2 := ⟨⟩
 refine walkX ?_ trivial
 all_goals first | intro h' h | intro h | skip
 refine ⟨?_⟩
 clear st0
 refine wpA_joinR ⟨mkT 113 [(13, .p (.int .i64 (grN raw op))), (14, .p (.int .i64 (grK raw op k))), (12, .ref 12 0), (6, .ref 6 0), (0, .p raw.p), (1, .p (.int .i64 op)), (2, .p (.lst (Col.ps cols))), (3, .p (.lst [])), (4, .p (.int .i64 k)), (5, .p (.int .i64 d))], [(6, .cells [.p (.int .i64 raw.op), .p (.int .i64 raw.n), .p (.int .i64 raw.m), .p (.int .i64 raw.kind), .p (.int .i64 raw.lit.kind), .p (.int .i64 raw.lit.int), .p (.str raw.lit.text), .p (.lst (Expr.ps raw.args)), .p (.lst (Rel.ps raw.rels))]), (12, .cells [.p (.int .i64 0), .p (.int .i64 0), .p (.int .i64 0), .p (.int .i64 0), .p (.int .i64 0), .p (.int .i64 0), .p (.str ⟨#[]⟩), .nils, .nils])], [12, 6]⟩ ?_ ?_
 ·clear rec128
  repeat' (first
   | (refine wpA_seqD cfg_ok mix msk (by decide +kernel) fun K hK => ?_)
   | (refine wpA_seq ?_)
   | (refine wpA_block ?_)
   | (refine thenR_normal ?_)
   | (refine thenR_ret ?_)
   | (refine thenR_exit ?_)
   | (refine blockR_normal ?_)
   | (refine blockR_ret ?_)
   | (refine blockR_same ?_)
   | (refine blockR_other rfl ?_)
   | (refine wpA_skip ?_)
   | (refine wpA_ret ?_)
   | (refine wpA_exit ?_)
   | (refine wpA_regD cfg_ok mix msk (by decide +kernel) fun K hK => ?_)
   | (refine hK.out _ _ _ _ _ (by first | (intro h; cases h; done) | (intro _; kernel_rfl)) ?_; clear hK; clear K; try simp only [dropA, Nat.reducePow, Nat.reduceDiv, Nat.reduceMod, ↓reduceIte, Nat.reduceOr, Nat.zero_ne_one])
   | (refine wpA_condD msk (by first | (simp -implicitDefEqProofs [*]; done) | (simp -implicitDefEqProofs [*]; rfl)) ?_; try simp only [dropA, Nat.reducePow, Nat.reduceDiv, Nat.reduceMod, ↓reduceIte, Nat.reduceOr, Nat.zero_ne_one])
   | (refine bodyR_ret (by first | (simp -implicitDefEqProofs [*]; done) | (simp -implicitDefEqProofs [*]; rfl)) ?_)
   | (refine bodyR_normal (by first | (simp -implicitDefEqProofs [*]; done) | (simp -implicitDefEqProofs [*]; rfl)) ?_)
   | (refine runM_id ?_; simp -implicitDefEqProofs)
   | (refine mV_id ?_; simp -implicitDefEqProofs [*])
   | (refine mG_id ?_; simp -implicitDefEqProofs [*])
   | (refine mD_id ?_; simp -implicitDefEqProofs [*])
   | (refine mQ_intro Cal.out ?_)
   | (refine mR_intro (fun _ => Cal.out) ?_)
   | (refine mR_no ?_)
   | (refine mQ_id ?_; simp -implicitDefEqProofs [*])
   | (refine mR_id ?_; simp -implicitDefEqProofs [*])
   | (refine goB_true ?_)
   | (refine goB_false ?_)
   | (refine goB_intro (fun h => ?_) (fun h => ?_) <;> (try simp only [Bool.not_eq_true', Bool.not_eq_false', Bool.not_eq_true, Bool.not_eq_false, Bool.and_eq_true, Bool.or_eq_false_iff, and_assoc, decide_eq_true_eq, decide_eq_false_iff_not, Nat.not_lt, Nat.not_le, Int.ofNat_lt, Int.ofNat_le, Int.not_lt, Int.not_le] at h) <;> (try have g := ne_of_beqI h) <;> (repeat (have h' := And.left h; replace h := And.right h)) <;> (try (have hz0 := Eq.symm hn0; rw [List.drop_eq_nil_of_le h] at hz0; simp -implicitDefEqProofs at hz0)) <;> (try (have hz1 := Eq.symm hn1; rw [List.drop_eq_nil_of_le h] at hz1; simp -implicitDefEqProofs at hz1)) <;> (try (have hz3 := Eq.symm hn3; rw [List.drop_eq_nil_of_le h] at hz3; simp -implicitDefEqProofs at hz3)) <;> (try (have hz0 := Eq.symm hn0; rw [hst0.out] at hz0; rw [dif_neg (by first | exact Nat.not_lt.mpr h | omega)] at hz0)) <;> (try (have hz1 := Eq.symm hn1; rw [hst1.out] at hz1; rw [dif_neg (by first | exact Nat.not_lt.mpr h | omega)] at hz1)) <;> (try (have hz2 := Eq.symm hn2; rw [hst2.out] at hz2; rw [dif_neg (by first | exact Nat.not_lt.mpr h | omega)] at hz2)) <;> (try (have hz3 := Eq.symm hn3; rw [hst3.out] at hz3; rw [dif_neg (by first | exact Nat.not_lt.mpr h | omega)] at hz3))))
  all_goals try (first
   | rfl
   | (simp -implicitDefEqProofs [*]; done)
   | (simp -implicitDefEqProofs [*]; grind) | grind | (simp_all -implicitDefEqProofs; done))
  all_goals (try (have e := eq_of_beq h; subst e))
  all_goals exact leJ_intro leS
 ·have hpos : 0 < raw.args.length := List.length_pos_iff.2 hne
  have hmod : ∀ i : Nat, (i : Int).tmod (raw.args.length : Int) = ((i % raw.args.length : Nat) : Int) := fun i => (Int.ofNat_tmod i raw.args.length).symm
  have hdiv : ∀ i : Nat, (i : Int).tdiv (raw.args.length : Int) = ((i / raw.args.length : Nat) : Int) := fun i => (Int.ofNat_tdiv i raw.args.length).symm
  have hlt : ∀ i : Nat, i % raw.args.length < raw.args.length := fun i => Nat.mod_lt _ hpos
  have hget : ∀ i : Nat, raw.args.getD (i % raw.args.length) zeroE = raw.args[i % raw.args.length]'(hlt i) := fun i => getD_E _ _ (hlt i)
  obtain ⟨nn, hnn⟩ := Int.eq_ofNat_of_zero_le (grN_bound raw op).1
  have hnn5 := (grN_bound raw op).2
  rw [hnn] at hnn5
  have hroom : ∀ i : Nat, i < nn → roomFor (i + 1) 112 = true := fun i hi => roomFor_of (by omega) (by decide)
  unfold growE
  rw [hnn]
  generalize grK raw op k = kk
  rw [Int.toNat_natCast, ← growL_map (fun i => f (argN raw i) (kindAt op nn kk i)) nn nn 0 [] rfl (by omega) rfl]
  generalize hg : (fun i => f (argN raw i) (kindAt op nn kk i)) = g
  generalize hR : growL g nn 0 [] = R
  have hst0 : Hid (∀ x : Nat × List Expr, _) := ⟨growL_eq g nn⟩
  have key : ∀ (i : Nat) (k' : Int), kindAt op nn kk i = k' → ∃ j q : Nat, ∃ hj : j < raw.args.length, (i : Int).tmod (raw.args.length : Int) = (j : Int) ∧ (i : Int) / (raw.args.length : Int) = (q : Int) ∧ f (Expr.mk raw.args[j].op (IntKind.wrap .i64 (posI raw.args[j].n 1000 + IntKind.wrap .i64 (q : Int))) raw.args[j].m raw.args[j].kind raw.args[j].lit raw.args[j].args raw.args[j].rels) k' = g i := by
   intro i k' hk
   refine ⟨i % raw.args.length, i / raw.args.length, hlt i, hmod i, (Int.natCast_ediv i raw.args.length).symm, ?_⟩
   rw [← hg, ← hk]
   show _ = f (argN raw i) _
   unfold argN
   rw [hget]
  have keyH : Hid _ := ⟨key⟩
  have hkat : ∀ i : Nat, kindAt op nn kk i = if (op == 24 && (i : Int).tmod 2 == 0) && decide (w64 ((i : Int) + 1) < nn) then 2 else kk := fun i => rfl
  have hkH : Hid _ := ⟨hkat⟩
  clear hnn key hg hmod hdiv hlt hget hkat
  have ld0 : LD (σ := Nat × List Expr) 1 5192296858534823016844477902290944 [18, 109] (fun y_ => (fun i acc => [(16, .p (.int .i64 i)), (15, .ref 15 0)]) y_.1 y_.2) (fun y_ => (fun i acc => [(15, .cells [.p (.int .i64 op), .p (.int .i64 0), .p (.int .i64 0), .p (.int .i64 0), .p (.int .i64 0), .p (.int .i64 0), .p (.str ⟨#[]⟩), .own 110 i, .nils]), (110, .arr 9 (Expr.ps acc) false)]) y_.1 y_.2) (fun y_ => (fun i acc => InvL (i ≤ nn) (acc.length = i) (growL g nn i acc = R)) y_.1 y_.2) (fun y_ => (fun i acc => nn - i) y_.1 y_.2) ((0, [])) [110] (fun y_ => (fun i acc => i < nn) y_.1 y_.2) (fun y_ (h : (fun i acc => i < nn) y_.1 y_.2) => (fun i acc (h : i < nn) => (i + 1, acc ++ [g i])) y_.1 y_.2 h) (fun y_ (h : (fun i acc => i < nn) y_.1 y_.2) => (fun i acc (h : i < nn) => (i + 1, acc ++ [g i])) y_.1 y_.2 h) := ⟨⟩
  have st0 : Stop 32 := ⟨⟩
  repeat' (first
   | (refine wpA_stopS st0 ?_)
   | (refine wpA_stopR st0 ?_)
   | (refine wpA_seqD cfg_ok mix msk (by decide +kernel) fun K hK => ?_)
   | (refine wpA_seq ?_)
   | (refine wpA_block ?_)
   | (refine thenR_normal ?_)
   | (refine thenR_ret ?_)
   | (refine thenR_exit ?_)
   | (refine blockR_normal ?_)
   | (refine blockR_ret ?_)
   | (refine blockR_same ?_)
   | (refine blockR_other rfl ?_)
   | (refine wpA_skip ?_)
   | (refine wpA_ret ?_)
   | (refine wpA_exit ?_)
   | (refine wpA_regD cfg_ok mix msk (by decide +kernel) fun K hK => ?_)
   | (refine hK.out _ _ _ _ _ (by first | (intro h; cases h; done) | (intro _; kernel_rfl)) ?_; clear hK; clear K; try simp only [dropA, Nat.reducePow, Nat.reduceDiv, Nat.reduceMod, ↓reduceIte, Nat.reduceOr, Nat.zero_ne_one])
   | (refine wpA_condD msk (by first | (simp -implicitDefEqProofs [*]; done) | (simp -implicitDefEqProofs [*]; rfl)) ?_; try simp only [dropA, Nat.reducePow, Nat.reduceDiv, Nat.reduceMod, ↓reduceIte, Nat.reduceOr, Nat.zero_ne_one])
   | (refine bodyR_ret (by first | (simp -implicitDefEqProofs [*]; done) | (simp -implicitDefEqProofs [*]; rfl)) ?_)
   | (refine bodyR_normal (by first | (simp -implicitDefEqProofs [*]; done) | (simp -implicitDefEqProofs [*]; rfl)) ?_)
   | (refine runM_id ?_; simp -implicitDefEqProofs)
   | (refine mV_id ?_; simp -implicitDefEqProofs [*])
   | (refine mG_id ?_; simp -implicitDefEqProofs [*])
   | (refine mD_id ?_; simp -implicitDefEqProofs [*])
   | (refine mQ_intro Cal.out ?_)
   | (refine mR_intro (fun _ => Cal.out) ?_)
   | (refine mR_no ?_)
   | (refine mQ_id ?_; simp -implicitDefEqProofs [*])
   | (refine mR_id ?_; simp -implicitDefEqProofs [*])
   | (refine goB_true ?_)
   | (refine goB_false ?_)
   | (refine headLD ld0 leS (by first | exact ⟨by first | exact Nat.zero_le _ | omega, by first | trivial | (simp -implicitDefEqProofs [*]; done), by first | rfl | (simp -implicitDefEqProofs [*]; done)⟩ | (simp -implicitDefEqProofs [*]; done)) ?_; rintro x0 ⟨hi0, hs0, hn0⟩ ny0 nz0; (try simp only [headM, List.nil_append, List.cons_append, dropA, Nat.reducePow, Nat.reduceDiv, Nat.reduceMod, ↓reduceIte, Nat.reduceOr, Nat.zero_ne_one]); have hj0 : x0.1 ≤ 4294967296 := by omega)
   | (refine headLD ld0 leS (by first | exact ⟨by first | exact Nat.zero_le _ | omega, by first | trivial | (simp -implicitDefEqProofs [*]; done), by first | rfl | (simp -implicitDefEqProofs [*]; done)⟩ | (simp -implicitDefEqProofs [*]; done)) ?_; rintro x0 ⟨hi0, hs0, hn0⟩ ny0 nz0; (try simp only [headM, List.nil_append, List.cons_append, dropA, Nat.reducePow, Nat.reduceDiv, Nat.reduceMod, ↓reduceIte, Nat.reduceOr, Nat.zero_ne_one]); have hj0 : x0 ≤ 4294967296 := by omega)
   | (refine goB_intro (fun h => ?_) (fun h => ?_) <;> (try simp only [Bool.not_eq_true', Bool.not_eq_false', Bool.not_eq_true, Bool.not_eq_false, Bool.and_eq_true, Bool.or_eq_false_iff, and_assoc, decide_eq_true_eq, decide_eq_false_iff_not, Nat.not_lt, Nat.not_le, Int.ofNat_lt, Int.ofNat_le, Int.not_lt, Int.not_le] at h) <;> (try have g := ne_of_beqI h) <;> (repeat (have h' := And.left h; replace h := And.right h)) <;> (try (have hz0 := Eq.symm hn0; rw [List.drop_eq_nil_of_le h] at hz0; simp -implicitDefEqProofs at hz0)) <;> (try (have hz1 := Eq.symm hn1; rw [List.drop_eq_nil_of_le h] at hz1; simp -implicitDefEqProofs at hz1)) <;> (try (have hz3 := Eq.symm hn3; rw [List.drop_eq_nil_of_le h] at hz3; simp -implicitDefEqProofs at hz3)) <;> (try (have hz0 := Eq.symm hn0; rw [hst0.out] at hz0; rw [dif_neg (by first | exact Nat.not_lt.mpr h | omega)] at hz0)) <;> (try (have hz1 := Eq.symm hn1; rw [hst1.out] at hz1; rw [dif_neg (by first | exact Nat.not_lt.mpr h | omega)] at hz1)) <;> (try (have hz2 := Eq.symm hn2; rw [hst2.out] at hz2; rw [dif_neg (by first | exact Nat.not_lt.mpr h | omega)] at hz2)) <;> (try (have hz3 := Eq.symm hn3; rw [hst3.out] at hz3; rw [dif_neg (by first | exact Nat.not_lt.mpr h | omega)] at hz3))))
  all_goals try (first
   | rfl
   | (refine again_nx ny0 (by first | assumption | omega | (dsimp only; omega)) (by first | omega | (dsimp only; omega)) ?_ leS; dsimp only; (first | rw [List.drop_eq_getElem_cons (by assumption)] at hn0 | rw [hst0.out] at hn0); refine ⟨by omega, by first | trivial | omega | (simp -implicitDefEqProofs [*]; done) | (simp -implicitDefEqProofs; omega), ?_⟩; first | (simpa -implicitDefEqProofs [*] using hn0) | (rw [← hn0]; clear hn0; simp -implicitDefEqProofs [*]; done))
   | (refine again_nx nz0 (by first | assumption | omega | (dsimp only; omega)) (by first | omega | (dsimp only; omega)) ?_ leS; dsimp only; (first | rw [List.drop_eq_getElem_cons (by assumption)] at hn0 | rw [hst0.out] at hn0); refine ⟨by omega, by first | trivial | omega | (simp -implicitDefEqProofs [*]; done) | (simp -implicitDefEqProofs; omega), ?_⟩; first | (simpa -implicitDefEqProofs [*] using hn0) | (rw [← hn0]; clear hn0; simp -implicitDefEqProofs [*]; done))
   | (simp -implicitDefEqProofs [*]; done)
   | ((first | rw [List.drop_eq_getElem_cons (by assumption)] at hn0 | rw [List.drop_eq_nil_of_le (by assumption)] at hn0 | rw [hst0.out] at hn0); rw [← hn0]; first | rfl | (simp -implicitDefEqProofs [*]; done))
   | ((first | rw [List.drop_eq_getElem_cons (by assumption)] at hn0 | rw [List.drop_eq_nil_of_le (by assumption)] at hn0 | rw [hst0.out] at hn0); (try simp -implicitDefEqProofs [*] at hn0); (try simp -implicitDefEqProofs); grind)
   | (rcases Nx.em ny0 with hq | hq <;> (try simp only [Nat.not_lt] at hq) <;> (first | (rw [List.drop_eq_getElem_cons hq] at hn0; rw [← hn0]; (try simp [hq] at h); first | (simp -implicitDefEqProofs [*]; done) | (simp -implicitDefEqProofs; grind) | grind) | (rw [List.drop_eq_nil_of_le hq] at hn0; rw [← hn0]; first | rfl | (simp -implicitDefEqProofs [*]; done) | (simp -implicitDefEqProofs; grind) | grind) | (rw [hst0.out] at hn0; rw [← hn0]; (try simp [hq] at h); first | rfl | (simp -implicitDefEqProofs [*]; done) | (simp -implicitDefEqProofs [*]; grind) | grind)))
   | (simp -implicitDefEqProofs [*]; grind) | grind | (simp_all -implicitDefEqProofs; done))
  all_goals (refine ⟨?_⟩; clear st0)
  ·have hroom' := hroom x0.1 (by assumption)
   have hw1 : w64 ((x0.1 : Int) + 1) = (x0.1 : Int) + 1 := wrap_i64 (by omega) (by omega)
   have hk : kindAt op nn kk x0.1 = 2 := by
    rw [hkH.out x0.1, hw1, if_pos]
    simp only [*, decide_true, Bool.and_self]
   obtain ⟨j, q, hj, m1, m2, m3⟩ := keyH.out x0.1 2 hk
   clear hk hkH keyH hroom hw1
   exact walkX trivial trivial
  ·have hroom' := hroom x0.1 (by assumption)
   have hw1 : w64 ((x0.1 : Int) + 1) = (x0.1 : Int) + 1 := wrap_i64 (by omega) (by omega)
   have hk : kindAt op nn kk x0.1 = kk := by
    rw [hkH.out x0.1, hw1, h]
    rfl
   obtain ⟨j, q, hj, m1, m2, m3⟩ := keyH.out x0.1 kk hk
   clear hk hkH keyH hroom hw1
   exact walk⟩
end
section
attribute [local simp] wl0 wl1 wl2 wl3 wl4 wl5 wl6 wl7 wl8 wl9 wl10 wl11 wl12 wl13 wl14 wl15 wl16 wl17 wl18 wl19 wl20
attribute [local simp high] evalOp_fieldP
attribute [local simp] ty211 ty172
attribute [local simp] fldV_p fldV_agg aggP_agg aggP_col aggP_val aggP_expr
def tab1 : List Int := [4, 5, 6, 7, 8, 9, 11, 24, 25, 4, 5, 4, 24, 6, 25, 7]
def tab2 : List Int := [12, 13, 14, 15, 16, 17, 18, 19, 20, 21, 22, 23, 24, 25, 19, 12]
def tab3 : List Int := [10, 24, 25, 10, 24, 25, 10, 10, 10, 24, 25, 10, 24, 25, 10, 10]
def opT (k : Int) (q : Nat) : Int := if k == 1 then tab1.getD q 0 else if k == 2 then tab2.getD q 0 else tab3.getD q 0
def tameE (cols : List Col) : Nat → Expr → Int → Expr
 | 0, raw, k => tipE raw cols k
 | d + 1, raw, k => if d = 0 ∨ raw.args = [] then tipE raw cols k else growE (tameE cols d) raw (opT k (posI raw.op 16).toNat) k
theorem tab_get (l : List Int) (q : Nat) (h : q < l.length) : ∀ h' : q < (l.map fun x => V.p (.int .i64 x)).length, (l.map fun x => V.p (.int .i64 x))[q]'h' = .p (.int .i64 (l.getD q 0)) := by
 intro h'
 simp [List.getD_eq_getElem?_getD, h]
theorem s128_tip (raw : Expr) (k d : Int) (cols : List Col) (hc : cols.length ≤ 1000000) (hs : raw.lit.text.size ≤ 4294967296) (h : d ≤ 1 ∨ raw.args = []) :
  Cal 128 [raw.p, .lst (Col.ps cols), .lst [], .int .i64 k, .int .i64 d] [(tipE raw cols k).p] := ⟨by
 haveI := cal179 raw cols k hc hs
 have hc' : (decide (d ≤ 1) || ((raw.args.length : Int) == 0)) = true := by
  rcases h with h | h
  ·simp [h]
  ·simp [h]
 clear hc hs h
 have msk : Msk 73786958696205484992 73786976292690691008 := ⟨⟩
 refine CallP.of_bodyN 66 cfg_ok Tryz.func128 rfl rfl (by kernel_rfl) fun base => ?_; simp only [mkA, Nat.reduceAdd]
 refine wpA_ok 0 rfl fun ok0 => ?_
 refine wpA_ok 1 rfl fun ok1 => ?_
 refine wpA_ok 2 rfl fun ok2 => ?_
 refine wpA_ok 3 rfl fun ok3 => ?_
 refine wpA_ok 4 rfl fun ok4 => ?_
 exact walk⟩
theorem s128_grow (raw : Expr) (k d : Int) (cols : List Col) (q : Nat) (hq : posI raw.op 16 = q) (h1 : ¬ d ≤ 1) (h2 : ¬ raw.args = []) (y : Expr) (hy : Cal 180 [raw.p, .int .i64 (opT k q), .lst (Col.ps cols), .lst [], .int .i64 k, .int .i64 d] [y.p]) :
  Cal 128 [raw.p, .lst (Col.ps cols), .lst [], .int .i64 k, .int .i64 d] [y.p] := ⟨by
 have hq16 : q < 16 := by have := posI_lt raw.op 16 (by decide); omega
 have hle : q + 1 ≤ 16 := hq16
 have t1 := tab_get tab1 q hq16
 have t2 := tab_get tab2 q hq16
 have t3 := tab_get tab3 q hq16
 unfold opT at hy
 generalize tab1.getD q 0 = v1 at *
 generalize tab2.getD q 0 = v2 at *
 generalize tab3.getD q 0 = v3 at *
 simp only [tab1, tab2, tab3, List.map_cons, List.map_nil] at t1 t2 t3
 have pc0 : (k == 1) = true → CallP cfg Tryz.prog 180 [raw.p, .int .i64 v1, .lst (Col.ps cols), .lst [], .int .i64 k, .int .i64 d] [y.p] := fun h => by rw [if_pos h] at hy; exact hy.out
 have pc1 : (k == 1) = false ∧ (k == 2) = true → CallP cfg Tryz.prog 180 [raw.p, .int .i64 v2, .lst (Col.ps cols), .lst [], .int .i64 k, .int .i64 d] [y.p] := fun h => by rw [if_neg (by simp [h.1]), if_pos h.2] at hy; exact hy.out
 have pc2 : (k == 1) = false ∧ (k == 2) = false → CallP cfg Tryz.prog 180 [raw.p, .int .i64 v3, .lst (Col.ps cols), .lst [], .int .i64 k, .int .i64 d] [y.p] := fun h => by rw [if_neg (by simp [h.1]), if_neg (by simp [h.2])] at hy; exact hy.out
 clear hy
 have hd : decide (d ≤ 1) = false := by simpa using h1
 clear h1
 have msk : Msk 73786958696205484992 73786976292690691008 := ⟨⟩
 refine CallP.of_bodyN 66 cfg_ok Tryz.func128 rfl rfl (by kernel_rfl) fun base => ?_; simp only [mkA, Nat.reduceAdd]
 refine wpA_ok 0 rfl fun ok0 => ?_
 refine wpA_ok 1 rfl fun ok1 => ?_
 refine wpA_ok 2 rfl fun ok2 => ?_
 refine wpA_ok 3 rfl fun ok3 => ?_
 refine wpA_ok 4 rfl fun ok4 => ?_
 exact walk⟩
mutual
def txtE : Expr → Prop
 | .mk _ _ _ _ v args _ => v.text.size ≤ 4294967296 ∧ txtEs args
def txtEs : List Expr → Prop
 | [] => True
 | a :: r => txtE a ∧ txtEs r
end
theorem txtEs_get {l : List Expr} (h : txtEs l) : ∀ (i : Nat) (hi : i < l.length), txtE l[i] := by
 induction l with
 | nil => intro i hi; simp at hi
 | cons e r ih =>
  intro i hi
  cases i with
  | zero => exact h.1
  | succ i => exact ih h.2 i (by simpa using hi)
theorem txtE_lit {e : Expr} (h : txtE e) : e.lit.text.size ≤ 4294967296 := by cases e; exact h.1
theorem txtE_args {e : Expr} (h : txtE e) : txtEs e.args := by cases e; exact h.2
theorem cal128 (cols : List Col) (hc : cols.length ≤ 1000000) : ∀ (n : Nat), n ≤ 1000 → ∀ (raw : Expr) (k : Int), txtE raw → Cal 128 [raw.p, .lst (Col.ps cols), .lst [], .int .i64 k, .int .i64 (n : Int)] [(tameE cols n raw k).p]
 | 0, _, raw, k, h => s128_tip raw k 0 cols hc (txtE_lit h) (.inl (by decide))
 | n + 1, hn, raw, k, h => by
  unfold tameE
  by_cases h1 : n = 0 ∨ raw.args = []
  ·rw [if_pos h1]
   exact s128_tip raw k _ cols hc (txtE_lit h) (h1.imp (fun h => by subst h; decide) id)
  ·rw [if_neg h1]
   obtain ⟨q, hq⟩ := Int.eq_ofNat_of_zero_le (posI_nonneg raw.op 16)
   rw [hq, Int.toNat_natCast]
   refine s128_grow raw k _ cols q hq (by omega) (fun h => h1 (.inr h)) _ ?_
   refine s180 raw _ k _ cols (tameE cols n) (fun h => h1 (.inr h)) (wrap_i64 (by omega) (by omega)) fun j hj q' k' => ?_
   rw [show ((n + 1 : Nat) : Int) - 1 = (n : Int) by omega]
   have hx := txtEs_get (txtE_args h) j hj
   exact cal128 cols hc n (by omega) _ k' ⟨txtE_lit hx, txtE_args hx⟩
end
section
attribute [local simp] wl0 wl1 wl2 wl3 wl4 wl5 wl6 wl7 wl8 wl9 wl10 wl11 wl12 wl13 wl14 wl15 wl16 wl17 wl18 wl19 wl20
attribute [local simp high] evalOp_fieldP
attribute [local simp] ty172
attribute [local simp] fldV_p fldV_agg aggP_agg aggP_col aggP_val aggP_expr
def tameLoop (cols : List Col) (raw : Expr) (k : Int) (D : Nat) (i : Nat) : Expr :=
 if h : i < D then (if decide (((D - i : Nat) : Int) > 1) && decide (nodes (tameE cols (D - i) raw k) > 100) then tameLoop cols raw k D (i + 1) else tameE cols (D - i) raw k) else tameE cols (D - i) raw k
termination_by D - i
def tameIn (cols : List Col) (raw : Expr) (k : Int) (D : Nat) : Expr :=
 if (shaped 8 raw && decide (nodes raw ≤ 40)) && ((kindE cols raw).2 && (kindE cols raw).1.kind == k) then raw else tameLoop cols raw k D 0
theorem cal75 (raw : Expr) (cols : List Col) (hc : cols.length ≤ 1000000) (k : Int) (D : Nat) (hD : D ≤ 100) (ht : txtE raw) : Cal 75 [raw.p, .lst (Col.ps cols), .lst [], .int .i64 k, .int .i64 (D : Int)] [(tameIn cols raw k D).p] := ⟨by
 haveI c128 : ∀ i : Nat, Cal 128 [raw.p, .lst (Col.ps cols), .lst [], .int .i64 k, .int .i64 ((D - i : Nat) : Int)] [(tameE cols (D - i) raw k).p] := fun i => cal128 cols hc (D - i) (by omega) raw k ht
 haveI c128' := c128 0
 simp only [Nat.sub_zero] at c128'
 clear ht
 unfold tameIn
 generalize hT : tameLoop cols raw k D 0 = T
 by_cases hb : ((shaped 8 raw && decide (nodes raw ≤ 40)) && ((kindE cols raw).2 && (kindE cols raw).1.kind == k)) = true
 ·rw [if_pos hb]
  simp only [Bool.and_eq_true] at hb
  obtain ⟨⟨b1, b2⟩, b3, b4⟩ := hb
  haveI := cal127 raw cols (shaped_wf raw b1)
  clear c128 c128' hT
  have msk : Msk 575897785169068992 576460752303408064 := ⟨⟩
  refine CallP.of_bodyN 59 cfg_ok Tryz.func75 rfl rfl (by kernel_rfl) fun base => ?_; simp only [mkA, Nat.reduceAdd]
  refine wpA_ok 0 rfl fun ok0 => ?_
  refine wpA_ok 1 rfl fun ok1 => ?_
  refine wpA_ok 2 rfl fun ok2 => ?_
  refine wpA_ok 3 rfl fun ok3 => ?_
  refine wpA_ok 4 rfl fun ok4 => ?_
  exact walk
 ·rw [if_neg hb]
  have msk : Msk 575897785169068992 576460752303408064 := ⟨⟩
  refine CallP.of_bodyN 59 cfg_ok Tryz.func75 rfl rfl (by kernel_rfl) fun base => ?_; simp only [mkA, Nat.reduceAdd]
  refine wpA_ok 0 rfl fun ok0 => ?_
  refine wpA_ok 1 rfl fun ok1 => ?_
  refine wpA_ok 2 rfl fun ok2 => ?_
  refine wpA_ok 3 rfl fun ok3 => ?_
  refine wpA_ok 4 rfl fun ok4 => ?_
  have st0 : Stop 1 := ⟨⟩
  refine walkX ?_ trivial
  all_goals first | intro h' h | intro h | skip
  refine ⟨?_⟩
  clear st0
  refine wpA_joinR ⟨mkT 59 [(10, .ref 10 0), (5, .ref 5 0), (0, .p raw.p), (1, .p (.lst (Col.ps cols))), (2, .p (.lst [])), (3, .p (.int .i64 k)), (4, .p (.int .i64 (D : Int)))], [(5, .cells [.p (.int .i64 raw.op), .p (.int .i64 raw.n), .p (.int .i64 raw.m), .p (.int .i64 raw.kind), .p (.int .i64 raw.lit.kind), .p (.int .i64 raw.lit.int), .p (.str raw.lit.text), .p (.lst (Expr.ps raw.args)), .p (.lst (Rel.ps raw.rels))]), (10, .cells [.p (.int .i64 0), .p (.int .i64 0), .p (.int .i64 0), .p (.int .i64 0), .p (.int .i64 0), .p (.int .i64 0), .p (.str ⟨#[]⟩), .nils, .nils])], [10, 5]⟩ ?_ ?_
  ·clear c128 c128' hT
   cases hs : shaped 8 raw with
   | false =>
    clear hb
    exact walkX trivial trivial
    all_goals exact leJ_intro leS
   | true =>
    haveI := cal127 raw cols (shaped_wf raw hs)
    rw [hs, Bool.true_and] at hb
    cases b2 : decide (nodes raw ≤ 40)
    ·clear hb
     exact walkX trivial trivial
     all_goals exact leJ_intro leS
    ·rw [b2, Bool.true_and] at hb
     cases b3 : (kindE cols raw).2
     ·clear hb
      exact walkX trivial trivial
      all_goals exact leJ_intro leS
     ·rw [b3, Bool.true_and] at hb
      have b4 : ((kindE cols raw).1.kind == k) = false := by simpa using hb
      clear hb
      exact walkX trivial trivial
      all_goals exact leJ_intro leS
  ·clear hb
   have ld0 : LD (σ := Nat) 0 288221580058689552 [] (fun y_ => (fun i => [(4, .p (.int .i64 ((D - i : Nat) : Int)))]) y_) (fun y_ => (fun i => [(13, .cells [.p (.int .i64 (tameE cols (D - i) raw k).op), .p (.int .i64 (tameE cols (D - i) raw k).n), .p (.int .i64 (tameE cols (D - i) raw k).m), .p (.int .i64 (tameE cols (D - i) raw k).kind), .p (.int .i64 (tameE cols (D - i) raw k).lit.kind), .p (.int .i64 (tameE cols (D - i) raw k).lit.int), .p (.str (tameE cols (D - i) raw k).lit.text), .p (.lst (Expr.ps (tameE cols (D - i) raw k).args)), .p (.lst (Rel.ps (tameE cols (D - i) raw k).rels))])]) y_) (fun y_ => (fun i => InvL (i ≤ D) (True) (tameLoop cols raw k D i = T)) y_) (fun y_ => (fun i => D - i) y_) (0) [] (fun y_ => (fun i => i < D ∧ (D - i : Nat) > 1) y_) (fun y_ (h : (fun i => i < D ∧ (D - i : Nat) > 1) y_) => (fun i (h : i < D ∧ (D - i : Nat) > 1) => i + 1) y_ h) (fun y_ (h : (fun i => i < D ∧ (D - i : Nat) > 1) y_) => (fun i (h : i < D ∧ (D - i : Nat) > 1) => i + 1) y_ h) := ⟨⟩
   have st0 : Stop 7 := ⟨⟩
   have st1 : Stop 9 := ⟨⟩
   refine walkX ?_ ?_
   ·intro x0 hi0 hn0 ny0 nz0 hj0
    first | intro h' h | intro h | skip
    refine ⟨?_⟩
    clear st0 st1
    have hi : x0 < D := by omega
    have h1 : ((D - x0 : Nat) : Int) > 1 := by omega
    have hw : IntKind.wrap .i64 (((D - x0 : Nat) : Int) - 1) = ((D - (x0 + 1) : Nat) : Int) := by
     rw [show ((D - (x0 + 1) : Nat) : Int) = ((D - x0 : Nat) : Int) - 1 by omega]
     exact wrap_i64 (by omega) (by omega)
    haveI c := c128 (x0 + 1)
    have hd := hn0
    have h100 : nodes (tameE cols (D - x0) raw k) > 100 := by omega
    rw [tameLoop, dif_pos hi, if_pos (by rw [decide_eq_true h1, decide_eq_true h100]; rfl)] at hd
    clear c128 c128' hT
    refine walkX ?_ trivial
    all_goals first | intro h' h | intro h | skip
    refine again_nx ny0 ⟨hi, by omega⟩ (by dsimp only; omega) ⟨by dsimp only; omega, trivial, hd⟩ leS
   ·intro x0 hi0 hn0 ny0 nz0 hj0
    first | intro h' h | intro h | skip
    refine ⟨?_⟩
    clear st0 st1
    have hd : tameE cols (D - x0) raw k = T := by
     rw [← hn0, tameLoop]
     split
     ·rw [if_neg]
      intro hx
      simp only [Bool.and_eq_true, decide_eq_true_eq] at hx
      simp only [Bool.and_eq_false_iff, decide_eq_false_iff_not] at h
      omega
     ·rfl
    rw [← hd]
    clear ld0 hn0 hd ny0 nz0 hT h c128 c128'
    generalize tameE cols (D - x0) raw k = y
    exact walk⟩
end
end Go.Proofs.YtgiedlcjlalpcaaGreat
