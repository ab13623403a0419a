/- Part 24 of a proof: I10. -/
import Derived.Test.YtgiedlcjlalpcaaGreatPk21
import Derived.Test.YtgiedlcjlalpcaaGreatPk23
set_option linter.all false
namespace Go.Proofs.YtgiedlcjlalpcaaGreat
open Go.Abs
set_option maxRecDepth 100000
theorem cal_to {f : FuncId} {ps rs rs' : List P} (h : Cal f ps rs) (e : rs = rs') : Cal f ps rs' := e ▸ h
def kn0 : Expr := opE 16 [colE 0, litE (intW 3).kind (intW 3)]
def kn1 : Expr := opE 14 [colE 0, litE (intW 5).kind (intW 5)]
def sp1 : Span := addS s0S 16 (intW 3)
def sp2 : Span := addS sp1 14 (intW 5)
theorem kn_bad : badE knE twoC true = 0 := by kernel_rfl
theorem e4_bad : badE (eqE4 4) twoC true = 0 := by kernel_rfl
theorem e5_bad : badE (eqE4 5) twoC true = 0 := by kernel_rfl
theorem rj_bad : badE rjE twoC true = 0 := by kernel_rfl
theorem nr_bad : badE nrE twoC false = 0 := by kernel_rfl
theorem col_bad : badE (colE 0) twoC true = 31 := by kernel_rfl
theorem nr_bare : bareE nrE := by simp [nrE, opE, colE, litE, bareE, bareEs]
theorem kn_bare : bareE knE := by simp [knE, opE, colE, litE, bareE, bareEs]
theorem eq_bare (n : Int) : bareE (eqE4 n) := by simp [eqE4, opE, colE, litE, bareE, bareEs]
theorem rj_bare : bareE rjE := by simp [rjE, opE, colE, litE, bareE, bareEs]
theorem c16n : Cal 16 [nrE.p, .lst (Col.ps twoC)] [nrY.p, .int .i64 0] :=
 cal_to (cal16_ok nrE nrY twoC nr_bare (by decide) nr_bad (simpF_ok nr_simp)) (by kernel_rfl)
theorem c25n : Cal 25 [rjE.p, .lst (Col.ps twoC), .lst (ips [1])] [.bool true, .int .i64 0] :=
 cal_to (cal25_ok rjE twoC [1] rjY rj_bare (by decide) rj_bad (by kernel_rfl) (simpF_ok rj_simp)) (by kernel_rfl)
theorem c23n : Cal 23 [(colE 0).p, .lst (Col.ps twoC)] [zeroE.p, .int .i64 31] :=
 cal_to (cal23_bad (colE 0) twoC (by simp [colE, bareE, bareEs]) (by decide) (by rw [col_bad]; decide)) (by rw [col_bad])
theorem kn_conj : conjE knE = [kn0, kn1] := by kernel_rfl
theorem eq_conj (n : Int) : conjE (eqE4 n) = [eqE4 n] := by rw [conjE_eq]; rfl
theorem t_kn0 : Cal 115 [kn0.p] [testP 0 16 (intW 3), .bool true] := s115_cmp kn0 (colE 0) (litE (intW 3).kind (intW 3)) rfl rfl rfl rfl rfl rfl rfl
theorem t_kn1 : Cal 115 [kn1.p] [testP 0 14 (intW 5), .bool true] := s115_cmp kn1 (colE 0) (litE (intW 5).kind (intW 5)) rfl rfl rfl rfl rfl rfl rfl
theorem t_eq (n : Int) : Cal 115 [(eqE4 n).p] [testP 0 12 (intW n), .bool true] := s115_cmp (eqE4 n) (colE 0) (litE (intW n).kind (intW n)) rfl rfl rfl rfl rfl rfl rfl
theorem c27n (n : Int) (r : Bool) (hbad : badE (eqE4 n) twoC true = 0) (hbeg : begR twoC true [] [knE, eqE4 n] = (L twoC, 0)) (hc : condF twoC 9 (eqE4 n) = some (eqE4 n)) (hf : (fitE 400 1 (eqE4 n)).1 = true) (hr : impR [kn0, kn1] sp2 (eqE4 n) 12 (intW n) = r) :
  Cal 27 [knE.p, (eqE4 n).p, .lst (Col.ps twoC)] [.bool r, .int .i64 0] := by
 obtain ⟨hka, _, _⟩ := badT_has kn_bad
 obtain ⟨hkb, _, _⟩ := badT_has hbad
 have wa := hka.wf
 have wb := hkb.wf
 refine cal27_ok twoC knE (eqE4 n) knE (eqE4 n) r kn_bare (eq_bare n) (by decide) (by simp [eqE4, opE, colE, litE, Expr.size, Expr.sizes]) hbeg hka hkb (condF_ok kn_cond) (condF_ok hc) (by kernel_rfl) hf ?_
 have h1 := cal114 twoC knE knE (cal59 (condF_ok kn_cond) hka) wa (by decide)
 rw [kn_conj] at h1
 have h2 := cal114 twoC (eqE4 n) (eqE4 n) (cal59 (condF_ok hc) hkb) wb (by simp [eqE4, opE, colE, litE, Expr.size, Expr.sizes])
 rw [eq_conj] at h2
 have m0 := callM116 s0S 0 16 (intW 3) rfl
 have m1 := callM116 sp1 0 14 (intW 5) rfl
 refine cal70_two twoC knE (eqE4 n) kn0 kn1 0 16 14 (intW 3) (intW 5) [eqE4 n] r sp1 sp2 h1 h2 rfl rfl t_kn0 t_kn1 m0 m1 (cal_to (cal117 sp2) (by kernel_rfl)) ?_
 refine cal_to (cal118 twoC (Expr.ps [kn0, kn1]) [.int .i64 0] [spanP sp2] [eqE4 n] (fun _ => r) fun i hi => ?_) (by cases r <;> rfl)
 match i with
 | 0 =>
  have hk : ∀ x ∈ [kn0, kn1], wf x = true := by
   intro x hx
   exact wf_arg wa x hx
  exact cal_to (cal177 twoC [kn0, kn1] 0 sp2 (eqE4 n) 12 (intW n) (t_eq n) wb hk (colE 0) (litE (intW n).kind (intW n)) rfl rfl rfl rfl) (by rw [hr])
 | i + 1 => simp at hi
theorem c27a : Cal 27 [knE.p, (eqE4 4).p, .lst (Col.ps twoC)] [.bool true, .int .i64 0] := c27n 4 true e4_bad (by kernel_rfl) eq4_cond (by kernel_rfl) (by kernel_rfl)
theorem c27b : Cal 27 [knE.p, (eqE4 5).p, .lst (Col.ps twoC)] [.bool false, .int .i64 0] := c27n 5 false e5_bad (by kernel_rfl) eq5_cond (by kernel_rfl) (by kernel_rfl)
end Go.Proofs.YtgiedlcjlalpcaaGreat
