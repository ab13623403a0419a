/- Part 16 of a proof: R1 D4 F1 L6 Rng2 Rng3 F2 F3. -/
import Derived.Lib.Strings
import Derived.Test.YtgiedlcjlalpcaaGreatPk06
import Derived.Test.YtgiedlcjlalpcaaGreatPk11
import Derived.Test.YtgiedlcjlalpcaaGreatPk12
import Derived.Test.YtgiedlcjlalpcaaGreatPk13
import Derived.Test.YtgiedlcjlalpcaaGreatPk14
import Derived.Test.YtgiedlcjlalpcaaGreatPk15
set_option linter.all false
namespace Go.Proofs.YtgiedlcjlalpcaaGreat
open Go.Abs
theorem lit_eta {x : Expr} (hx : wf x = true) (h3 : x.op = 3) {v : Val} (hv : v.kind ≠ 0) (h : x.lit = v) : x = litE v.kind v := by
 obtain ⟨_, _, g3, g4, g5, g6, g7⟩ := nodeR_lit (wf_node hx) h3
 cases x with
 | mk op n m k w args r =>
  simp only [Expr.op, Expr.n, Expr.m, Expr.kind, Expr.lit, Expr.args, Expr.rels] at *
  subst h3; subst g4; subst g5; subst g6; subst g7; subst h
  rcases g3 with g | g
  ·exact absurd g hv
  ·rw [litE, g]
theorem litE_op (k : Int) (v : Val) : (litE k v).op = 3 := rfl
theorem litE_n (k : Int) (v : Val) : (litE k v).n = 0 := rfl
theorem litE_m (k : Int) (v : Val) : (litE k v).m = 0 := rfl
theorem litE_kind (k : Int) (v : Val) : (litE k v).kind = k := rfl
theorem litE_lit (k : Int) (v : Val) : (litE k v).lit = v := rfl
theorem litE_args (k : Int) (v : Val) : (litE k v).args = [] := rfl
theorem same_isV {x : Expr} (hx : wf x = true) (v : Val) (hv : v.kind ≠ 0) : sameE x (litE v.kind v) = isV x v := by
 rw [sameE_and _ _ (nodeR_rels (wf_node hx)) rfl]
 unfold isV
 rw [litE_op, litE_n, litE_m, litE_kind, litE_lit, litE_args]
 by_cases h3 : x.op = 3
 ·by_cases hl : x.lit = v
  ·obtain ⟨_, _, g3, g4, g5, g6, g7⟩ := nodeR_lit (wf_node hx) h3
   have hk : x.kind = v.kind := by
    rcases g3 with g | g
    ·rw [hl] at g; exact absurd g hv
    ·rw [← g, hl]
   rw [h3, g4, g5, g6, hk, hl]
   simp [eqL]
  ·have hl' : (x.lit == v) = false := by simpa using hl
   simp [hl']
 ·have h3' : (x.op == 3) = false := by simpa using h3
  simp [h3']
theorem same_truth {x : Expr} (hx : wf x = true) (b : Bool) : sameE x (truthE b) = isV x (boolW b) := same_isV hx (boolW b) (by cases b <;> decide)
theorem same_num {x : Expr} (hx : wf x = true) (n : Int) : sameE x (numE n) = isV x (intW n) := same_isV hx (intW n) (show (1 : Int) ≠ 0 by decide)
theorem same_empty {x : Expr} (hx : wf x = true) : sameE x emptyE = isV x (textW ⟨#[]⟩) := same_isV hx (textW ⟨#[]⟩) (by decide)
theorem goneL_any (a : Expr) : ∀ (l : List Expr) (g : Bool), goneL a g l = (g || l.any fun x => sameE x a)
 | [], g => by simp [goneL]
 | x :: r, g => by rw [goneL, goneL_any a r]; simp [Bool.or_assoc]
theorem list3_any (e : Expr) (and : Bool) : ∀ (l : List Expr), list3 e and l = if l.any (fun a => isV a (boolW (!and))) then (truthE (!and), true) else (e, false)
 | [] => rfl
 | a :: r => by
  rw [list3, list3_any e and r]
  by_cases h : isV a (boolW (!and)) = true
  ·simp [h]
  ·simp [h]
theorem jn3_eq {e : Expr} (hw : ∀ a ∈ e.args, wf a = true) (b : Bool) : jn3 e (truthE (!b)) = list3 e b e.args := by
 rw [list3_any, jn3]
 have : e.args.any (fun a => sameE a (truthE (!b))) = e.args.any (fun a => isV a (boolW (!b))) := by
  rw [Bool.eq_iff_iff]
  simp only [List.any_eq_true]
  constructor
  ·rintro ⟨a, ha, h⟩; exact ⟨a, ha, by rw [← same_truth (hw a ha)]; exact h⟩
  ·rintro ⟨a, ha, h⟩; exact ⟨a, ha, by rw [same_truth (hw a ha)]; exact h⟩
 rw [this]
theorem jn2_eq {e : Expr} (hw : ∀ a ∈ e.args, wf a = true) (b : Bool) : ∀ (l : List Expr) (i : Nat), (∀ a ∈ l, wf a = true) → jn2 e (truthE b) (truthE (!b)) l i = list2 e b l i
 | [], i, _ => jn3_eq hw b
 | a :: r, i, h => by
  rw [jn2, list2, goneL_any, same_truth (h a (by simp)), jn2_eq hw b r (i + 1) fun x hx => h x (by simp [hx])]
theorem jn1_eq {e : Expr} (hw : ∀ a ∈ e.args, wf a = true) (b : Bool) : ∀ (l : List Expr) (i : Nat), jn1 e (truthE b) (truthE (!b)) l i = list1 e b l i
 | [], i => jn2_eq hw b e.args 0 hw
 | a :: r, i => by rw [jn1, list1, jn1_eq hw b r (i + 1)]
theorem isTrue_lit {x : Expr} (hx : wf x = true) (h : isLit x = true) : isTrue x = trueV x.lit := by
 have h3 : x.op = 3 := by simpa [isLit] using h
 obtain ⟨g1, _⟩ := nodeR_lit (wf_node hx) h3
 unfold isTrue trueV
 rw [h3]
 have hb : (x.lit == boolW true) = (x.lit.kind == 2 && x.lit.int == 1) := by
  rw [Bool.eq_iff_iff]
  simp only [beq_iff_eq, Bool.and_eq_true]
  constructor
  ·intro h; rw [h]; exact ⟨rfl, rfl⟩
  ·rintro ⟨h1, h2⟩
   have : rightV x.lit = true := g1
   cases hl : x.lit with
   | mk k n t =>
    rw [hl] at h1 h2 this
    simp only at h1 h2
    subst h1; subst h2
    simp [rightV, noText] at this
    simp [boolW]
    exact this
 rw [hb]; rfl
def firstLit (e : Expr) (n i : Nat) : Option (Expr × Bool) :=
 if h : i < n then
  (if isLit (e.args.getD i zeroE) then
   some (oneOr e (if trueV (e.args.getD i zeroE).lit then e.args.take i ++ [e.args.getD (i + 1) zeroE] else e.args.take i ++ e.args.drop (i + 2)), true)
  else firstLit e n (i + 2))
 else none
termination_by n - i
def allS (e : Expr) (n i : Nat) : Bool :=
 if h : i < n then sameE (e.args.getD (i + 1) zeroE) (lastE e.args) && allS e n (i + 2) else true
termination_by n - i
theorem wf_zero_getD {e : Expr} (hw : ∀ a ∈ e.args, wf a = true) {i : Nat} (hi : i < e.args.length) : wf (e.args.getD i zeroE) = true := by
 rw [getD_E _ _ hi]; exact hw _ (List.getElem_mem hi)
theorem cs_first {e : Expr} (hw : ∀ a ∈ e.args, wf a = true) (n : Nat) (hn : n + 1 = e.args.length) : ∀ (d i : Nat) (k : Bool), n - i ≤ d → cs e n i k = (match firstLit e n i with | some r => r | none => if k && allS e n i then (lastE e.args, true) else (e, false))
 | 0, i, k, h => by
  rw [cs, firstLit, allS, dif_neg (by omega), dif_neg (by omega), dif_neg (by omega)]
  simp
 | d + 1, i, k, h => by
  rw [cs, firstLit, allS]
  by_cases hi : i < n
  ·rw [dif_pos hi, dif_pos hi, dif_pos hi]
   by_cases hl : isLit (e.args.getD i zeroE) = true
   ·rw [if_pos hl, if_pos hl, isTrue_lit (wf_zero_getD hw (by omega)) hl]
   ·rw [if_neg hl, if_neg hl, cs_first hw n hn d (i + 2) _ (by omega)]
    rw [Bool.and_assoc]
  ·rw [dif_neg hi, dif_neg hi, dif_neg hi]
   simp
theorem case1_first (e : Expr) (n : Nat) : ∀ (d i : Nat), n - i ≤ d → case1 e n i = (match firstLit e n i with | some r => r | none => case2 e n 1)
 | 0, i, h => by rw [case1, firstLit, dif_neg (by omega), dif_neg (by omega)]
 | d + 1, i, h => by
  rw [case1, firstLit]
  by_cases hi : i < n
  ·rw [dif_pos hi, dif_pos hi]
   by_cases hl : isLit (e.args.getD i zeroE) = true
   ·rw [if_pos hl, if_pos hl]
   ·rw [if_neg hl, if_neg hl, case1_first e n d (i + 2) (by omega)]
  ·rw [dif_neg hi, dif_neg hi]
theorem case2_all (e : Expr) (q : Nat) : ∀ (d m : Nat), q - m ≤ d → case2 e (2 * q) (2 * m + 1) = if allS e (2 * q) (2 * m) then (lastE e.args, true) else (e, false)
 | 0, m, h => by rw [case2, allS, dif_neg (by omega), dif_neg (by omega)]; rfl
 | d + 1, m, h => by
  rw [case2, allS]
  by_cases hi : 2 * m < 2 * q
  ·rw [dif_pos (show 2 * m + 1 < 2 * q by omega), dif_pos hi]
   by_cases hl : sameE (e.args.getD (2 * m + 1) zeroE) (lastE e.args) = true
   ·rw [if_pos hl, hl, Bool.true_and]
    have := case2_all e q d (m + 1) (by omega)
    rw [show 2 * (m + 1) = 2 * m + 2 by omega] at this
    exact this
   ·rw [if_neg hl]
    rw [show sameE (e.args.getD (2 * m + 1) zeroE) (lastE e.args) = false by simpa using hl, Bool.false_and]; rfl
  ·rw [dif_neg (show ¬ 2 * m + 1 < 2 * q by omega), dif_neg hi]; rfl
theorem cs_eqE {e : Expr} (hw : ∀ a ∈ e.args, wf a = true) (q : Nat) (hn : 2 * q + 1 = e.args.length) : cs e (2 * q) 0 true = casesE e := by
 rw [casesE, ← hn, show 2 * q + 1 - 1 = 2 * q by omega, cs_first hw (2 * q) hn _ 0 true (Nat.le_refl _), case1_first e (2 * q) _ 0 (Nat.le_refl _)]
 have := case2_all e q q 0 (by omega)
 rw [show 2 * 0 + 1 = 1 from rfl, show 2 * 0 = 0 from rfl] at this
 rw [this, Bool.true_and]
theorem first1_idx (e : Expr) (cols : List Col) : ∀ (l : List Expr) (i : Nat), first1 e cols l i = if 0 ≤ idxOf isNull l i then (withoutE e (idxOf isNull l i).toNat, true) else first2 e cols (e.args.length - 1) 0
 | [], i => rfl
 | a :: r, i => by
  rw [first1, idxOf]
  by_cases h : isNull a = true
  ·rw [if_pos h, if_pos h, if_pos (by omega)]; rfl
  ·rw [if_neg h, if_neg h, first1_idx e cols r (i + 1)]
   rfl
def cut2 (e : Expr) (n : Nat) (x : Int) : Expr × Bool :=
 if x < 0 ∨ x = n then (e, false) else if x = 0 then (hdE e.args, true) else (setA e (e.args.take (x.toNat + 1)), true)
theorem first2_idx (e : Expr) (cols : List Col) (n : Nat) (hn : n + 1 = e.args.length) : ∀ (d i : Nat), n - i = d → i ≤ n → first2 e cols n i = cut2 e n (idxOf (sure cols) (e.args.drop i) i)
 | 0, i, h, hi => by
  obtain rfl : i = n := by omega
  rw [first2, dif_neg (by omega)]
  have hx : idxOf (sure cols) (e.args.drop i) i = if sure cols (e.args[i]'(by omega)) then (i : Int) else -1 := by
   rw [List.drop_eq_getElem_cons (by omega), List.drop_eq_nil_of_le (by omega)]
   rfl
  rw [hx, cut2]
  by_cases hs : sure cols (e.args[i]'(by omega)) = true
  ·simp [hs]
  ·simp [hs]
 | d + 1, i, h, hi => by
  rw [first2, dif_pos (by omega), getD_E _ _ (by omega)]
  have hx : idxOf (sure cols) (e.args.drop i) i = if sure cols (e.args[i]'(by omega)) then (i : Int) else idxOf (sure cols) (e.args.drop (i + 1)) ((i + 1 : Nat) : Int) := by
   rw [List.drop_eq_getElem_cons (by omega)]
   rfl
  rw [hx]
  by_cases hs : nullE cols (e.args[i]'(by omega)) = true
  ·have hs' : sure cols (e.args[i]'(by omega)) = false := by simp [sure, hs]
   rw [if_pos hs, hs', first2_idx e cols n hn d (i + 1) (by omega) (by omega)]
   rfl
  ·have hs' : sure cols (e.args[i]'(by omega)) = true := by simp [sure, hs]
   rw [if_neg hs, if_pos hs', cut2, if_neg (show ¬ ((i : Int) < 0 ∨ (i : Int) = n) by omega)]
   by_cases h0 : i = 0
   ·rw [if_pos h0, if_pos (by omega)]
   ·rw [if_neg h0, if_neg (by omega)]; rfl
theorem co_eqE {e : Expr} (cols : List Col) (h0 : 2 ≤ e.args.length) : co cols e = firstE e cols := by
 rw [firstE, first1_idx]
 unfold co
 rw [show ((0 : Nat) : Int) = 0 from rfl]
 split
 ·rfl
 ·rw [first2_idx e cols (e.args.length - 1) (by omega) _ 0 rfl (by omega)]
  unfold cut2
  rw [show ((e.args.length - 1 : Nat) : Int) = (e.args.length : Int) - 1 by omega]
  rfl
end Go.Proofs.YtgiedlcjlalpcaaGreat
namespace Go.Proofs.YtgiedlcjlalpcaaGreat
open Go.Abs
theorem right_nullW {v : Val} (h : rightV v = true) (h0 : v.kind = 0) : v = nullW := by
 simp only [rightV, h0] at h
 simp [noText] at h
 cases v with
 | mk k i t =>
  simp only at h h0
  obtain ⟨h1, h2⟩ := h
  subst h0; subst h1; subst h2
  rfl
theorem nullOr_eq (r : Val) : ∀ (l : List Val), (∀ v ∈ l, rightV v = true) → nullOr r l = if anyNullV l then nullW else r
 | [], _ => rfl
 | v :: t, h => by
  simp only [nullOr, anyNullV]
  by_cases h0 : v.kind = 0
  ·have hv := right_nullW (h v (by simp)) h0
   subst hv
   rfl
  ·simp [h0, nullOr_eq r t fun w hw => h w (by simp [hw])]
def cmpLL : List UInt8 → List UInt8 → Int
 | [], [] => 0
 | [], _ :: _ => -1
 | _ :: _, [] => 1
 | a :: x, b :: y => if a.toNat = b.toNat then cmpLL x y else if a.toNat < b.toNat then -1 else 1
theorem less_cmp : ∀ (l m : List UInt8), (Op.bytesLess l m = true ↔ cmpLL l m = -1) ∧ (l = m ↔ cmpLL l m = 0) ∧ (cmpLL l m = -1 ∨ cmpLL l m = 0 ∨ cmpLL l m = 1)
 | [], [] => by simp [Op.bytesLess, cmpLL]
 | [], _ :: _ => by simp [Op.bytesLess, cmpLL]
 | _ :: _, [] => by simp [Op.bytesLess, cmpLL]
 | a :: x, b :: y => by
  obtain ⟨h1, h2, h3⟩ := less_cmp x y
  have hab : a = b ↔ a.toNat = b.toNat := ⟨fun h => by rw [h], fun h => UInt8.toNat_inj.1 h⟩
  have hlt : a < b ↔ a.toNat < b.toNat := UInt8.lt_iff_toNat_lt
  simp only [cmpLL]
  by_cases he : a.toNat = b.toNat
  ·have hab' := hab.2 he
   subst hab'
   rw [if_pos rfl]
   refine ⟨?_, ?_, h3⟩
   ·rw [← h1]
    simp [Op.bytesLess]
   ·rw [← h2]; simp
  ·rw [if_neg he]
   have hne : ¬ a = b := fun h => he (hab.1 h)
   by_cases hl : a.toNat < b.toNat
   ·rw [if_pos hl]
    simp [Op.bytesLess, hlt.2 hl, hne]
   ·rw [if_neg hl]
    have : ¬ a < b := fun h => hl (hlt.1 h)
    simp [Op.bytesLess, this, hne]
theorem cmpS_LL (s t : ByteArray) : cmpS s t = cmpLL s.data.toList t.data.toList := by
 have hs : s.toList = s.data.toList := ByteArray.toList_eq s
 have ht : t.toList = t.data.toList := ByteArray.toList_eq t
 obtain ⟨h1, h2, h3⟩ := less_cmp s.data.toList t.data.toList
 have heq : (s == t) = true ↔ s.data.toList = t.data.toList := by
  rw [beq_iff_eq]
  constructor
  ·rintro rfl; rfl
  ·intro h
   cases s; cases t
   simp only at h
   congr 1
   exact Array.toList_inj.1 h
 unfold cmpS
 rw [hs, ht]
 rcases h3 with h | h | h
 ·rw [if_pos (h1.2 h), h]
 ·have hl : ¬ Op.bytesLess s.data.toList t.data.toList = true := fun hh => by rw [h1.1 hh] at h; cases h
  rw [if_neg hl, if_neg, h]
  simp [heq.2 (h2.2 h)]
 ·have hl : ¬ Op.bytesLess s.data.toList t.data.toList = true := fun hh => by rw [h1.1 hh] at h; cases h
  have he : ¬ (s == t) = true := fun hh => by rw [h2.1 (heq.1 hh)] at h; cases h
  rw [if_neg hl, if_pos, h]
  simp only [Bool.not_eq_true', Bool.or_eq_false_iff]
  exact ⟨by simpa using hl, by simpa using he⟩
theorem drop_get (s : ByteArray) (i : Nat) (h : i < s.size) : s.data.toList.drop i = s[i] :: s.data.toList.drop (i + 1) := by
 have h' : i < s.data.toList.length := by simpa using h
 rw [List.drop_eq_getElem_cons h']
 rfl
theorem cmpText_LL (s t : ByteArray) : ∀ (d i : Nat), s.size - i = d → i ≤ s.size → i ≤ t.size → cmpText s t i = cmpLL (s.data.toList.drop i) (t.data.toList.drop i) := by
 intro d
 induction d with
 | zero =>
  intro i hd h1 h2
  have hi : i = s.size := by omega
  rw [cmpText, dif_neg (by omega)]
  have e1 : s.data.toList.drop i = [] := List.drop_eq_nil_of_le (by rw [hi]; show s.data.toList.length ≤ s.data.size; simp)
  rw [e1]
  by_cases ht : i < t.size
  ·rw [drop_get t i ht]
   have hne : ((s.size : Int) != t.size) = true := by simp; omega
   rw [if_pos hne, if_pos (by simp; omega)]
   rfl
  ·have e2 : t.data.toList.drop i = [] := List.drop_eq_nil_of_le (by show t.data.toList.length ≤ i; simp at *; omega)
   rw [e2]
   have hne : ¬ ((s.size : Int) != t.size) = true := by simp; omega
   rw [if_neg hne]
   rfl
 | succ d ih =>
  intro i hd h1 h2
  have hi : i < s.size := by omega
  rw [cmpText]
  by_cases ht : i < t.size
  ·rw [dif_pos ⟨hi, ht⟩, drop_get s i hi, drop_get t i ht]
   simp only [cmpLL]
   by_cases he : s[i].toNat = t[i].toNat
   ·rw [if_neg (by simp [he]), if_pos he]
    exact ih (i + 1) (by omega) (by omega) (by omega)
   ·rw [if_pos (by simp; omega), if_neg he]
    by_cases hl : s[i].toNat < t[i].toNat
    ·rw [if_pos (by simp; omega), if_pos hl]
    ·rw [if_neg (by simp; omega), if_neg hl]
  ·have e2 : t.data.toList.drop i = [] := List.drop_eq_nil_of_le (by show t.data.toList.length ≤ i; simp at *; omega)
   rw [dif_neg (by omega), e2, drop_get s i hi]
   have hne : ((s.size : Int) != t.size) = true := by simp; omega
   rw [if_pos hne, if_neg (by simp; omega)]
   rfl
theorem order_same (v w : Val) : orderV v w = compareV v w := by
 have ht : cmpS v.text w.text = cmpText v.text w.text 0 := by
  rw [cmpS_LL, cmpText_LL v.text w.text v.text.size 0 (by omega) (by omega) (by omega)]
  rfl
 unfold orderV compareV cmpI
 rw [ht]
 by_cases hk : v.kind = w.kind
 ·by_cases hi : v.int = w.int
  ·simp [hk, hi, orL]
   intro h; exact h.symm
  ·by_cases hl : v.int < w.int
   ·simp [hk, hi, orL, hl]
   ·have : w.int < v.int := by omega
    simp [hk, hi, orL, hl, this]
 ·by_cases hl : v.kind < w.kind
  ·simp [hk, orL, hl]
  ·have : w.kind < v.kind := by omega
   simp [hk, orL, hl, this]
theorem okV2 {v : Val} (h : okV 2 v) : v = nullW ∨ v = boolW true ∨ v = boolW false := by
 obtain ⟨_, hr, hk⟩ := h
 rcases hk with hk | hk
 ·exact .inl (right_nullW hr hk)
 ·simp only [rightV, hk] at hr
  simp [noText] at hr
  cases v with
  | mk k i t =>
   simp only at hr hk
   obtain ⟨h1, h2⟩ := hr
   subst hk; subst h2
   rcases h1 with h1 | h1
   ·subst h1; exact .inr (.inr rfl)
   ·subst h1; exact .inr (.inl rfl)
theorem someV_cons (v a : Val) (r : List Val) : someV v (a :: r) = (a == v || someV v r) := by
 simp only [someV]; cases a == v <;> rfl
theorem joinV_cons (b q v : Val) (r : List Val) : joinV b q (v :: r) = if v == b then b else joinV b (if v.kind == 0 then nullW else q) r := rfl
theorem join_and : ∀ (l : List Val) (q : Val), (∀ v ∈ l, okV 2 v) → (q = boolW true ∨ q = nullW) → joinV (boolW false) q l = if someV (boolW false) l then boolW false else if someV nullW l then nullW else q
 | [], q, _, _ => by simp [joinV, someV]
 | v :: r, q, h, hq => by
  rw [joinV_cons, someV_cons, someV_cons]
  rcases okV2 (h v (by simp)) with rfl | rfl | rfl
  ·have e1 : (nullW == boolW false) = false := by decide
   have e2 : (nullW == nullW) = true := by decide
   have e3 : (nullW.kind == 0) = true := by decide
   simp only [e1, e2, e3, Bool.false_eq_true, if_false, if_true, Bool.false_or, Bool.true_or]
   rw [join_and r nullW (fun w hw => h w (by simp [hw])) (.inr rfl)]
   split
   ·rfl
   ·split <;> rfl
  ·have e1 : (boolW true == boolW false) = false := by decide
   have e2 : (boolW true == nullW) = false := by decide
   have e3 : ((boolW true).kind == 0) = false := by decide
   simp only [e1, e2, e3, Bool.false_eq_true, if_false, Bool.false_or]
   exact join_and r q (fun w hw => h w (by simp [hw])) hq
  ·have e1 : (boolW false == boolW false) = true := by decide
   simp only [e1, if_true, Bool.true_or]
theorem join_or : ∀ (l : List Val) (q : Val), (∀ v ∈ l, okV 2 v) → (q = boolW false ∨ q = nullW) → joinV (boolW true) q l = if someV (boolW true) l then boolW true else if someV nullW l then nullW else q
 | [], q, _, _ => by simp [joinV, someV]
 | v :: r, q, h, hq => by
  rw [joinV_cons, someV_cons, someV_cons]
  rcases okV2 (h v (by simp)) with rfl | rfl | rfl
  ·have e1 : (nullW == boolW true) = false := by decide
   have e2 : (nullW == nullW) = true := by decide
   have e3 : (nullW.kind == 0) = true := by decide
   simp only [e1, e2, e3, Bool.false_eq_true, if_false, if_true, Bool.false_or, Bool.true_or]
   rw [join_or r nullW (fun w hw => h w (by simp [hw])) (.inr rfl)]
   split
   ·rfl
   ·split <;> rfl
  ·have e1 : (boolW true == boolW true) = true := by decide
   simp only [e1, if_true, Bool.true_or]
  ·have e1 : (boolW false == boolW true) = false := by decide
   have e2 : (boolW false == nullW) = false := by decide
   have e3 : ((boolW false).kind == 0) = false := by decide
   simp only [e1, e2, e3, Bool.false_eq_true, if_false, Bool.false_or]
   exact join_or r q (fun w hw => h w (by simp [hw])) hq
theorem true_same {v : Val} (h : okV 2 v) : (v == boolW true) = trueV v := by
 rcases okV2 h with rfl | rfl | rfl <;> decide
theorem case_tests (cols : List Col) (k : Int) : ∀ (l : List Expr), caseOK k (l.map (kd cols)) = true → ∀ (i : Nat) (h : i + 1 < l.length), i % 2 = 0 → kd cols (l[i]'(by omega)) = 2
 | t :: v :: r, hc, i, h, hi => by
  have hc' : (kd cols t == 2 && kd cols v == k && caseOK k (r.map (kd cols))) = true := by
   cases r with
   | nil => simp [caseOK] at hc
   | cons c r => exact hc
  simp only [Bool.and_eq_true, beq_iff_eq] at hc'
  match i, hi with
  | 0, _ => exact hc'.1.1
  | i + 2, hi =>
   have := case_tests cols k r hc'.2 i (by simp at h; omega) (by omega)
   simpa using this
 | [_], hc, i, h, hi => by simp at h
 | [], hc, i, h, hi => by simp at h
theorem caseTI_same (l : List Val) (h : ∀ (i : Nat) (h : i + 1 < l.length), i % 2 = 0 → okV 2 (l[i]'(by omega))) : ∀ (d i : Nat), l.length - i ≤ d → i % 2 = 0 → caseTI l i = caseVI l i := by
 intro d
 induction d with
 | zero => intro i hd hi; rw [caseTI, caseVI, dif_neg (by omega), dif_neg (by omega)]
 | succ d ih =>
  intro i hd hi
  rw [caseTI, caseVI]
  by_cases hl : i + 1 < l.length
  ·rw [dif_pos hl, dif_pos hl, true_same (h i hl hi), ih (i + 2) (by omega) (by omega)]
  ·rw [dif_neg hl, dif_neg hl]
theorem cal223V {cols : List Col} {e : Expr} {k : Int} (h : Has cols e k) (h4 : 4 ≤ e.op) (hl : ∀ a ∈ e.args, a.op = 3) : Cal 223 [doerP, .int .i64 e.op, .lst (Val.ps (e.args.map Expr.lit))] [(valueV e (e.args.map Expr.lit)).p] := by
 have hi := nodeR_inner (wf_node h.wf) (by omega) (by omega) (by omega)
 obtain ⟨ha, hs⟩ := has_elim h h4
 have hv : ∀ a ∈ e.args, okV (kd cols a) a.lit := fun a h1 => okV_lit (ha a h1) (hl a h1)
 have hr : ∀ v ∈ e.args.map Expr.lit, rightV v = true := by
  intro v hm
  obtain ⟨a, h1, rfl⟩ := List.mem_map.1 hm
  exact (hv a h1).2.1
 have hh := hi.hi
 have strict : e.op ≤ 17 → ∀ r, strictV e.op (e.args.map Expr.lit) = r → nullOr r (e.args.map Expr.lit) = valueV e (e.args.map Expr.lit) := by
  intro h17 r hr'
  rw [nullOr_eq r _ hr, ← hr']
  symm
  unfold valueV
  rw [if_neg (by simp; omega), if_neg (by simp; omega), if_neg (by simp; omega), if_neg (by simp; omega), if_neg (by simp; omega), if_neg (by simp; omega), if_neg (by simp; omega), if_neg (by simp; omega), if_neg (by simp; omega)]
 have two : e.op ≤ 18 → e.op ≠ 9 → e.op ≠ 11 → ∃ x y, e.args.map Expr.lit = [x, y] := by
  intro q1 q2 q3
  obtain ⟨a, b, hab⟩ := args2 hi q1 q2 q3
  exact ⟨a.lit, b.lit, by rw [hab]; rfl⟩
 have one : e.op = 9 ∨ e.op = 11 ∨ e.op = 21 ∨ e.op = 22 ∨ e.op = 23 → ∃ x, e.args.map Expr.lit = [x] := by
  intro q
  obtain ⟨a, hab⟩ := args1 hi q
  exact ⟨a.lit, by rw [hab]; rfl⟩
 have size : ∀ v ∈ e.args.map Expr.lit, v.text.size ≤ 200 := fun v hm => rightV_size (hr v hm)
 have ok2 : allK1 2 (e.args.map (kd cols)) = true → ∀ v ∈ e.args.map Expr.lit, okV 2 v := by
  intro q v hm
  obtain ⟨a, h1, rfl⟩ := List.mem_map.1 hm
  have := hv a h1
  rw [allK1_mem q a h1] at this
  exact this
 have num : ∀ (j : Nat) (g : FuncId) (q : Int → Int → Int) (x y : Val) (op : Int), e.op = op → op ≤ 17 → e.args.map Expr.lit = [x, y] → idxP .i64 op doKs 0 = some (some j) → doVs[j]? = some (numbersP g) → (∀ a b, Cal g [.int .i64 a, .int .i64 b] [.int .i64 (q a b)]) → strictV op [x, y] = intW (q x.int y.int) → Cal 223 [doerP, .int .i64 e.op, .lst (Val.ps (e.args.map Expr.lit))] [(valueV e (e.args.map Expr.lit)).p] := by
  intro j g q x y op ho h17 hxy hidx hd hg hst
  rw [← strict (by omega) (intW (q x.int y.int)) (by rw [ho, hxy]; exact hst), ho]
  haveI := hof199 x y g q
  refine cal223 op _ _ j 197 _ hidx hd rfl ?_
  rw [hxy]
  exact hof197 [x, y] (intW (q x.int y.int)) 199 [.imm [.fn (.func g) [] []] 0]
 have ord : ∀ (j : Nat) (g : FuncId) (q : Int → Bool) (x y : Val) (op : Int), e.op = op → op ≤ 17 → e.args.map Expr.lit = [x, y] → idxP .i64 op doKs 0 = some (some j) → doVs[j]? = some (orderP g) → (∀ c, Cal g [.int .i64 c] [.bool (q c)]) → strictV op [x, y] = boolW (q (compareV x y)) → Cal 223 [doerP, .int .i64 e.op, .lst (Val.ps (e.args.map Expr.lit))] [(valueV e (e.args.map Expr.lit)).p] := by
  intro j g q x y op ho h17 hxy hidx hd hg hst
  rw [← strict (by omega) (boolW (q (compareV x y))) (by rw [ho, hxy]; exact hst), ho]
  haveI := hof202 x y g q
  rw [order_same] at this
  refine cal223 op _ _ j 197 _ hidx hd rfl ?_
  rw [hxy]
  exact hof197 [x, y] (boolW (q (compareV x y))) 202 [.imm [.fn (.func g) [] []] 0]
 have par : ∀ (j : Nat) (g : FuncId) (n : Int) (x y : Val) (op : Int), e.op = op → (op = 7 ∨ op = 8) → e.args.map Expr.lit = [x, y] → idxP .i64 op doKs 0 = some (some j) → doVs[j]? = some (partsP g) → (¬ y.int = 0 → Cal g [.int .i64 x.int, .int .i64 y.int] [.int .i64 n]) → (¬ y.int = 0 → divided op x.int y.int = intW n) → Cal 223 [doerP, .int .i64 e.op, .lst (Val.ps (e.args.map Expr.lit))] [(valueV e (e.args.map Expr.lit)).p] := by
  intro j g n x y op ho hop hxy hidx hd hg hst
  have hsv : strictV op [x, y] = divided op x.int y.int := by rcases hop with rfl | rfl <;> rfl
  rw [← strict (by omega) (divided op x.int y.int) (by rw [ho, hxy]; exact hsv), ho]
  refine cal223 op _ _ j 197 _ hidx hd rfl ?_
  rw [hxy]
  by_cases h0 : y.int = 0
  ·haveI := hof205_0 x y g h0
   rw [show divided op x.int y.int = nullW by simp [divided, h0]]
   exact hof197 [x, y] nullW 205 [.imm [.fn (.func g) [] []] 0]
  ·haveI := hg h0
   haveI := hof205_1 x y g n h0
   rw [hst h0]
   exact hof197 [x, y] (intW n) 205 [.imm [.fn (.func g) [] []] 0]
 have cases : e.op = 4 ∨ e.op = 5 ∨ e.op = 6 ∨ e.op = 7 ∨ e.op = 8 ∨ e.op = 9 ∨ e.op = 10 ∨ e.op = 11 ∨ e.op = 12 ∨ e.op = 13 ∨ e.op = 14 ∨ e.op = 15 ∨ e.op = 16 ∨ e.op = 17 ∨ e.op = 18 ∨ e.op = 19 ∨ e.op = 20 ∨ e.op = 21 ∨ e.op = 22 ∨ e.op = 23 ∨ e.op = 24 ∨ e.op = 25 := by omega
 rcases cases with h' | h' | h' | h' | h' | h' | h' | h' | h' | h' | h' | h' | h' | h' | h' | h' | h' | h' | h' | h' | h' | h'
 ·obtain ⟨x, y, hxy⟩ := two (by omega) (by omega) (by omega)
  exact num 0 206 (fun a b => w64 (a + b)) x y 4 h' (by decide) hxy rfl rfl (fun a b => inferInstance) rfl
 ·obtain ⟨x, y, hxy⟩ := two (by omega) (by omega) (by omega)
  exact num 1 207 (fun a b => w64 (a - b)) x y 5 h' (by decide) hxy rfl rfl (fun a b => inferInstance) rfl
 ·obtain ⟨x, y, hxy⟩ := two (by omega) (by omega) (by omega)
  exact num 2 208 (fun a b => w64 (a * b)) x y 6 h' (by decide) hxy rfl rfl (fun a b => inferInstance) rfl
 ·obtain ⟨x, y, hxy⟩ := two (by omega) (by omega) (by omega)
  refine par 3 209 (w64 (x.int.tdiv y.int)) x y 7 h' (.inl rfl) hxy rfl rfl (fun h0 => cal209 _ _ h0) fun h0 => ?_
  simp only [divided]
  rw [if_neg (by simpa using h0)]
  by_cases h1 : y.int = -1
  ·rw [if_pos (by simp [h1])]
   congr 2
   rw [h1]; simp
  ·rw [if_neg (by simp [h1]), if_neg (by simpa using h1), if_pos (by decide)]
 ·obtain ⟨x, y, hxy⟩ := two (by omega) (by omega) (by omega)
  refine par 4 210 (x.int.tmod y.int) x y 8 h' (.inr rfl) hxy rfl rfl (fun h0 => cal210 _ _ h0) fun h0 => ?_
  simp only [divided]
  rw [if_neg (by simpa using h0)]
  by_cases h1 : y.int = -1
  ·rw [if_neg (by simp), if_pos (by simp [h1]), h1]
   congr 1
   simp
  ·rw [if_neg (by simp), if_neg (by simpa using h1), if_neg (by decide)]
 ·obtain ⟨x, hx⟩ := one (by omega)
  rw [← strict (by omega) (intW (w64 (0 - x.int))) (by rw [h', hx]; rfl), h']
  refine cal223 9 _ _ 5 197 _ rfl rfl rfl ?_
  rw [hx]
  exact hof197 [x] (intW (w64 (0 - x.int))) 211 []
 ·obtain ⟨x, y, hxy⟩ := two (by omega) (by omega) (by omega)
  rw [← strict (by omega) (textW (catText x.text y.text)) (by rw [h', hxy]; rfl), h']
  refine cal223 10 _ _ 6 197 _ rfl rfl rfl ?_
  haveI := cal212 x y (size x (by simp [hxy])) (size y (by simp [hxy]))
  rw [hxy]
  exact hof197 [x, y] (textW (catText x.text y.text)) 212 []
 ·obtain ⟨x, hx⟩ := one (by omega)
  rw [← strict (by omega) (intW x.text.size) (by rw [h', hx]; rfl), h']
  refine cal223 11 _ _ 7 197 _ rfl rfl rfl ?_
  rw [hx]
  exact hof197 [x] (intW x.text.size) 213 []
 ·obtain ⟨x, y, hxy⟩ := two (by omega) (by omega) (by omega)
  exact ord 8 214 (fun c => c == 0) x y 12 h' (by decide) hxy rfl rfl (fun c => inferInstance) rfl
 ·obtain ⟨x, y, hxy⟩ := two (by omega) (by omega) (by omega)
  exact ord 9 215 (fun c => !(c == 0)) x y 13 h' (by decide) hxy rfl rfl (fun c => inferInstance) rfl
 ·obtain ⟨x, y, hxy⟩ := two (by omega) (by omega) (by omega)
  exact ord 10 216 (fun c => decide (c < 0)) x y 14 h' (by decide) hxy rfl rfl (fun c => inferInstance) rfl
 ·obtain ⟨x, y, hxy⟩ := two (by omega) (by omega) (by omega)
  exact ord 11 217 (fun c => decide (c ≤ 0)) x y 15 h' (by decide) hxy rfl rfl (fun c => inferInstance) rfl
 ·obtain ⟨x, y, hxy⟩ := two (by omega) (by omega) (by omega)
  exact ord 12 218 (fun c => decide (c > 0)) x y 16 h' (by decide) hxy rfl rfl (fun c => inferInstance) rfl
 ·obtain ⟨x, y, hxy⟩ := two (by omega) (by omega) (by omega)
  exact ord 13 219 (fun c => decide (c ≥ 0)) x y 17 h' (by decide) hxy rfl rfl (fun c => inferInstance) rfl
 ·obtain ⟨x, y, hxy⟩ := two (by omega) (by omega) (by omega)
  rw [show valueV e (e.args.map Expr.lit) = boolW (x == y) by simp [valueV, h', hxy], h']
  refine cal223 18 _ _ 14 264 [] rfl rfl rfl ?_
  rw [hxy]; infer_instance
 ·have hk : allK1 2 (e.args.map (kd cols)) = true := by simp [sig, h'] at hs; exact hs.1
  rw [show valueV e (e.args.map Expr.lit) = andV (e.args.map Expr.lit) by simp [valueV, h'], h']
  refine cal223 19 _ _ 15 265 [] rfl rfl rfl ?_
  have := join_and (e.args.map Expr.lit) (boolW true) (ok2 hk) (.inl rfl)
  rw [show andV (e.args.map Expr.lit) = joinV (boolW false) (boolW true) (e.args.map Expr.lit) by rw [this]; rfl]
  infer_instance
 ·have hk : allK1 2 (e.args.map (kd cols)) = true := by simp [sig, h'] at hs; exact hs.1
  rw [show valueV e (e.args.map Expr.lit) = orVs (e.args.map Expr.lit) by simp [valueV, h'], h']
  refine cal223 20 _ _ 16 267 [] rfl rfl rfl ?_
  have := join_or (e.args.map Expr.lit) (boolW false) (ok2 hk) (.inl rfl)
  rw [show orVs (e.args.map Expr.lit) = joinV (boolW true) (boolW false) (e.args.map Expr.lit) by rw [this]; rfl]
  infer_instance
 ·obtain ⟨x, hx⟩ := one (by omega)
  rw [show valueV e (e.args.map Expr.lit) = notV x by simp [valueV, h', hx], h']
  refine cal223 21 _ _ 17 269 [] rfl rfl rfl ?_
  rw [hx]; infer_instance
 ·obtain ⟨x, hx⟩ := one (by omega)
  rw [show valueV e (e.args.map Expr.lit) = boolW (x.kind == 0) by simp [valueV, h', hx], h']
  refine cal223 22 _ _ 18 271 [] rfl rfl rfl ?_
  rw [hx]; infer_instance
 ·have hk : allK1 2 (e.args.map (kd cols)) = true := by simp [sig, h'] at hs; exact hs.1
  obtain ⟨x, hx⟩ := one (by omega)
  rw [show valueV e (e.args.map Expr.lit) = boolW (x == boolW true) by rw [true_same (ok2 hk x (by simp [hx]))]; simp [valueV, h', hx], h']
  refine cal223 23 _ _ 19 272 [] rfl rfl rfl ?_
  rw [hx]; infer_instance
 ·have hk : caseOK k (e.args.map (kd cols)) = true := by simpa [sig, h'] using hs
  have hn := args_case hi h'
  have htest : ∀ (i : Nat) (h : i + 1 < (e.args.map Expr.lit).length), i % 2 = 0 → okV 2 ((e.args.map Expr.lit)[i]'(by omega)) := by
   intro i hi' h2
   have hlt : i + 1 < e.args.length := by simpa using hi'
   have h3 := hv (e.args[i]'(by omega)) (List.getElem_mem _)
   rw [case_tests cols k e.args hk i hlt h2] at h3
   simpa using h3
  rw [show valueV e (e.args.map Expr.lit) = caseV (lastV (e.args.map Expr.lit)) (e.args.map Expr.lit) by simp [valueV, h'], h']
  refine cal223 24 _ _ 20 273 [] rfl rfl rfl ?_
  have e0 : caseV (lastV (e.args.map Expr.lit)) (e.args.map Expr.lit) = caseTI (e.args.map Expr.lit) 0 := by
   rw [caseTI_same _ htest _ 0 (Nat.le_refl _) rfl]
   exact caseVI_drop (e.args.map Expr.lit) (e.args.map Expr.lit).length 0 (by omega)
  rw [e0]
  exact cal273 _ (e.args.length - 1) (by simp; omega)
 ·rw [show valueV e (e.args.map Expr.lit) = coalV (e.args.map Expr.lit) by simp [valueV, h'], h']
  refine cal223 25 _ _ 21 274 [] rfl rfl rfl ?_
  infer_instance
end Go.Proofs.YtgiedlcjlalpcaaGreat
namespace Go.Proofs.YtgiedlcjlalpcaaGreat
open Go.Abs
def nodeWI (op n m k : Int) (v : Val) (la lr : Int) : Bool :=
 if ((((decide (op < 1) || decide (op > 28)) || decide (la < (argsOf op).1)) || decide (la > (argsOf op).2)) || (op == 24 && la.tmod 2 == 0)) then false
 else if ((decide (op ≥ 26) != (lr == 1)) || decide (lr > 1)) then false
 else if op == 1 then (((n == mx n 0 && m == 0) && k == 0) && v == nullW)
 else if op == 2 then (((n == mx n 1 && m == mx m 0) && k == 0) && v == nullW)
 else if op == 3 then (if !rightV v || (!(v.kind == 0) && !(v.kind == k)) then false else (((n == 0 && m == 0) && k == mn (mx k 1) 3) && v == v))
 else if op == 26 || op == 27 || op == 28 then (((n == mx n 1 && m == 0) && k == 0) && v == nullW)
 else (((n == 0 && m == 0) && k == 0) && v == nullW)
def bareRI (op n m : Int) : Bool := if op == 1 then decide (n ≥ 0) && m == 0 else if op == 2 then decide (n ≥ 1) && decide (m ≥ 0) else n == 0 && m == 0
def nodeRI (op n m k : Int) (v : Val) (la lr : Int) : Bool :=
 if op == 3 then bareRI op n m && real k && rightV v && (v.kind == 0 || v.kind == k) && la == 0 && lr == 0
 else if !bareRI op n m || !(k == 0) || !(v == nullW) || decide (lr > 0) then false
 else if op == 1 || op == 2 then la == 0
 else decide (op ≥ 4) && decide (op ≤ 25) && many op la
theorem nodeI (op n m k : Int) (v : Val) (la lr : Int) (hl : 0 ≤ la) (hr : 0 ≤ lr) : (decide (op < 26) && nodeWI op n m k v la lr) = nodeRI op n m k v la lr := by
 unfold nodeWI nodeRI bareRI
 generalize (v == nullW) = bw
 generalize rightV v = bv
 have hvv : (v == v) = true := by simp
 rw [hvv]
 generalize v.kind = vk
 clear hvv v
 have hc : op ≤ 0 ∨ op = 1 ∨ op = 2 ∨ op = 3 ∨ op = 4 ∨ op = 5 ∨ op = 6 ∨ op = 7 ∨ op = 8 ∨ op = 9 ∨ op = 10 ∨ op = 11 ∨ op = 12 ∨ op = 13 ∨ op = 14 ∨ op = 15 ∨ op = 16 ∨ op = 17 ∨ op = 18 ∨ op = 19 ∨ op = 20 ∨ op = 21 ∨ op = 22 ∨ op = 23 ∨ op = 24 ∨ op = 25 ∨ 26 ≤ op := by omega
 rcases hc with h | rfl | rfl | rfl | rfl | rfl | rfl | rfl | rfl | rfl | rfl | rfl | rfl | rfl | rfl | rfl | rfl | rfl | rfl | rfl | rfl | rfl | rfl | rfl | rfl | rfl | h
 ·have e1 : decide (op < 1) = true := by simp; omega
  have e3 : (op == 3) = false := by simp; omega
  have e4 : decide (op ≥ 4) = false := by simp; omega
  have e5 : (op == 1) = false := by simp; omega
  have e6 : (op == 2) = false := by simp; omega
  simp [e1, e3, e4, e5, e6]
 all_goals try (rw [Bool.eq_iff_iff]; cases bw <;> cases bv <;> simp [argsOf, many, mx, mn, real] <;> grind)
theorem nodeW_eq (e : Expr) : (decide (e.op < 26) && nodeW e) = nodeR e := nodeI e.op e.n e.m e.kind e.lit e.args.length e.rels.length (by omega) (by omega)
mutual
def deep : Expr → Nat
 | .mk _ _ _ _ _ args _ => deeps args + 1
def deeps : List Expr → Nat
 | [] => 0
 | e :: r => max (deep e) (deeps r)
end
mutual
theorem fitE_ok {at_ : Int} : ∀ {e : Expr} {l : Int}, 0 ≤ l → allN e = true → ((fitE l at_ e).1 = true ↔ (e.size : Int) ≤ l ∧ at_ + deep e ≤ 25) ∧ ((fitE l at_ e).1 = true → (fitE l at_ e).2 = l - e.size)
 | .mk op n m kind lit args rels, l, hl, h => by
  rw [allN_eq, Bool.and_eq_true] at h
  have hn : nodeR (Expr.mk op n m kind lit args rels) = true := by
   rw [← nodeW_eq]; simpa [stepN] using h.1
  have hrel : rels = [] := nodeR_rels hn
  subst hrel
  simp only [fitE, fitRs_nil, Expr.size, deep]
  by_cases hc : l - 1 < 0 ∨ at_ > 24
  ·rw [if_pos hc]
   refine ⟨⟨fun h => (by cases h), fun h' => ?_⟩, fun h => (by cases h)⟩
   obtain ⟨h1, h2⟩ := h'
   omega
  ·rw [if_neg hc]
   obtain ⟨g1, g2⟩ := @fitEs_ok (at_ + 1) args (l - 1) (by omega) (by omega) h.2
   by_cases hf : (fitEs (l - 1) (at_ + 1) args).1 = true
   ·rw [if_pos hf]
    have := g1.1 hf
    refine ⟨⟨fun _ => by omega, fun _ => rfl⟩, fun _ => ?_⟩
    rw [g2 hf]; omega
   ·rw [if_neg hf]
    refine ⟨⟨fun h => absurd h hf, fun h' => ?_⟩, fun h => absurd h hf⟩
    obtain ⟨h1, h2⟩ := h'
    exact g1.2 (by omega)
theorem fitEs_ok {at_ : Int} : ∀ {e : List Expr} {l : Int}, 0 ≤ l → at_ ≤ 25 → allNs e = true → ((fitEs l at_ e).1 = true ↔ (Expr.sizes e : Int) ≤ l ∧ at_ + deeps e ≤ 25) ∧ ((fitEs l at_ e).1 = true → (fitEs l at_ e).2 = l - Expr.sizes e)
 | [], l, hl, ha, h => by
  simp [fitEs, Expr.sizes, deeps, hl, ha]
 | e :: r, l, hl, ha, h => by
  rw [allNs_cons, Bool.and_eq_true] at h
  obtain ⟨g1, g2⟩ := @fitE_ok at_ e l hl h.1
  simp only [fitEs, Expr.sizes, deeps]
  by_cases hf : (fitE l at_ e).1 = true
  ·rw [if_pos hf]
   have hp := fitE_pos hl hf
   obtain ⟨k1, k2⟩ := @fitEs_ok at_ r (fitE l at_ e).2 hp.1 ha h.2
   have h1 := g1.1 hf
   rw [g2 hf] at k1 k2 ⊢
   refine ⟨⟨fun h => ?_, fun h => ?_⟩, fun h => ?_⟩
   ·have := k1.1 h
    omega
   ·exact k1.2 (by omega)
   ·rw [k2 h]; omega
  ·rw [if_neg hf]
   refine ⟨⟨fun h => absurd h hf, fun h' => ?_⟩, fun h => absurd h hf⟩
   exact g1.2 (by omega)
end
mutual
theorem shaped_ok : ∀ {e : Expr} {d : Nat}, d ≤ 24 → (shaped d e = true ↔ allN e = true ∧ deep e ≤ d)
 | .mk op n m kind lit args rels, d, hd => by
  rw [shaped_eq, allN_eq]
  have hs : stepN true (Expr.mk op n m kind lit args rels) = nodeR (Expr.mk op n m kind lit args rels) := by
   rw [← nodeW_eq]; simp [stepN]
  rw [hs]
  simp only [deep, Expr.args]
  by_cases h0 : d = 0
  ·subst h0
   simp
  have hw : w64 ((d : Int) - 1) = ((d - 1 : Nat) : Int) := by
   rw [show ((d - 1 : Nat) : Int) = (d : Int) - 1 by omega]
   exact wrap_i64 (by omega) (by omega)
  rw [hw]
  have hd0 : ((d : Int) == 0) = false := by simp; omega
  rw [hd0]
  have := @shapedL_ok args (d - 1) (by omega)
  cases hn : nodeR (Expr.mk op n m kind lit args rels)
  ·simp
  ·simp only [Bool.false_or, Bool.not_true, Bool.false_eq_true, if_false, Bool.true_and]
   rw [this]
   constructor
   ·rintro ⟨h1, h2⟩; exact ⟨h1, by omega⟩
   ·rintro ⟨h1, h2⟩; exact ⟨h1, by omega⟩
theorem shapedL_ok : ∀ {l : List Expr} {d : Nat}, d ≤ 24 → (shapedL d l = true ↔ allNs l = true ∧ deeps l ≤ d)
 | [], d, hd => by simp [shapedL, allNs, deeps]
 | e :: r, d, hd => by
  have h1 := @shaped_ok e d hd
  have h2 := @shapedL_ok r d hd
  rw [allNs_cons, Bool.and_eq_true]
  simp only [shapedL, deeps]
  by_cases h : shaped d e = true
  ·rw [if_pos h, h2]
   have := h1.1 h
   constructor
   ·rintro ⟨a, b⟩; exact ⟨⟨this.1, a⟩, by omega⟩
   ·rintro ⟨⟨a, b⟩, c⟩; exact ⟨b, by omega⟩
  ·rw [if_neg h]
   constructor
   ·intro h'; cases h'
   ·rintro ⟨⟨a, b⟩, c⟩; exact absurd (h1.2 ⟨a, by omega⟩) h
end
mutual
theorem nodes_ok : ∀ {e : Expr}, e.size ≤ 1000000 → 1 ≤ nodes e ∧ nodes e ≤ e.size ∧ (nodes e ≤ 400 → nodes e = e.size)
 | .mk op n m kind lit args rels, h => by
  rw [nodes_eq]
  simp only [Expr.size, Expr.args] at h ⊢
  obtain ⟨h1, h2, h3⟩ := @nodesL_ok args 1 (by omega) (by omega) (by omega)
  refine ⟨h1, by omega, fun h => ?_⟩
  rw [h3 h]; omega
theorem nodesL_ok : ∀ {l : List Expr} {n : Int}, 1 ≤ n → n ≤ 2000000 → Expr.sizes l ≤ 1000000 → n ≤ nodesL n l ∧ nodesL n l ≤ n + Expr.sizes l ∧ (nodesL n l ≤ 400 → nodesL n l = n + Expr.sizes l)
 | [], n, h1, h2, h3 => by simp [nodesL, Expr.sizes]
 | e :: r, n, h1, h2, h3 => by
  simp only [nodesL, Expr.sizes] at h3 ⊢
  obtain ⟨g1, g2, g3⟩ := @nodes_ok e (by omega)
  by_cases hn : n ≤ 400
  ·rw [if_pos hn]
   have hw : w64 (n + nodes e) = n + nodes e := wrap_i64 (by omega) (by omega)
   rw [hw]
   obtain ⟨k1, k2, k3⟩ := @nodesL_ok r (n + nodes e) (by omega) (by omega) (by omega)
   refine ⟨by omega, by omega, fun h => ?_⟩
   rw [k3 h, g3 (by omega)]; omega
  ·rw [if_neg hn]
   refine ⟨by omega, by omega, fun h => by omega⟩
end
theorem formW_eq (e : Expr) (hs : e.size ≤ 500000) : formW e = form e := by
 have hn := nodes_ok (e := e) (by omega)
 rw [Bool.eq_iff_iff]
 unfold formW form
 simp only [Bool.and_eq_true, decide_eq_true_eq]
 have h1 := @shaped_ok e 24 (by omega)
 rw [show ((24 : Nat) : Int) = 24 from rfl] at h1
 rw [h1]
 constructor
 ·rintro ⟨a, b⟩
  have := (fitE_ok (at_ := 1) (e := e) (l := 400) (by omega) b).1.1 a
  exact ⟨⟨b, by omega⟩, by omega⟩
 ·rintro ⟨⟨a, b⟩, c⟩
  refine ⟨(fitE_ok (at_ := 1) (e := e) (l := 400) (by omega) a).1.2 ⟨?_, by omega⟩, a⟩
  have := hn.2.2 c
  omega
end Go.Proofs.YtgiedlcjlalpcaaGreat
namespace Go.Proofs.YtgiedlcjlalpcaaGreat
open Go.Abs
theorem allSmall_of : ∀ (l : List Val), (∀ v ∈ l, v.text.size ≤ 200) → allSmall l = true
 | [], _ => rfl
 | a :: r, h => by
  simp only [allSmall, Bool.and_eq_true, smallV, decide_eq_true_eq]
  exact ⟨h a (by simp), allSmall_of r fun v hv => h v (by simp [hv])⟩
theorem computed_1 (e : Expr) (cols : List Col) (a : Expr) (hab : e.args = [a]) (h : e.op = 9 ∨ e.op = 11) : computedE e cols = (e, false) := by
 rcases h with h | h <;> simp [computedE, h]
theorem cal99 (e : Expr) (cols : List Col) (hw : wf e = true) (hi : Inner e) (ho : e.op < 12) : Cal 99 [e.p, .lst (Col.ps cols)] [(computedE e cols).1.p, .bool (computedE e cols).2] := by
 have hin := inner_len hi
 have h4 := hi.lo
 by_cases h1 : e.op = 9 ∨ e.op = 11
 ·obtain ⟨a, hab⟩ := len1 (hin.1 (by omega))
  rw [computed_1 e cols a hab h1]
  rcases h1 with h1 | h1
  ·exact v99_9 e cols hw h1 a hab
  ·exact v99_11 e cols hw h1 a hab
 ·obtain ⟨a, b, hab⟩ := len2 (hin.2.2.2 (by omega) (by omega) (by omega))
  have hcase : e.op = 4 ∨ e.op = 5 ∨ e.op = 6 ∨ e.op = 7 ∨ e.op = 8 ∨ e.op = 10 := by omega
  have ha : hdE e.args = a := by rw [hab]; rfl
  have hb : lastE e.args = b := by rw [hab]; rfl
  rcases hcase with h | h | h | h | h | h
  ·rw [show computedE e cols = (if isV b (intW 0) then (a, true) else if isV a (intW 0) then (b, true) else (e, false)) by simp [computedE, h, ha, hb]]
   exact v99_4 e cols hw h a b hab
  ·rw [show computedE e cols = (if isV b (intW 0) then (a, true) else (e, false)) by simp [computedE, h, ha, hb]]
   exact v99_5 e cols hw h a b hab
  ·rw [show computedE e cols = (if isV b (intW 1) then (a, true) else if isV a (intW 1) then (b, true) else if isV b (intW 0) && !nullE cols a || isV a (intW 0) && !nullE cols b then (litE 1 (intW 0), true) else (e, false)) by simp [computedE, h, ha, hb]]
   exact v99_6 e cols hw h a b hab
  ·rw [show computedE e cols = (if isV b (intW 1) then (a, true) else (e, false)) by simp [computedE, h, ha, hb]]
   exact v99_7 e cols hw h a b hab
  ·rw [show computedE e cols = (e, false) by simp [computedE, h]]
   exact v99_8 e cols hw h a b hab
  ·rw [show computedE e cols = (if isV b (textW ⟨#[]⟩) then (a, true) else if isV a (textW ⟨#[]⟩) then (b, true) else (e, false)) by simp [computedE, h, ha, hb]]
   exact v99_10 e cols hw h a b hab
theorem cal98' (e : Expr) (cols : List Col) (hw : wf e = true) (hi : Inner e) (h1 : 12 ≤ e.op) (h2 : e.op ≤ 17) : Cal 98 [e.p, .lst (Col.ps cols)] [(comparedE e cols (hdE e.args) (lastE e.args)).1.p, .bool (comparedE e cols (hdE e.args) (lastE e.args)).2] := by
 obtain ⟨a, b, hab⟩ := len2 ((inner_len hi).2.2.2 (by omega) (by omega) (by omega))
 rw [show hdE e.args = a by rw [hab]; rfl, show lastE e.args = b by rw [hab]; rfl]
 exact cal98 e cols hw a b hab (cal159 e.op (by omega))
theorem leaf_args {e : Expr} (hw : wf e = true) (h : e.op = 1 ∨ e.op = 2 ∨ e.op = 3) : e.args = [] := by
 rcases h with h | h | h
 ·exact nodeR_leaf (wf_node hw) (.inl h)
 ·exact nodeR_leaf (wf_node hw) (.inr h)
 ·exact (nodeR_lit (wf_node hw) h).2.2.2.2.2.1
theorem cal57 (e : Expr) (cols : List Col) (hw : wf e = true) : Cal 57 [e.p, .lst (Col.ps cols)] [(stepE e cols).1.p, .bool (stepE e cols).2] := by
 by_cases hl : e.op = 1 ∨ e.op = 2 ∨ e.op = 3
 ·have h := leaf_args hw hl
  rw [show stepE e cols = (e, false) by simp [stepE, h]]
  exact s57_none e cols hw h
 ·have hi := nodeR_inner (wf_node hw) (by omega) (by omega) (by omega)
  have hin := inner_len hi
  have hlo := hi.lo
  have hhi := hi.hi
  have hpos : 0 < e.args.length := nodeR_args (wf_node hw) (by simp; omega) (by simp; omega) (by simp; omega)
  have h0 : ((e.args.length : Int) == 0) = false := by simp; intro h; rw [h] at hpos; simp at hpos
  have h91 := cal91 e cols hw fun l h1 h2 => cal79 e hi l h1 h2
  cases hc : (constantE e cols).2 with
  | true =>
   rw [show stepE e cols = ((constantE e cols).1, true) by unfold stepE; rw [if_neg (by rw [h0]; simp), if_pos hc]]
   exact s57_const e cols hw h91 h0 hc
  | false =>
   have hs : stepE e cols = (if e.op == 19 then listedE e true
     else if e.op == 20 then listedE e false
     else if e.op == 21 then notE (hdE e.args)
     else if e.op == 22 then (truthE false, !nullE cols (hdE e.args))
     else if e.op == 23 then (hdE e.args, !nullE cols (hdE e.args))
     else if e.op == 18 then sameStepE cols (hdE e.args) (lastE e.args)
     else if e.op == 24 then casesE e
     else if e.op == 25 then firstE e cols
     else strictL e cols e.args) := by
    unfold stepE
    rw [if_neg (by rw [h0]; simp), if_neg (by rw [hc]; simp)]
   rw [hs]
   clear hs
   by_cases h19 : e.op = 19
   ·rw [if_pos (by simp [h19])]
    exact s57_19 e cols hw h91 h0 hc h19
   by_cases h20 : e.op = 20
   ·rw [if_neg (by simp [h20]), if_pos (by simp [h20])]
    exact s57_20 e cols hw h91 h0 hc h20
   by_cases h21 : e.op = 21
   ·obtain ⟨a, hab⟩ := len1 (hin.1 (by omega))
    rw [if_neg (by simp [h21]), if_neg (by simp [h21]), if_pos (by simp [h21]), show hdE e.args = a by rw [hab]; rfl]
    exact s57_21 e cols hw h91 h0 hc h21 a hab
   by_cases h22 : e.op = 22
   ·obtain ⟨a, hab⟩ := len1 (hin.1 (by omega))
    rw [if_neg (by simp [h22]), if_neg (by simp [h22]), if_neg (by simp [h22]), if_pos (by simp [h22]), show hdE e.args = a by rw [hab]; rfl]
    exact s57_22 e cols hw h91 h0 hc h22 a hab
   by_cases h23 : e.op = 23
   ·obtain ⟨a, hab⟩ := len1 (hin.1 (by omega))
    rw [if_neg (by simp [h23]), if_neg (by simp [h23]), if_neg (by simp [h23]), if_neg (by simp [h23]), if_pos (by simp [h23]), show hdE e.args = a by rw [hab]; rfl]
    exact s57_23 e cols hw h91 h0 hc h23 a hab
   by_cases h18 : e.op = 18
   ·obtain ⟨a, b, hab⟩ := len2 (hin.2.2.2 (by omega) (by omega) (by omega))
    rw [if_neg (by simp [h18]), if_neg (by simp [h18]), if_neg (by simp [h18]), if_neg (by simp [h18]), if_neg (by simp [h18]), if_pos (by simp [h18]), show hdE e.args = a by rw [hab]; rfl, show lastE e.args = b by rw [hab]; rfl]
    exact s57_18 e cols hw h91 h0 hc h18 a b hab
   by_cases h24 : e.op = 24
   ·have := (hin.2.2.1 h24).1
    rw [if_neg (by simp [h24]), if_neg (by simp [h24]), if_neg (by simp [h24]), if_neg (by simp [h24]), if_neg (by simp [h24]), if_neg (by simp [h24]), if_pos (by simp [h24])]
    exact s57_24 e cols hw h91 h0 hc h24 (e.args.length - 1) (by omega) (by omega)
   by_cases h25 : e.op = 25
   ·have := hin.2.1 (by omega)
    rw [if_neg (by simp [h25]), if_neg (by simp [h25]), if_neg (by simp [h25]), if_neg (by simp [h25]), if_neg (by simp [h25]), if_neg (by simp [h25]), if_neg (by simp [h25]), if_pos (by simp [h25])]
    exact s57_25 e cols hw h91 h0 hc h25 (e.args.length - 1) (by omega)
   rw [if_neg (by simpa using h19), if_neg (by simpa using h20), if_neg (by simpa using h21), if_neg (by simpa using h22), if_neg (by simpa using h23), if_neg (by simpa using h18), if_neg (by simpa using h24), if_neg (by simpa using h25)]
   exact s57_s e cols hw h91 h0 hc (by omega) (fun h => cal98' e cols hw hi h (by omega)) (fun h => cal99 e cols hw hi h)
end Go.Proofs.YtgiedlcjlalpcaaGreat
namespace Go.Abs
open Go.RowKit
open Go.ChangeMaps (setBlock)
structure RngAt (cfg : Cfg) (base : Base) (H : St) (nm r bm since : Nat) (es : Array MapEntry) (clock : Nat) (ks vs : List P) (seen : Array Nat) (E : Env) (μ : Places) (a : Act) (w : World) : Prop where
 mem : Mem cfg base E μ H.b H.u w
 tm : Tm E μ H a
 at_ : μ nm = some (r, 0)
 it : ∃ c0, w.heap[r]? = some (.mapIter (some bm) since seen c0) ∧ since ≤ c0
 mp : w.heap[bm]? = some (.map es clock)
 cell : ∀ o, E.cell r o = none
 emp : E.mp bm = some (ks, vs)
 free : ∀ n k c, getB H.b n = some k → k.mut = true → μ n ≠ some (r, c)
 new : base.w.heap.size ≤ r
theorem not_own {cfg : Cfg} {base : Base} {E : Env} {μ : Places} {b : Blks} {u : List Nat} {w : World} (hm : Mem cfg base E μ b u w) {bm : Nat} {ks vs : List P} (he : E.mp bm = some (ks, vs)) : ¬ ownL b μ bm := by
 rintro ⟨n, k, c, h1, h2, h3⟩
 have hma := hm.mp bm ks vs he
 obtain ⟨es, clock, hes, _⟩ := hma
 have hb := hm.blk n k h1
 cases k with
 | cells cs => obtain ⟨B', cap, c, g1, ⟨t, g2⟩, _⟩ := hb; rw [h3] at g1; cases g1; rw [hes] at g2; cases g2
 | frz cs => simp [Blk.mut] at h2
 | arr sz es sh =>
  obtain ⟨_, hb⟩ := hb
  rcases hb with ⟨g1, _⟩ | ⟨B', cap, c, g1, ⟨t, g2⟩, _⟩
  ·rw [h3] at g1; cases g1
  ·rw [h3] at g1; cases g1; rw [hes] at g2; cases g2
 | map ks vs => obtain ⟨B', cap, g1, _, _, g4⟩ := hb; rw [h3] at g1; cases g1; rw [he] at g4; cases g4
 | vmap ks vs => obtain ⟨B', cap, g1, _, _, g4⟩ := hb; rw [h3] at g1; cases g1; rw [he] at g4; cases g4
def nextV (q : Bool) : V := match q with | true => .tup [.p (.bool true), .any, .any] | false => .tup [.p (.bool false)]
section
variable {cfg : Cfg} {base : Base} {Q : Program} {R : Ex → St → Prop} {H : St} {nm ti : Nat} {ks vs : List P} {G : Nat → Prop}
 {i14 i15 lb bb : Nat} {ops14 ops15 : Array Oper} {o14 o15 : Oper} {r14 r15 : List Oper} {c : Operand} {body : Code} {N : Bool → St} {M : P → St}
theorem wp_rangeLoop (hc : CfgOk cfg Q) (h14 : ops14.toList = o14 :: r14) (g14 : o14.guard = none) (p14 : o14.op = .next (.tmp ti) false)
  (h15 : ops15.toList = o15 :: r15) (g15 : o15.guard = none) (p15 : o15.op = .entry (.tmp ti))
  (hti : H.t[ti]? = some (.ref nm 0)) (hnm : 1000 ≤ nm) (hnu : nm ∈ H.u) (hna : ∀ sz es sh, getB H.b nm ≠ some (.arr sz es sh)) (hpin : base.pin nm = none)
  (x14 : ∀ q : Bool, runK cfg Q ops14 false r14 (H.put o14.dst (nextV q) H.b H.u) [] (fun S _ => S = N q)) (hcond : ∀ q, opnd (N q).t c = .p (.bool q)) (hN : ∀ q, (N q).b = H.b ∧ (N q).u = H.u ∧ (N q).t[ti]? = some (.ref nm 0))
  (x15 : ∀ v, runK cfg Q ops15 false r15 ((N true).put o15.dst (.tup [.any, .p v]) H.b H.u) [] (fun S _ => S = M v))
  (hb : ∀ base j v, vs[j]? = some v → wpA cfg base Q body (blockR bb (thenR (fun S' => G j ∧ St.le [] S' H) R)) (M v))
  (hend : (∀ j, j < vs.length → G j) → R (.exit lb) (N false))
  {r bm since clock : Nat} {es : Array MapEntry} (hold : ∀ x ∈ es.toList, x.born < since) (hck : since ≤ clock) {E : Env} {μ : Places} {a : Act} {w : World} (h0 : RngAt cfg base H nm r bm since es clock ks vs #[] E μ a w) :
  (Code.loop (.seq (.region i14 ops14 false) (.seq (.cond c .skip (.exit lb)) (.block bb (.seq (.region i15 ops15 false) body))))).wp Q (lift cfg base R) a w := by
 refine wp_loop (fun a w => ∃ seen E μ, RngAt cfg base H nm r bm since es clock ks vs seen E μ a w ∧ ∀ j e, es[j]? = some e → seen.contains e.born = true → G j)
  (fun a w => match w.heap[r]? with | some (.mapIter _ _ seen _) => (leftOf es seen).size | _ => 0) ⟨#[], E, μ, h0, fun j e _ h => by simp at h⟩ ?_
 clear h0 E μ a w
 rintro a w ⟨seen, E, μ, h, hG⟩
 obtain ⟨c0, hit, hsc⟩ := h.it
 have hlt : r < w.heap.size := (Array.getElem?_eq_some_iff.1 hit).1
 have hbl : bm < w.heap.size := (Array.getElem?_eq_some_iff.1 h.mp).1
 have hne : bm ≠ r := by
  rintro rfl
  have hmp := h.mp
  rw [hit] at hmp; cases hmp
 have hev : a.eval (.tmp ti) = .pointer (some ⟨r, 0, none⟩) := by
  have hr := rep_opnd h.tm (.tmp ti)
  have : opnd H.t (.tmp ti) = .ref nm 0 := by simp [opnd, List.getD, hti]
  rw [this] at hr
  generalize a.eval (.tmp ti) = v at hr
  cases hr with
  | ref _ _ B cap hu hB _ => rw [h.at_] at hB; cases hB; rfl
 have hrow := h.mem.mp bm ks vs h.emp
 obtain ⟨es', clock', m1, m2, m3, m4, m5⟩ := hrow
 rw [h.mp] at m1
 cases m1
 have hnor : E.mp r = none := by
  cases e : E.mp r with
  | none => rfl
  | some x =>
   obtain ⟨_, _, g, _⟩ := h.mem.mp r x.1 x.2 e
   rw [hit] at g; cases g
 refine wp_seq ?_
 rcases run_next_at (P := Q) w o14.type r bm since c0 seen es clock hit h.mp hold hsc with ⟨h1, hrun⟩ | ⟨e, he, w1, hw1, hrun⟩
 ·
  have hcon : Con cfg base (H.put o14.dst (nextV false) H.b H.u) (a.put o14.dst (.tuple #[.bool false])) w := by
   refine ⟨E, μ, ?_, h.tm.put (Chg.refl _ _ _ _) (.tup [.bool false] [.p (.bool false)] rfl fun i v x hv hx => ?_) _⟩
   ·cases o14.dst <;> exact h.mem
   ·cases i with
    | zero => simp at hv hx; subst hv; subst hx; exact .p _ _ (.bool _)
    | succ i => simp at hv
  refine wp_mono (reg_first hc (R := thenR (fun S => S = N false) fun _ _ => False) h14 g14 (by simp only [execOp, p14, hev, hrun, Sem.run_bind, Result.andThen_ok]; rfl) hcon (x14 false)) ?_
  intro ex a' w' ⟨x, S, q1, q2, q3⟩
  cases ex <;> simp only [Ex.of, Option.some.injEq, reduceCtorEq] at q1 <;> subst q1 <;> simp only [thenR] at q2
  subst q2
  refine wp_seq (wp_cond (t := false) ?_ ?_)
  ·obtain ⟨E', μ', _, ht'⟩ := q3
   have := rep_opnd ht' c
   rw [hcond] at this
   have h4 := this.inv_p
   cases hh : a'.eval c <;> rw [hh] at h4 <;> cases h4
   rfl
  ·refine wp_exit ⟨.exit lb, N false, rfl, hend fun j hj => ?_, q3⟩
   have hj' : j < es.size := by omega
   exact hG j es[j] (by simp [hj']) (all_seen es seen h1 es[j] (by simp))
 ·
  obtain ⟨hem, hes⟩ := mem_left he
  have hheap : ∀ j : Nat, w1.heap[j]? = w.heap[j]? := by rcases hw1 with rfl | rfl <;> intro j <;> rfl
  have hr1 : w1.heap[r]? = some (.mapIter (some bm) since seen c0) := (hheap r).trans hit
  have hset := MapKept.heap_set (o' := .mapIter (some bm) since (seen.push e.born) clock) hr1
  obtain ⟨w2, hw2⟩ : ∃ w2, setBlock w1 r (.mapIter (some bm) since (seen.push e.born) clock) = w2 := ⟨_, rfl⟩
  have hset1 : w2.heap[r]? = some (.mapIter (some bm) since (seen.push e.born) clock) := by rw [← hw2]; exact hset.1
  have hset2 : ∀ j : Nat, j ≠ r → w2.heap[j]? = w.heap[j]? := fun j hj => by rw [← hw2]; exact (hset.2 j hj).trans (hheap j)
  have hsize : w2.heap.size = w.heap.size := by
   rw [← hw2]
   show (w1.heap.setIfInBounds _ _).size = _
   rw [Array.size_setIfInBounds]
   rcases hw1 with rfl | rfl <;> rfl
  have hm2 : Mem cfg base E μ H.b H.u w2 := h.mem.beside h.new h.free h.cell hnor (fun j hj _ => hset2 j hj) (by omega) (by rw [← hw2]; rcases hw1 with rfl | rfl <;> rfl) (by rw [← hw2]; rcases hw1 with rfl | rfl <;> rfl) (by rw [← hw2]; rcases hw1 with rfl | rfl <;> rfl)
  have hm3 := hm2.rebase hnu hna hnm h.at_
  have hb2 : w2.heap[bm]? = some (.map es clock) := (hset2 bm hne).trans h.mp
  rw [hw2] at hrun
  obtain ⟨base1, hbase1⟩ : ∃ base1, Abs.rebase base w2 E H.b μ nm r = base1 := ⟨_, rfl⟩
  rw [hbase1] at hm3
  have hcon : Con cfg base1 (H.put o14.dst (nextV true) H.b H.u) (a.put o14.dst (.tuple #[.bool true, e.key, e.val])) w2 := by
   refine ⟨E, μ, ?_, h.tm.put (Chg.refl _ _ _ _) (.tup [.bool true, e.key, e.val] [.p (.bool true), .any, .any] rfl fun i v x hv hx => ?_) _⟩
   ·cases o14.dst <;> exact hm3
   ·match i with
    | 0 => simp at hv hx; subst hv; subst hx; exact .p _ _ (.bool _)
    | 1 => simp at hx; subst hx; exact .any _
    | 2 => simp at hx; subst hx; exact .any _
    | i + 3 => simp at hv
  have hback : ∀ {S : St} {a : Act} {w : World}, Con cfg base1 S a w → Con cfg base S a w := fun ⟨E', μ', g1, g2⟩ => ⟨E', μ', hm2.back hpin (by rw [hbase1]; exact g1), g2⟩
  have hnoown : ¬ ownL H.b μ r := fun ⟨n, k, c, g1, g2, g3⟩ => h.free n k c g1 g2 g3
  have hnoownb : ¬ ownL H.b μ bm := not_own h.mem h.emp
  have hkeep : ∀ {E' : Env} {μ' : Places} {b' : Blks} {u' : List Nat} {w' : World}, Mem cfg base1 E' μ' b' u' w' → w'.heap[r]? = some (.mapIter (some bm) since (seen.push e.born) clock) ∧ w'.heap[bm]? = some (.map es clock) ∧ μ' nm = some (r, 0) ∧ E'.mp bm = some (ks, vs) ∧ (∀ o, E'.cell r o = none) ∧
    ∀ n k c, getB b' n = some k → k.mut = true → μ' n ≠ some (r, c) := by
   intro E' μ' b' u' w' g
   subst hbase1
   refine ⟨(g.keep r (show r < w2.heap.size by omega) hnoown).trans hset1, (g.keep bm (show bm < w2.heap.size by omega) hnoownb).trans hb2, (g.pin nm (r, 0) (by simp [Abs.rebase])).2.2.2, g.le.mp _ _ h.emp, fun o => ?_, fun n k c g1 g2 g3 => ?_⟩
   ·cases hc' : E'.cell r o with
    | none => rfl
    | some v =>
     rcases g.cnew r o v hc' with q | q | q
     ·have q' : E.cell r o = some v := q
      rw [h.cell o] at q'; cases q'
     ·have q' : w2.heap.size ≤ r := q
      omega
     ·exact (hnoown q).elim
   ·rcases g.live n k r c g1 g2 g3 with q | q
    ·have q' : w2.heap.size ≤ r := q
     omega
    ·exact hnoown q
  obtain ⟨j, hj⟩ := List.getElem?_of_mem hem
  have hj' : es[j]? = some e := by simpa using hj
  have hjlt : j < vs.length := by
   have := (Array.getElem?_eq_some_iff.1 hj').1
   omega
  have hvj : vs[j]? = some vs[j] := by simp [hjlt]
  have hrep := (m4 j e hj').2 vs[j] hvj
  refine wp_mono (reg_first hc (R := thenR (fun S => S = N true) fun _ _ => False) h14 g14 (by simp only [execOp, p14, hev, hrun, Sem.run_bind, Result.andThen]; rfl) hcon (x14 true)) ?_
  intro ex a' w' ⟨x, S, q1, q2, q3⟩
  cases ex <;> simp only [Ex.of, Option.some.injEq, reduceCtorEq] at q1 <;> subst q1 <;> simp only [thenR] at q2
  subst q2
  obtain ⟨E', μ', hm', ht'⟩ := q3
  obtain ⟨k1, k2, k3, k4, k5, k6⟩ := hkeep hm'
  refine wp_seq (wp_cond (t := true) ?_ ?_)
  ·have := rep_opnd ht' c
   rw [hcond] at this
   have h4 := this.inv_p
   cases hh : a'.eval c <;> rw [hh] at h4 <;> cases h4
   rfl
  refine wp_skip (wp_block (wp_seq ?_))
  have hev' : a'.eval (.tmp ti) = .pointer (some ⟨r, 0, none⟩) := by
   have hr := rep_opnd ht' (.tmp ti)
   have : opnd (N true).t (.tmp ti) = .ref nm 0 := by simp [opnd, List.getD, (hN true).2.2]
   rw [this] at hr
   generalize a'.eval (.tmp ti) = v at hr
   cases hr with
   | ref _ _ B cap hu hB _ => rw [k3] at hB; cases hB; rfl
  have hrun' := run_entry_at (P := Q) w' r bm since seen es clock e k1 k2 hem m5.2
  obtain ⟨n1, n2, _⟩ := hN true
  have hcon' : Con cfg base1 ((N true).put o15.dst (.tup [.any, .p vs[j]]) H.b H.u) (a'.put o15.dst (.tuple #[e.key, e.val])) w' := by
   have hle : E.le E' := by subst hbase1; exact hm'.le
   have hput := ht'.put (Chg.refl E' μ' (N true).b (N true).u) (cv := .tuple #[e.key, e.val]) (v := .tup [.any, .p vs[j]]) (.tup [e.key, e.val] [.any, .p vs[j]] rfl fun i v x hv hx => by
    match i with
    | 0 => simp at hx; subst hx; exact .any _
    | 1 => simp at hv hx; subst hv; subst hx; exact .p _ _ (hrep.mono hle)
    | i + 2 => simp at hv) o15.dst
   rw [n1, n2] at hput hm'
   refine ⟨E', μ', ?_, hput⟩
   cases o15.dst <;> exact hm'
  refine wp_mono (reg_first hc (R := thenR (fun S => S = M vs[j]) fun _ _ => False) h15 g15 (by simp only [execOp, p15, hev', hrun', Sem.run_bind, Result.andThen]; rfl) hcon' (x15 vs[j])) ?_
  intro ex a2 w3 ⟨x, S, q1, q2, q3⟩
  cases ex <;> simp only [Ex.of, Option.some.injEq, reduceCtorEq] at q1 <;> subst q1 <;> simp only [thenR] at q2
  subst q2
  have hnext : ∀ (S' : St) (a3 : Act) (w4 : World), G j → St.le [] S' H → Con cfg base1 S' a3 w4 → (∃ seen E μ, RngAt cfg base H nm r bm since es clock ks vs seen E μ a3 w4 ∧ ∀ j e, es[j]? = some e → seen.contains e.born = true → G j) ∧
    (match w4.heap[r]? with | some (.mapIter _ _ seen _) => (leftOf es seen).size | _ => 0) < (match w.heap[r]? with | some (.mapIter _ _ seen _) => (leftOf es seen).size | _ => 0) := by
   rintro S' a3 w4 hg hle ⟨E2, μ2, f1, f2⟩
   obtain ⟨f1, f2⟩ := Con.le' hle f1 f2
   simp only [List.not_mem_nil, if_false] at f1 f2
   obtain ⟨p1, p2, p3, p4, p5, p6⟩ := hkeep f1
   refine ⟨⟨seen.push e.born, E2, μ2, ⟨hm2.back hpin (by rw [hbase1]; exact f1), f2, p3, ⟨clock, p1, ?_⟩, p2, p5, p4, p6, h.new⟩, ?_⟩, ?_⟩
   ·exact hck
   ·intro i x hx hs
    simp only [Array.contains_push, Bool.or_eq_true, beq_iff_eq] at hs
    rcases hs with hs | hs
    ·exact hG i x hx hs
    ·have hxe : x = e := by
      have hnd := m5.2
      have hxm : x ∈ es.toList := by
       have : es.toList[i]? = some x := by simpa using hx
       exact List.mem_of_getElem? this
      exact born_inj hnd hxm hem hs
     subst hxe
     have : i = j := by
      have e1 : (es.toList.map (·.born))[i]? = some x.born := by simp [hx]
      have e2 : (es.toList.map (·.born))[j]? = some x.born := by simp [hj']
      exact (List.getElem?_inj (List.getElem?_eq_some_iff.1 e1).1 m5.2).1 (e1.trans e2.symm)
     rw [this]; exact hg
   ·rw [p1, hit]
    exact left_shrinks es seen e he
  refine wp_mono (hb base1 j vs[j] hvj a2 w3 q3) ?_
  intro ex a3 w4 ⟨x, S, q1, q2, q3⟩
  cases ex <;> simp only [Ex.of, Option.some.injEq, reduceCtorEq] at q1 <;> subst q1
  ·exact hnext S a3 w4 q2.1 q2.2 q3
  ·rename_i n
   simp only [blockR] at q2
   simp only [Exit.inBlock]
   split
   ·rename_i en
    rw [if_pos en] at q2
    exact hnext S a3 w4 q2.1 q2.2 q3
   ·rename_i en
    rw [if_neg en] at q2
    exact ⟨_, S, rfl, q2, hback q3⟩
  ·exact ⟨_, S, rfl, q2, hback q3⟩
end
end Go.Abs
namespace Go.Abs
open Go.RowKit
open Go.ChangeMaps (setBlock)
section
variable {cfg : Cfg} {base : Base} {Q : Program}
theorem Mem.lt {E : Env} {μ : Places} {b : Blks} {u : List Nat} {w : World} (hm : Mem cfg base E μ b u w) {n : Nat} {k : Blk} {B c : Nat} (hk : getB b n = some k) (hkm : k.mut = true) (hB : μ n = some (B, c)) : B < w.heap.size := by
 have hb := hm.blk n k hk
 cases k with
 | cells cs => obtain ⟨B', cap, c, h1, h2, _⟩ := hb; rw [hB] at h1; cases h1; exact blockAt_lt h2
 | frz cs => simp [Blk.mut] at hkm
 | arr sz es sh =>
  obtain ⟨_, hb⟩ := hb
  rcases hb with ⟨h1, _⟩ | ⟨B', cap, c, h1, h2, _⟩
  ·rw [hB] at h1; cases h1
  ·rw [hB] at h1; cases h1; exact blockAt_lt h2
 | map ks vs => obtain ⟨B', cap, h1, h2, _⟩ := hb; rw [hB] at h1; cases h1; exact h2.lt
 | vmap ks vs => obtain ⟨B', cap, h1, h2, _⟩ := hb; rw [hB] at h1; cases h1; exact h2.lt
theorem Mem.addName {E : Env} {μ : Places} {b : Blks} {u : List Nat} {w : World} (hm : Mem cfg base E μ b u w) {nm : Nat} (hn : nm ∉ u) (o : Obj) :
  Chg E E μ (fun n => if n = nm then some (w.heap.size, 0) else μ n) b b u (nm :: u) ∧ Mem cfg base E (fun n => if n = nm then some (w.heap.size, 0) else μ n) b (nm :: u) (w.alloc o) := by
 have hne : ∀ n, n ∈ u → n ≠ nm := fun n h e => hn (e ▸ h)
 have hc : Chg E E μ (fun n => if n = nm then some (w.heap.size, 0) else μ n) b b u (nm :: u) :=
  ⟨Env.le_refl E, fun n h => List.mem_cons_of_mem _ h, fun n h sz es sh e => ⟨es, sh, e, Nat.le_refl _, fun _ => by simp [hne n h]⟩, fun n h e => ⟨by simp [hne n h], e⟩⟩
 have hμ : ∀ n k, getB b n = some k → (if n = nm then some (w.heap.size, 0) else μ n) = μ n := fun n k h => by simp [hne n (hm.dom n k h)]
 have hw : ∀ j, j < w.heap.size → (w.alloc o).heap[j]? = w.heap[j]? := fun j hj => Below.heap_alloc w o j hj
 have hs : w.heap.size ≤ (w.alloc o).heap.size := by
  show _ ≤ (w.heap.push o).size
  simp
 refine ⟨hc, ⟨fun n k h => List.mem_cons_of_mem _ (hm.dom n k h), fun n k hk => ?_, fun n m k l B C c d hk hl hkm hlm hB hC hnm => ?_, fun n k B c hk hkm hB => ?_, fun B o' v hv => ?_, hm.obj, hm.le, hm.cnew, hm.onew, hm.os, hm.tape, hm.output, Nat.le_trans hm.size hs, ?_, ?_, hm.mnew, pin_chg hm hc⟩⟩
 ·exact BlkOk.other hm hc hk (hμ n k hk) (fun B c hkm hB => ⟨hw B (hm.lt hk hkm hB), fun _ => rfl⟩) (fun _ _ _ _ => rfl)
 ·rw [hμ n k hk] at hB
  rw [hμ m l hl] at hC
  exact hm.inj n m k l B C c d hk hl hkm hlm hB hC hnm
 ·rw [hμ n k hk] at hB
  exact hm.live n k B c hk hkm hB
 ·have hv' := hm.cell B o' v hv
  rw [← hv']
  exact World.cell?_of_block (hw B (lt_of_cell hv'))
 ·intro k hk hL
  rw [hw k (Nat.lt_of_lt_of_le hk hm.size)]
  exact hm.keep k hk hL
 ·intro B ks vs hB
  have h := hm.mp B ks vs hB
  exact h.mono (Env.le_refl E) (hw B h.lt)
variable {R : Ex → St → Prop} {S S1 : St} {nm ti : Nat} {ks vs : List P} {G : Nat → Prop}
 {i13 i14 i15 lb bb : Nat} {ops13 ops14 ops15 : Array Oper} {o13 o14 o15 : Oper} {r13 r14 r15 : List Oper} {m c : Operand} {body : Code} {N : Bool → St} {M : P → St} {t kt et : TypeId} {ts tb : Nat} {tz : List V} {te : List TK}
def rngH (S1 : St) (ti nm : Nat) : St := ⟨S1.t.set ti (.ref nm 0), S1.b, nm :: S1.u⟩
theorem wpA_range (hc : CfgOk cfg Q) (h13 : ops13.toList = r13 ++ [o13]) (x13 : runK cfg Q ops13 false r13 S [] (fun S' _ => S' = S1)) (g13 : o13.guard = none) (p13 : o13.op = .range t m) (d13 : o13.dst = some ti) (hty : cfg.ty t = some ⟨.map kt et, ts, tb, tz, te⟩) (hmap : opnd S1.t m = .p (.imap ks vs))
  (hti : ti < S1.t.length) (hnm : 1000 ≤ nm) (hnu : nm ∉ S1.u) (hnb : getB S1.b nm = none)
  (h14 : ops14.toList = o14 :: r14) (g14 : o14.guard = none) (p14 : o14.op = .next (.tmp ti) false)
  (h15 : ops15.toList = o15 :: r15) (g15 : o15.guard = none) (p15 : o15.op = .entry (.tmp ti))
  (x14 : ∀ q : Bool, runK cfg Q ops14 false r14 ((rngH S1 ti nm).put o14.dst (nextV q) S1.b (nm :: S1.u)) [] (fun S _ => S = N q)) (hcond : ∀ q, opnd (N q).t c = .p (.bool q)) (hN : ∀ q, (N q).b = S1.b ∧ (N q).u = nm :: S1.u ∧ (N q).t[ti]? = some (.ref nm 0))
  (x15 : ∀ v, runK cfg Q ops15 false r15 ((N true).put o15.dst (.tup [.any, .p v]) S1.b (nm :: S1.u)) [] (fun S _ => S = M v))
  (hb : ∀ base j v, vs[j]? = some v → wpA cfg base Q body (blockR bb (thenR (fun S' => G j ∧ St.le [] S' (rngH S1 ti nm)) (blockR lb R))) (M v))
  (hend : (∀ j, j < vs.length → G j) → R .normal (N false)) :
  wpA cfg base Q (.seq (.region i13 ops13 false) (.block lb (.loop (.seq (.region i14 ops14 false) (.seq (.cond c .skip (.exit lb)) (.block bb (.seq (.region i15 ops15 false) body))))))) R S := by
 intro a w hcon
 have hsz : ops13.size = r13.length + 1 := by have := congrArg List.length h13; simpa using this
 have hlast : ops13[r13.length]? = some o13 := by rw [← Array.getElem?_toList, h13]; simp
 have htk : ops13.toList.take r13.length = r13 := by rw [h13]; simp
 refine wp_seq (wp_region ?_)
 rw [hsz, List.range_succ]
 refine runK_soundP hc (K := fun S' _ => S' = S1) ?_ x13 (List.range r13.length) (by have := take_some ops13 r13.length (by omega); rw [htk] at this; exact this) hcon
 rintro S' _ a w rfl ⟨E, μ, hm, ht⟩
 simp only [wpOps, hlast]
 rw [if_pos (by simp [Region.wanted, g13])]
 left
 have hme := rep_opnd ht m
 rw [hmap] at hme
 generalize hev : a.eval m = mv at hme
 have hme' := hme.inv_p
 cases hme' with
 | imap bm _ _ hemp =>
 obtain ⟨es, clock, m1, m2, m3, m4, m5⟩ := hm.mp bm ks vs hemp
 obtain ⟨dt, e1, e2⟩ := hc.run_underlying (w := w) hty
 have e3 : dt = .map kt et := by cases dt <;> simp [kindB] at e2; obtain ⟨rfl, rfl⟩ := e2; rfl
 subst e3
 have hrun : (Instr.range t (.map (some bm))).run Q w = .ok (.pointer (some ⟨w.heap.size, 0, none⟩)) (w.alloc (.mapIter (some bm) clock #[] clock)) := by
  simp [Instr.range, e1, MapKept.run_getObj_map m1]
 simp only [Oper.wp, execOp, p13, hev, hrun, Sem.run_bind, Result.andThen]
 simp only [Oper.upon, Sem.run_pure]
 obtain ⟨c1, hm2⟩ := hm.addName hnu (.mapIter (some bm) clock #[] clock)
 have hpin : base.pin nm = none := by
  cases hp : base.pin nm with
  | none => rfl
  | some B => exact (hnu (hm.pin nm B hp).1).elim
 have hcellnew : ∀ o, E.cell w.heap.size o = none := by
  intro o
  cases h : E.cell w.heap.size o with
  | none => rfl
  | some v' => exact (Nat.lt_irrefl _ (lt_of_cell (hm.cell _ _ _ h))).elim
 have hput := ht.put c1 (cv := .pointer (some ⟨w.heap.size, 0, none⟩)) (v := .ref nm 0) (.ref nm 0 w.heap.size 0 (by simp) (by simp) (fun sz es sh h => by rw [hnb] at h; cases h)) o13.dst
 rw [d13] at hput ⊢
 have hbml : bm < w.heap.size := (Array.getElem?_eq_some_iff.1 m1).1
 have h0 : RngAt cfg base (rngH S' ti nm) nm w.heap.size bm clock es clock ks vs #[] E (fun n => if n = nm then some (w.heap.size, 0) else μ n) (a.put (some ti) (.pointer (some ⟨w.heap.size, 0, none⟩))) (w.alloc (.mapIter (some bm) clock #[] clock)) := by
  refine ⟨hm2, hput, by simp, ⟨clock, ?_, Nat.le_refl _⟩, (Below.heap_alloc w _ bm hbml).trans m1, hcellnew, hemp, fun n k c hk hkm hB => ?_, hm.size⟩
  ·show (w.heap.push _)[w.heap.size]? = _
   simp
  ·have hne : n ≠ nm := fun e => hnu (e ▸ hm.dom n k hk)
   simp only [hne, if_false] at hB
   exact Nat.lt_irrefl _ (hm.lt hk hkm hB)
 refine wp_block (wp_mono (wp_rangeLoop hc (R := blockR lb R) (H := rngH S' ti nm) h14 g14 p14 h15 g15 p15 (by simp [rngH, hti]) hnm (by simp [rngH]) (fun sz es sh h => by
   have : getB S'.b nm = some (.arr sz es sh) := h
   rw [hnb] at this; cases this) hpin x14 hcond hN x15 hb (fun hG => blockR_same (hend hG)) m5.1 (Nat.le_refl _) h0) ?_)
 intro e a w ⟨x, S, h1, h2, h3⟩
 cases e <;> simp only [Ex.of, Option.some.injEq, reduceCtorEq] at h1 <;> subst h1
 ·exact ⟨_, S, rfl, h2, h3⟩
 ·rename_i n
  simp only [blockR] at h2
  simp only [Exit.inBlock]
  split
  ·rename_i e; rw [if_pos e] at h2; exact ⟨_, S, rfl, h2, h3⟩
  ·rename_i e; rw [if_neg e] at h2; exact ⟨_, S, rfl, h2, h3⟩
 ·exact ⟨_, S, rfl, h2, h3⟩
end
end Go.Abs
namespace Go.Proofs.YtgiedlcjlalpcaaGreat
open Go.Abs
theorem deep_mem : ∀ {l : List Expr} {a : Expr}, a ∈ l → deep a ≤ deeps l
 | b :: r, a, h => by
  simp only [deeps]
  cases h with
  | head => omega
  | tail _ h => have := deep_mem h; omega
theorem deeps_le {d : Nat} : ∀ {l : List Expr}, (∀ a ∈ l, deep a ≤ d) → deeps l ≤ d
 | [], h => by simp [deeps]
 | b :: r, h => by
  simp only [deeps]
  have h1 := h b (by simp)
  have h2 := deeps_le (l := r) fun a ha => h a (by simp [ha])
  omega
theorem deep_eq (e : Expr) : deep e = deeps e.args + 1 := by cases e; rfl
theorem deep_pos (e : Expr) : 1 ≤ deep e := by rw [deep_eq]; omega
theorem deep_setA (e : Expr) (l : List Expr) : deep (setA e l) = deeps l + 1 := rfl
theorem deep_opE (op : Int) (l : List Expr) : deep (opE op l) = deeps l + 1 := rfl
theorem deep_hdE (l : List Expr) : deep (hdE l) ≤ deeps l + 1 := by
 cases l with
 | nil => exact Nat.le_of_eq rfl
 | cons a r => have := deep_mem (l := a :: r) (a := a) (by simp); show deep a ≤ _; omega
theorem deep_hdE' {l : List Expr} (h : l ≠ []) : deep (hdE l) ≤ deeps l := by
 cases l with
 | nil => exact absurd rfl h
 | cons a r => exact deep_mem (by simp [hdE])
theorem deep_lastE' {l : List Expr} (h : l ≠ []) : deep (lastE l) ≤ deeps l := by
 refine deep_mem ?_
 unfold lastE
 rw [List.getLastD_eq_getLast?, List.getLast?_eq_some_getLast h]
 exact List.getLast_mem h
theorem deep_oneOr (e : Expr) (l : List Expr) (h : deeps l ≤ deeps e.args) : deep (oneOr e l) ≤ deep e := by
 rw [deep_eq e]
 unfold oneOr
 split
 ·have := deep_hdE l; omega
 ·rw [deep_setA]; omega
theorem deeps_sub {l m : List Expr} (h : ∀ a ∈ l, a ∈ m) : deeps l ≤ deeps m := deeps_le fun a ha => deep_mem (h a ha)
theorem deep_withoutE (e : Expr) (i : Nat) : deep (withoutE e i) ≤ deep e := deep_oneOr e _ (deeps_sub fun a ha => by
 rcases List.mem_append.1 ha with h | h
 ·exact List.mem_of_mem_take h
 ·exact List.mem_of_mem_drop h)
theorem deep_spliceE (e : Expr) (i : Nat) (a : Expr) (ha : a ∈ e.args) : deep (spliceE e i a) ≤ deep e := by
 rw [deep_eq e]
 show deeps _ + 1 ≤ _
 have h1 := deep_mem ha
 rw [deep_eq a] at h1
 have : deeps (e.args.take i ++ a.args ++ e.args.drop (i + 1)) ≤ deeps e.args := deeps_le fun x hx => by
  rcases List.mem_append.1 hx with h | h
  ·rcases List.mem_append.1 h with h | h
   ·exact deep_mem (List.mem_of_mem_take h)
   ·have := deep_mem h; omega
  ·exact deep_mem (List.mem_of_mem_drop h)
 omega
theorem deep_list3 (e : Expr) (b : Bool) : ∀ (l : List Expr), deep (list3 e b l).1 ≤ deep e
 | [] => Nat.le_refl _
 | a :: r => by
  unfold list3
  split
  ·exact deep_pos e
  ·exact deep_list3 e b r
theorem deep_list2 (e : Expr) (b : Bool) : ∀ (l : List Expr) (i : Nat), deep (list2 e b l i).1 ≤ deep e
 | [], i => deep_list3 e b e.args
 | a :: r, i => by
  unfold list2
  split
  ·exact deep_withoutE e i
  ·exact deep_list2 e b r (i + 1)
theorem deep_list1 (e : Expr) (b : Bool) : ∀ (l : List Expr) (i : Nat), (∀ a ∈ l, a ∈ e.args) → deep (list1 e b l i).1 ≤ deep e
 | [], i, _ => deep_list2 e b e.args 0
 | a :: r, i, h => by
  unfold list1
  split
  ·exact deep_spliceE e i a (h a (by simp))
  ·exact deep_list1 e b r (i + 1) fun x hx => h x (by simp [hx])
theorem deep_notE (a : Expr) : deep (notE a).1 ≤ deep a + 1 := by
 have ha := deep_eq a
 unfold notE
 split
 ·have := deep_hdE a.args; show deep (hdE a.args) ≤ _; omega
 split
 ·show deep (opE _ _) ≤ _
  rw [deep_opE]; omega
 split
 ·show deep (opE _ _) ≤ _
  rw [deep_opE]
  have : deeps (a.args.map fun x => opE 21 [x]) ≤ deeps a.args + 1 := deeps_le fun x hx => by
   obtain ⟨y, hy, rfl⟩ := List.mem_map.1 hx
   have := deep_mem hy
   rw [deep_opE]
   simp only [deeps]
   omega
  omega
 ·show deep a ≤ _; omega
theorem deep_case2 (e : Expr) (n : Nat) (he : e.args ≠ []) : ∀ (k i : Nat), n - i ≤ k → deep (case2 e n i).1 ≤ deep e
 | k, i, hk => by
  have h1 := deep_eq e
  have h2 := deep_lastE' he
  rw [case2]
  split
  ·rename_i hi
   split
   ·match k with
    | 0 => omega
    | k + 1 => exact deep_case2 e n he k (i + 2) (by omega)
   ·exact Nat.le_refl _
  ·show deep (lastE e.args) ≤ _; omega
theorem deep_case1 (e : Expr) (n : Nat) (he : e.args ≠ []) (hn : n = e.args.length - 1) : ∀ (k i : Nat), n - i ≤ k → deep (case1 e n i).1 ≤ deep e
 | k, i, hk => by
  rw [case1]
  split
  ·rename_i hi
   split
   ·refine deep_oneOr e _ ?_
    split
    ·refine deeps_sub fun a ha => ?_
     rcases List.mem_append.1 ha with h | h
     ·exact List.mem_of_mem_take h
     ·simp only [List.mem_singleton] at h
      rw [h, getD_E _ _ (by omega)]
      exact List.getElem_mem _
    ·refine deeps_sub fun a ha => ?_
     rcases List.mem_append.1 ha with h | h
     ·exact List.mem_of_mem_take h
     ·exact List.mem_of_mem_drop h
   ·match k with
    | 0 => omega
    | k + 1 => exact deep_case1 e n he hn k (i + 2) (by omega)
  ·exact deep_case2 e n he _ 1 (Nat.le_refl _)
theorem deep_first2 (e : Expr) (cols : List Col) (n : Nat) (he : e.args ≠ []) : ∀ (k i : Nat), n - i ≤ k → deep (first2 e cols n i).1 ≤ deep e
 | k, i, hk => by
  have h1 := deep_eq e
  have h2 := deep_hdE' he
  rw [first2]
  split
  ·rename_i hi
   split
   ·match k with
    | 0 => omega
    | k + 1 => exact deep_first2 e cols n he k (i + 1) (by omega)
   ·show deep (if i = 0 then hdE e.args else setA e (e.args.take (i + 1))) ≤ _
    split
    ·omega
    ·rw [deep_setA]
     have := deeps_sub (l := e.args.take (i + 1)) (m := e.args) fun a ha => List.mem_of_mem_take ha
     omega
  ·exact Nat.le_refl _
theorem deep_first1 (e : Expr) (cols : List Col) (he : e.args ≠ []) : ∀ (l : List Expr) (i : Nat), deep (first1 e cols l i).1 ≤ deep e
 | [], i => deep_first2 e cols _ he _ 0 (Nat.le_refl _)
 | a :: r, i => by
  unfold first1
  split
  ·exact deep_withoutE e i
  ·exact deep_first1 e cols he r (i + 1)
theorem deep_pair (op : Int) (a b : Expr) : deep (opE op [a, b]) = max (deep a) (deep b) + 1 := by
 rw [deep_opE]; simp [deeps]
theorem deep_single (op : Int) (a : Expr) : deep (opE op [a]) = deep a + 1 := by
 rw [deep_opE]; simp [deeps]
theorem deep_strictL (e : Expr) (cols : List Col) (he : e.args ≠ []) : ∀ (l : List Expr), deep (strictL e cols l).1 ≤ deep e
 | [] => by
  have h1 := deep_eq e
  have h2 := deep_hdE' he
  have h3 := deep_lastE' he
  unfold strictL
  split
  ·unfold comparedE
   split
   ·show deep (opE _ _) ≤ _; rw [deep_pair]; omega
   split
   ·show deep (hdE e.args) ≤ _; omega
   split
   ·show deep (opE _ _) ≤ _; rw [deep_single]; omega
   split
   ·exact deep_pos e
   ·exact Nat.le_refl _
  ·unfold computedE
   simp only
   split
   ·show deep (hdE e.args) ≤ _; omega
   split
   ·show deep (lastE e.args) ≤ _; omega
   split
   ·exact deep_pos e
   ·exact Nat.le_refl _
 | a :: r => by
  unfold strictL
  split
  ·exact deep_pos e
  ·exact deep_strictL e cols he r
theorem deep_step (e : Expr) (cols : List Col) : deep (stepE e cols).1 ≤ deep e := by
 have h1 := deep_eq e
 unfold stepE
 split
 ·exact Nat.le_refl _
 rename_i h0
 have he : e.args ≠ [] := by intro h; rw [h] at h0; exact h0 rfl
 have h2 := deep_hdE' he
 have h3 := deep_lastE' he
 split
 ·have : ∀ (l : List Expr) (acc : List Val), deep (constL e cols acc l).1 ≤ deep e := by
   intro l
   induction l with
   | nil => intro acc; exact deep_pos e
   | cons a r ih =>
    intro acc
    unfold constL
    split
    ·exact ih _
    ·exact Nat.le_refl _
  exact this e.args []
 split
 ·exact deep_list1 e true e.args 0 fun a h => h
 split
 ·exact deep_list1 e false e.args 0 fun a h => h
 split
 ·have := deep_notE (hdE e.args); omega
 split
 ·exact deep_pos e
 split
 ·show deep (hdE e.args) ≤ _; omega
 split
 ·unfold sameStepE
  split
  ·exact deep_pos e
  split
  ·show deep (opE _ _) ≤ _; rw [deep_single]; omega
  split
  ·show deep (opE _ _) ≤ _; rw [deep_single]; omega
  ·show deep (opE _ _) ≤ _; rw [deep_pair]; omega
 split
 ·exact deep_case1 e _ he rfl _ 0 (Nat.le_refl _)
 split
 ·exact deep_first1 e cols he e.args 0
 ·exact deep_strictL e cols he e.args
theorem deep_simp {cols : List Col} {e y : Expr} (h : Simp cols e y) : deep y ≤ deep e := by
 have key : ∀ {e : Expr} {xs : List Expr}, e.args.length = xs.length → (∀ (i : Nat) (h1 : i < e.args.length) (h2 : i < xs.length), deep xs[i] ≤ deep e.args[i]) → deep (setA e xs) ≤ deep e := by
  intro e xs hl hx
  rw [deep_setA, deep_eq e]
  have : deeps xs ≤ deeps e.args := deeps_le fun a ha => by
   obtain ⟨i, hi, rfl⟩ := List.getElem_of_mem ha
   exact Nat.le_trans (hx i (by omega) hi) (deep_mem (List.getElem_mem _))
  omega
 induction h with
 | stay e xs hl h hs ih => exact key hl ih
 | go e xs y hl h hs hy ih ihy => exact Nat.le_trans ihy (Nat.le_trans (deep_step _ cols) (key hl ih))
end Go.Proofs.YtgiedlcjlalpcaaGreat
namespace Go.Proofs.YtgiedlcjlalpcaaGreat
open Go.Abs
mutual
theorem nodes_deep : ∀ {e : Expr}, deep e ≤ 10000 → 1 ≤ nodes e ∧ nodes e ≤ 401 * deep e ∧ nodes e ≤ e.size ∧ (nodes e ≤ 400 → nodes e = e.size)
 | .mk op n m kind lit args rels, h => by
  rw [nodes_eq]
  simp only [Expr.size, Expr.args, deep] at h ⊢
  obtain ⟨h1, h2, h3, h4⟩ := @nodesL_deep args 1 (by omega) (by omega) (by omega)
  refine ⟨h1, ?_, by omega, fun h => ?_⟩
  ·omega
  ·rw [h4 h]; omega
theorem nodesL_deep : ∀ {l : List Expr} {n : Int}, 1 ≤ n → n ≤ 4010400 → deeps l ≤ 10000 → n ≤ nodesL n l ∧ (nodesL n l ≤ n ∨ nodesL n l ≤ 400 + 401 * deeps l) ∧ nodesL n l ≤ n + Expr.sizes l ∧ (nodesL n l ≤ 400 → nodesL n l = n + Expr.sizes l)
 | [], n, h1, h2, h3 => by simp [nodesL, Expr.sizes]
 | e :: r, n, h1, h2, h3 => by
  simp only [nodesL, Expr.sizes, deeps] at h3 ⊢
  obtain ⟨g1, g2, g3, g4⟩ := @nodes_deep e (by omega)
  by_cases hn : n ≤ 400
  ·rw [if_pos hn]
   have hw : w64 (n + nodes e) = n + nodes e := wrap_i64 (by omega) (by omega)
   rw [hw]
   obtain ⟨k1, k2, k3, k4⟩ := @nodesL_deep r (n + nodes e) (by omega) (by omega) (by omega)
   refine ⟨by omega, .inr (by omega), by omega, fun h => ?_⟩
   rw [k4 h, g4 (by omega)]; omega
  ·rw [if_neg hn]
   refine ⟨by omega, .inl (Int.le_refl _), by omega, fun h => by omega⟩
end
mutual
theorem wf_allN : ∀ {e : Expr}, wf e = true → allN e = true
 | .mk op n m k v args rels, h => by
  have h1 : nodeR (.mk op n m k v args rels) = true := wf_node h
  rw [allN_eq, Bool.and_eq_true]
  refine ⟨?_, wf_allNs fun a ha => wf_arg h a ha⟩
  rw [← nodeW_eq] at h1
  simpa [stepN] using h1
theorem wf_allNs : ∀ {l : List Expr}, (∀ a ∈ l, wf a = true) → allNs l = true
 | [], h => rfl
 | a :: r, h => by
  rw [allNs_cons, wf_allN (h a (by simp)), wf_allNs fun b hb => h b (by simp [hb])]
  rfl
end
theorem fit_nodes {e : Expr} (hw : wf e = true) (hd : deep e ≤ 24) : (fitE 400 1 e).1 = decide (nodes e ≤ 400) := by
 have h1 := (fitE_ok (at_ := 1) (e := e) (l := 400) (by omega) (wf_allN hw)).1
 obtain ⟨g1, g2, g3, g4⟩ := nodes_deep (e := e) (by omega)
 rw [Bool.eq_iff_iff, h1, decide_eq_true_eq]
 constructor
 ·rintro ⟨a, b⟩; omega
 ·intro h
  have := g4 h
  exact ⟨by omega, by omega⟩
theorem form_deep {e : Expr} (h : form e = true) : deep e ≤ 24 := by
 simp only [form, Bool.and_eq_true] at h
 exact (@shaped_ok e 24 (by omega)).1 h.1 |>.2
end Go.Proofs.YtgiedlcjlalpcaaGreat
