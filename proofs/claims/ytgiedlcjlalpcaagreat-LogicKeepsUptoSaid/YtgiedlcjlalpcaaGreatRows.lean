/-
  NARROWER THAN 'FOR EVERY INPUT', by the rows' own cells (each row's printed sentence says how): LogicSimplifies: loops · LogicConditions: loops · LogicRejects: loops · LogicImplies: loops · LogicKeeps: loops · LogicAgain: loops · LogicNulls: loops · LogicFollows: loops · LogicOwn: loops · LogicPins: loops · LogicFixed: loops.
  DERIVED. THE GIVEN ROWS OF THIS SEAT. 11 by the template 'for every input the law returns true; each argument reads behind the call as it read before'; 0 by the template 'total and deterministic' (their statements: YtgiedlcjlalpcaaGreatTotals.lean).
  GIVEN WITH THE SEED: the statements are not yours to turn. If you find one false, say at which input.
  Laid BY PROGRAM, IN A SANDBOX (cutbox-rows.mjs): the forced cells as the released guide's own fill.sh prints them over the translation d1a5d691c49affa5… (all of the seat's roots in one cut). By AI agents, Wed Nov 11 2026. No macro, syntax, notation, axiom, sorry.
-/
import Derived.Test.YtgiedlcjlalpcaaGreatChecked
import GoSem.Claim
import GoSem.ClaimJoined
import GoSem.ClaimMapViews
import Derived.JoinedTies
import Derived.KernelRfl
namespace Go.Proofs.YtgiedlcjlalpcaaGreat
/- THE CELL 'sum', in the pinned program and in every row, IS THE sha256 OF THE DUMP (.gsa) THAT YtgiedlcjlalpcaaGreatProg.lean LOADS. Nothing in Lean hashes anything: it is a label: what it is worth is what the hold of that sum in a sandbox is worth. -/
noncomputable def Tryz.pinned : Pinned := { name := "ytgiedlcjlalpcaagreat", sum := "d1a5d691c49affa55d0a7b9e8e3fcf38ef74e9ce002c259b8afce291aea402be", checked := Tryz.checked }
namespace Rows
def none {H : Type} : Left H := { results := [], args := [] }

/-- 'tacticianlaw04.LogicSimplifies': WHATEVER THE INPUT: true; the input reads as it did. -/
def logicSimplifiesSpec : ChangeSpec := { name := "logicSimplifies", fn := fun _ => fun
  | [d1, d2, d3] => { results := [.lit (.bool true)], args := [d1, d2, d3] }
  | _ => none }
def logicSimplifiesRow : OpenClaim := { program := "ytgiedlcjlalpcaagreat", sum := "d1a5d691c49affa55d0a7b9e8e3fcf38ef74e9ce002c259b8afce291aea402be", func := "tactician/tacticianlaw04.LogicSimplifies", spec := "logicSimplifies", unfollowed := true, recurses := true, loops := true, apart := false }
def LogicSimplifiesSaid : Prop := logicSimplifiesRow.holds Tryz.pinned (OpenSpec.ofChange logicSimplifiesSpec)

/-- ITS FALSE NEIGHBOUR: 'it returns false'. Refute it at one input. -/
def logicSimplifiesWrong : ChangeSpec := { name := "logicSimplifies", fn := fun _ => fun
  | [d1, d2, d3] => { results := [.lit (.bool false)], args := [d1, d2, d3] }
  | _ => none }
def LogicSimplifiesWrongFalsely : Prop := logicSimplifiesRow.holds Tryz.pinned (OpenSpec.ofChange logicSimplifiesWrong)

/-- 'tacticianlaw04.LogicConditions': WHATEVER THE INPUT: true; the input reads as it did. -/
def logicConditionsSpec : ChangeSpec := { name := "logicConditions", fn := fun _ => fun
  | [d1, d2, d3] => { results := [.lit (.bool true)], args := [d1, d2, d3] }
  | _ => none }
def logicConditionsRow : OpenClaim := { program := "ytgiedlcjlalpcaagreat", sum := "d1a5d691c49affa55d0a7b9e8e3fcf38ef74e9ce002c259b8afce291aea402be", func := "tactician/tacticianlaw04.LogicConditions", spec := "logicConditions", unfollowed := true, recurses := true, loops := true, apart := false }
def LogicConditionsSaid : Prop := logicConditionsRow.holds Tryz.pinned (OpenSpec.ofChange logicConditionsSpec)

/-- ITS FALSE NEIGHBOUR: 'it returns false'. Refute it at one input. -/
def logicConditionsWrong : ChangeSpec := { name := "logicConditions", fn := fun _ => fun
  | [d1, d2, d3] => { results := [.lit (.bool false)], args := [d1, d2, d3] }
  | _ => none }
def LogicConditionsWrongFalsely : Prop := logicConditionsRow.holds Tryz.pinned (OpenSpec.ofChange logicConditionsWrong)

/-- 'tacticianlaw04.LogicRejects': WHATEVER THE INPUT: true; the input reads as it did. -/
def logicRejectsSpec : ChangeSpec := { name := "logicRejects", fn := fun _ => fun
  | [d1, d2, d3, d4] => { results := [.lit (.bool true)], args := [d1, d2, d3, d4] }
  | _ => none }
def logicRejectsRow : OpenClaim := { program := "ytgiedlcjlalpcaagreat", sum := "d1a5d691c49affa55d0a7b9e8e3fcf38ef74e9ce002c259b8afce291aea402be", func := "tactician/tacticianlaw04.LogicRejects", spec := "logicRejects", unfollowed := true, recurses := true, loops := true, apart := false }
def LogicRejectsSaid : Prop := logicRejectsRow.holds Tryz.pinned (OpenSpec.ofChange logicRejectsSpec)

/-- ITS FALSE NEIGHBOUR: 'it returns false'. Refute it at one input. -/
def logicRejectsWrong : ChangeSpec := { name := "logicRejects", fn := fun _ => fun
  | [d1, d2, d3, d4] => { results := [.lit (.bool false)], args := [d1, d2, d3, d4] }
  | _ => none }
def LogicRejectsWrongFalsely : Prop := logicRejectsRow.holds Tryz.pinned (OpenSpec.ofChange logicRejectsWrong)

/-- 'tacticianlaw04.LogicImplies': WHATEVER THE INPUT: true; the input reads as it did. -/
def logicImpliesSpec : ChangeSpec := { name := "logicImplies", fn := fun _ => fun
  | [d1, d2, d3, d4] => { results := [.lit (.bool true)], args := [d1, d2, d3, d4] }
  | _ => none }
def logicImpliesRow : OpenClaim := { program := "ytgiedlcjlalpcaagreat", sum := "d1a5d691c49affa55d0a7b9e8e3fcf38ef74e9ce002c259b8afce291aea402be", func := "tactician/tacticianlaw04.LogicImplies", spec := "logicImplies", unfollowed := true, recurses := true, loops := true, apart := false }
def LogicImpliesSaid : Prop := logicImpliesRow.holds Tryz.pinned (OpenSpec.ofChange logicImpliesSpec)

/-- ITS FALSE NEIGHBOUR: 'it returns false'. Refute it at one input. -/
def logicImpliesWrong : ChangeSpec := { name := "logicImplies", fn := fun _ => fun
  | [d1, d2, d3, d4] => { results := [.lit (.bool false)], args := [d1, d2, d3, d4] }
  | _ => none }
def LogicImpliesWrongFalsely : Prop := logicImpliesRow.holds Tryz.pinned (OpenSpec.ofChange logicImpliesWrong)

/-- 'tacticianlaw04.LogicKeeps': WHATEVER THE INPUT: true; the input reads as it did. -/
def logicKeepsSpec : ChangeSpec := { name := "logicKeeps", fn := fun _ => fun
  | [d1, d2, d3] => { results := [.lit (.bool true)], args := [d1, d2, d3] }
  | _ => none }
def logicKeepsRow : OpenClaim := { program := "ytgiedlcjlalpcaagreat", sum := "d1a5d691c49affa55d0a7b9e8e3fcf38ef74e9ce002c259b8afce291aea402be", func := "tactician/tacticianlaw04.LogicKeeps", spec := "logicKeeps", unfollowed := true, recurses := true, loops := true, apart := false }
def LogicKeepsSaid : Prop := logicKeepsRow.holds Tryz.pinned (OpenSpec.ofChange logicKeepsSpec)

/-- ITS FALSE NEIGHBOUR: 'it returns false'. Refute it at one input. -/
def logicKeepsWrong : ChangeSpec := { name := "logicKeeps", fn := fun _ => fun
  | [d1, d2, d3] => { results := [.lit (.bool false)], args := [d1, d2, d3] }
  | _ => none }
def LogicKeepsWrongFalsely : Prop := logicKeepsRow.holds Tryz.pinned (OpenSpec.ofChange logicKeepsWrong)

/-- 'tacticianlaw04.LogicAgain': WHATEVER THE INPUT: true; the input reads as it did. -/
def logicAgainSpec : ChangeSpec := { name := "logicAgain", fn := fun _ => fun
  | [d1, d2] => { results := [.lit (.bool true)], args := [d1, d2] }
  | _ => none }
def logicAgainRow : OpenClaim := { program := "ytgiedlcjlalpcaagreat", sum := "d1a5d691c49affa55d0a7b9e8e3fcf38ef74e9ce002c259b8afce291aea402be", func := "tactician/tacticianlaw04.LogicAgain", spec := "logicAgain", unfollowed := true, recurses := true, loops := true, apart := false }
def LogicAgainSaid : Prop := logicAgainRow.holds Tryz.pinned (OpenSpec.ofChange logicAgainSpec)

/-- ITS FALSE NEIGHBOUR: 'it returns false'. Refute it at one input. -/
def logicAgainWrong : ChangeSpec := { name := "logicAgain", fn := fun _ => fun
  | [d1, d2] => { results := [.lit (.bool false)], args := [d1, d2] }
  | _ => none }
def LogicAgainWrongFalsely : Prop := logicAgainRow.holds Tryz.pinned (OpenSpec.ofChange logicAgainWrong)

/-- 'tacticianlaw04.LogicNulls': WHATEVER THE INPUT: true; the input reads as it did. -/
def logicNullsSpec : ChangeSpec := { name := "logicNulls", fn := fun _ => fun
  | [d1, d2, d3, d4] => { results := [.lit (.bool true)], args := [d1, d2, d3, d4] }
  | _ => none }
def logicNullsRow : OpenClaim := { program := "ytgiedlcjlalpcaagreat", sum := "d1a5d691c49affa55d0a7b9e8e3fcf38ef74e9ce002c259b8afce291aea402be", func := "tactician/tacticianlaw04.LogicNulls", spec := "logicNulls", unfollowed := true, recurses := true, loops := true, apart := false }
def LogicNullsSaid : Prop := logicNullsRow.holds Tryz.pinned (OpenSpec.ofChange logicNullsSpec)

/-- ITS FALSE NEIGHBOUR: 'it returns false'. Refute it at one input. -/
def logicNullsWrong : ChangeSpec := { name := "logicNulls", fn := fun _ => fun
  | [d1, d2, d3, d4] => { results := [.lit (.bool false)], args := [d1, d2, d3, d4] }
  | _ => none }
def LogicNullsWrongFalsely : Prop := logicNullsRow.holds Tryz.pinned (OpenSpec.ofChange logicNullsWrong)

/-- 'tacticianlaw04.LogicFollows': WHATEVER THE INPUT: true; the input reads as it did. -/
def logicFollowsSpec : ChangeSpec := { name := "logicFollows", fn := fun _ => fun
  | [d1, d2, d3, d4] => { results := [.lit (.bool true)], args := [d1, d2, d3, d4] }
  | _ => none }
def logicFollowsRow : OpenClaim := { program := "ytgiedlcjlalpcaagreat", sum := "d1a5d691c49affa55d0a7b9e8e3fcf38ef74e9ce002c259b8afce291aea402be", func := "tactician/tacticianlaw04.LogicFollows", spec := "logicFollows", unfollowed := true, recurses := true, loops := true, apart := false }
def LogicFollowsSaid : Prop := logicFollowsRow.holds Tryz.pinned (OpenSpec.ofChange logicFollowsSpec)

/-- ITS FALSE NEIGHBOUR: 'it returns false'. Refute it at one input. -/
def logicFollowsWrong : ChangeSpec := { name := "logicFollows", fn := fun _ => fun
  | [d1, d2, d3, d4] => { results := [.lit (.bool false)], args := [d1, d2, d3, d4] }
  | _ => none }
def LogicFollowsWrongFalsely : Prop := logicFollowsRow.holds Tryz.pinned (OpenSpec.ofChange logicFollowsWrong)

/-- 'tacticianlaw04.LogicOwn': WHATEVER THE INPUT: true; the input reads as it did. -/
def logicOwnSpec : ChangeSpec := { name := "logicOwn", fn := fun _ => fun
  | [d1, d2] => { results := [.lit (.bool true)], args := [d1, d2] }
  | _ => none }
def logicOwnRow : OpenClaim := { program := "ytgiedlcjlalpcaagreat", sum := "d1a5d691c49affa55d0a7b9e8e3fcf38ef74e9ce002c259b8afce291aea402be", func := "tactician/tacticianlaw04.LogicOwn", spec := "logicOwn", unfollowed := true, recurses := true, loops := true, apart := false }
def LogicOwnSaid : Prop := logicOwnRow.holds Tryz.pinned (OpenSpec.ofChange logicOwnSpec)

/-- ITS FALSE NEIGHBOUR: 'it returns false'. Refute it at one input. -/
def logicOwnWrong : ChangeSpec := { name := "logicOwn", fn := fun _ => fun
  | [d1, d2] => { results := [.lit (.bool false)], args := [d1, d2] }
  | _ => none }
def LogicOwnWrongFalsely : Prop := logicOwnRow.holds Tryz.pinned (OpenSpec.ofChange logicOwnWrong)

/-- 'tacticianlaw04.LogicPins': WHATEVER THE INPUT: true; the input reads as it did. -/
def logicPinsSpec : ChangeSpec := { name := "logicPins", fn := fun _ => fun
  | [d1, d2, d3] => { results := [.lit (.bool true)], args := [d1, d2, d3] }
  | _ => none }
def logicPinsRow : OpenClaim := { program := "ytgiedlcjlalpcaagreat", sum := "d1a5d691c49affa55d0a7b9e8e3fcf38ef74e9ce002c259b8afce291aea402be", func := "tactician/tacticianlaw04.LogicPins", spec := "logicPins", unfollowed := true, recurses := true, loops := true, apart := false }
def LogicPinsSaid : Prop := logicPinsRow.holds Tryz.pinned (OpenSpec.ofChange logicPinsSpec)

/-- ITS FALSE NEIGHBOUR: 'it returns false'. Refute it at one input. -/
def logicPinsWrong : ChangeSpec := { name := "logicPins", fn := fun _ => fun
  | [d1, d2, d3] => { results := [.lit (.bool false)], args := [d1, d2, d3] }
  | _ => none }
def LogicPinsWrongFalsely : Prop := logicPinsRow.holds Tryz.pinned (OpenSpec.ofChange logicPinsWrong)

/-- 'tacticianlaw04.LogicFixed': WHATEVER THE INPUT: true; the input reads as it did. -/
def logicFixedSpec : ChangeSpec := { name := "logicFixed", fn := fun _ => fun
  | [d1, d2, d3] => { results := [.lit (.bool true)], args := [d1, d2, d3] }
  | _ => none }
def logicFixedRow : OpenClaim := { program := "ytgiedlcjlalpcaagreat", sum := "d1a5d691c49affa55d0a7b9e8e3fcf38ef74e9ce002c259b8afce291aea402be", func := "tactician/tacticianlaw04.LogicFixed", spec := "logicFixed", unfollowed := true, recurses := true, loops := true, apart := false }
def LogicFixedSaid : Prop := logicFixedRow.holds Tryz.pinned (OpenSpec.ofChange logicFixedSpec)

/-- ITS FALSE NEIGHBOUR: 'it returns false'. Refute it at one input. -/
def logicFixedWrong : ChangeSpec := { name := "logicFixed", fn := fun _ => fun
  | [d1, d2, d3] => { results := [.lit (.bool false)], args := [d1, d2, d3] }
  | _ => none }
def LogicFixedWrongFalsely : Prop := logicFixedRow.holds Tryz.pinned (OpenSpec.ofChange logicFixedWrong)

/- THE SECOND FORM. 'bulk': how many values and letters a reading holds, each counted each time it is reached (what is shared counts as often as it is met; a slice's spare places count too). A statement '..UptoSaid' is the law's where the arguments, and the package variables that the reading takes, are together of bulk at most 1048576: NARROWER than '..Said'. Prove '..Said' where nothing that the law and all that it calls make is longer than what came in: it says more and counts as full. Else prove '..UptoSaid'. A law counts once. -/
mutual
def uptoBulk {H : Type} : DataW H → Nat
  | .lit (.string bytes) => bytes.length + 1
  | .lit _ => 1
  | .nil => 1
  | .ptr d => uptoBulk d + 1
  | .slice elems spare => uptoBulkAll elems + uptoBulkAll spare + 1
  | .agg parts => uptoBulkAll parts + 1
  | .iface _ d => uptoBulk d + 1
  | .map entries => uptoBulkEntries entries + 1
  | .held _ => 1
def uptoBulkAll {H : Type} : List (DataW H) → Nat
  | [] => 0
  | d :: r => uptoBulk d + uptoBulkAll r
def uptoBulkEntries {H : Type} : List (Lit × DataW H) → Nat
  | [] => 0
  | x :: r => uptoBulkEntry x + uptoBulkEntries r
def uptoBulkEntry {H : Type} : Lit × DataW H → Nat
  | (.string bytes, d) => bytes.length + uptoBulk d + 1
  | (_, d) => uptoBulk d + 1
 end
def uptoSmall : (H : Type) → List (DataW H) → Bool := fun _ ds => decide (uptoBulkAll ds ≤ 1048576)
def OpenSpec.upto (s : _root_.Go.ChangeSpec) : _root_.Go.OpenSpec := { _root_.Go.OpenSpec.ofChange s with cond := some uptoSmall }

/-- 'tacticianlaw04.LogicSimplifies', WHERE WHAT IT READS IS OF BULK AT MOST 1048576: true; the input reads as it did. -/
def logicSimplifiesUptoRow : OpenClaim := { program := "ytgiedlcjlalpcaagreat", sum := "d1a5d691c49affa55d0a7b9e8e3fcf38ef74e9ce002c259b8afce291aea402be", func := "tactician/tacticianlaw04.LogicSimplifies", spec := "logicSimplifies", unfollowed := true, recurses := true, loops := true, apart := false, narrowed := true }
def LogicSimplifiesUptoSaid : Prop := logicSimplifiesUptoRow.holds Tryz.pinned (OpenSpec.upto logicSimplifiesSpec)

/-- 'tacticianlaw04.LogicConditions', WHERE WHAT IT READS IS OF BULK AT MOST 1048576: true; the input reads as it did. -/
def logicConditionsUptoRow : OpenClaim := { program := "ytgiedlcjlalpcaagreat", sum := "d1a5d691c49affa55d0a7b9e8e3fcf38ef74e9ce002c259b8afce291aea402be", func := "tactician/tacticianlaw04.LogicConditions", spec := "logicConditions", unfollowed := true, recurses := true, loops := true, apart := false, narrowed := true }
def LogicConditionsUptoSaid : Prop := logicConditionsUptoRow.holds Tryz.pinned (OpenSpec.upto logicConditionsSpec)

/-- 'tacticianlaw04.LogicRejects', WHERE WHAT IT READS IS OF BULK AT MOST 1048576: true; the input reads as it did. -/
def logicRejectsUptoRow : OpenClaim := { program := "ytgiedlcjlalpcaagreat", sum := "d1a5d691c49affa55d0a7b9e8e3fcf38ef74e9ce002c259b8afce291aea402be", func := "tactician/tacticianlaw04.LogicRejects", spec := "logicRejects", unfollowed := true, recurses := true, loops := true, apart := false, narrowed := true }
def LogicRejectsUptoSaid : Prop := logicRejectsUptoRow.holds Tryz.pinned (OpenSpec.upto logicRejectsSpec)

/-- 'tacticianlaw04.LogicImplies', WHERE WHAT IT READS IS OF BULK AT MOST 1048576: true; the input reads as it did. -/
def logicImpliesUptoRow : OpenClaim := { program := "ytgiedlcjlalpcaagreat", sum := "d1a5d691c49affa55d0a7b9e8e3fcf38ef74e9ce002c259b8afce291aea402be", func := "tactician/tacticianlaw04.LogicImplies", spec := "logicImplies", unfollowed := true, recurses := true, loops := true, apart := false, narrowed := true }
def LogicImpliesUptoSaid : Prop := logicImpliesUptoRow.holds Tryz.pinned (OpenSpec.upto logicImpliesSpec)

/-- 'tacticianlaw04.LogicKeeps', WHERE WHAT IT READS IS OF BULK AT MOST 1048576: true; the input reads as it did. -/
def logicKeepsUptoRow : OpenClaim := { program := "ytgiedlcjlalpcaagreat", sum := "d1a5d691c49affa55d0a7b9e8e3fcf38ef74e9ce002c259b8afce291aea402be", func := "tactician/tacticianlaw04.LogicKeeps", spec := "logicKeeps", unfollowed := true, recurses := true, loops := true, apart := false, narrowed := true }
def LogicKeepsUptoSaid : Prop := logicKeepsUptoRow.holds Tryz.pinned (OpenSpec.upto logicKeepsSpec)

/-- 'tacticianlaw04.LogicAgain', WHERE WHAT IT READS IS OF BULK AT MOST 1048576: true; the input reads as it did. -/
def logicAgainUptoRow : OpenClaim := { program := "ytgiedlcjlalpcaagreat", sum := "d1a5d691c49affa55d0a7b9e8e3fcf38ef74e9ce002c259b8afce291aea402be", func := "tactician/tacticianlaw04.LogicAgain", spec := "logicAgain", unfollowed := true, recurses := true, loops := true, apart := false, narrowed := true }
def LogicAgainUptoSaid : Prop := logicAgainUptoRow.holds Tryz.pinned (OpenSpec.upto logicAgainSpec)

/-- 'tacticianlaw04.LogicNulls', WHERE WHAT IT READS IS OF BULK AT MOST 1048576: true; the input reads as it did. -/
def logicNullsUptoRow : OpenClaim := { program := "ytgiedlcjlalpcaagreat", sum := "d1a5d691c49affa55d0a7b9e8e3fcf38ef74e9ce002c259b8afce291aea402be", func := "tactician/tacticianlaw04.LogicNulls", spec := "logicNulls", unfollowed := true, recurses := true, loops := true, apart := false, narrowed := true }
def LogicNullsUptoSaid : Prop := logicNullsUptoRow.holds Tryz.pinned (OpenSpec.upto logicNullsSpec)

/-- 'tacticianlaw04.LogicFollows', WHERE WHAT IT READS IS OF BULK AT MOST 1048576: true; the input reads as it did. -/
def logicFollowsUptoRow : OpenClaim := { program := "ytgiedlcjlalpcaagreat", sum := "d1a5d691c49affa55d0a7b9e8e3fcf38ef74e9ce002c259b8afce291aea402be", func := "tactician/tacticianlaw04.LogicFollows", spec := "logicFollows", unfollowed := true, recurses := true, loops := true, apart := false, narrowed := true }
def LogicFollowsUptoSaid : Prop := logicFollowsUptoRow.holds Tryz.pinned (OpenSpec.upto logicFollowsSpec)

/-- 'tacticianlaw04.LogicOwn', WHERE WHAT IT READS IS OF BULK AT MOST 1048576: true; the input reads as it did. -/
def logicOwnUptoRow : OpenClaim := { program := "ytgiedlcjlalpcaagreat", sum := "d1a5d691c49affa55d0a7b9e8e3fcf38ef74e9ce002c259b8afce291aea402be", func := "tactician/tacticianlaw04.LogicOwn", spec := "logicOwn", unfollowed := true, recurses := true, loops := true, apart := false, narrowed := true }
def LogicOwnUptoSaid : Prop := logicOwnUptoRow.holds Tryz.pinned (OpenSpec.upto logicOwnSpec)

/-- 'tacticianlaw04.LogicPins', WHERE WHAT IT READS IS OF BULK AT MOST 1048576: true; the input reads as it did. -/
def logicPinsUptoRow : OpenClaim := { program := "ytgiedlcjlalpcaagreat", sum := "d1a5d691c49affa55d0a7b9e8e3fcf38ef74e9ce002c259b8afce291aea402be", func := "tactician/tacticianlaw04.LogicPins", spec := "logicPins", unfollowed := true, recurses := true, loops := true, apart := false, narrowed := true }
def LogicPinsUptoSaid : Prop := logicPinsUptoRow.holds Tryz.pinned (OpenSpec.upto logicPinsSpec)

/-- 'tacticianlaw04.LogicFixed', WHERE WHAT IT READS IS OF BULK AT MOST 1048576: true; the input reads as it did. -/
def logicFixedUptoRow : OpenClaim := { program := "ytgiedlcjlalpcaagreat", sum := "d1a5d691c49affa55d0a7b9e8e3fcf38ef74e9ce002c259b8afce291aea402be", func := "tactician/tacticianlaw04.LogicFixed", spec := "logicFixed", unfollowed := true, recurses := true, loops := true, apart := false, narrowed := true }
def LogicFixedUptoSaid : Prop := logicFixedUptoRow.holds Tryz.pinned (OpenSpec.upto logicFixedSpec)

end Rows
end Go.Proofs.YtgiedlcjlalpcaaGreat
