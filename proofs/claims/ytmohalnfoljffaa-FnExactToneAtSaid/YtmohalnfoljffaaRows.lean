/-
  No cell of these rows narrows 'for every input' (looked for: loops, veiled, ifaces, maps, wideKeys, modest, calm, conditions, laid).
  DERIVED. THE GIVEN ROWS OF THIS SEAT. 16 by the template 'for every input the law returns true; each argument reads behind the call as it read before'; 0 by the template 'total and deterministic' (their statements: YtmohalnfoljffaaTotals.lean).
  GIVEN WITH THE SEED: the statements are not yours to turn. If you find one false, say at which input.
  Laid BY PROGRAM, IN A SANDBOX (cutbox-rows.mjs): the forced cells as the released guide's own fill.sh prints them over the translation ea42b62cfb446146… (all of the seat's roots in one cut). By AI agents, Wed Nov 11 2026. No macro, syntax, notation, axiom, sorry.
-/
import Derived.Test.YtmohalnfoljffaaChecked
import GoSem.Claim
import GoSem.ClaimJoined
import GoSem.ClaimMapViews
import Derived.JoinedTies
import Derived.KernelRfl
namespace Go.Proofs.Ytmohalnfoljffaa
/- THE CELL 'sum', in the pinned program and in every row, IS THE sha256 OF THE DUMP (.gsa) THAT YtmohalnfoljffaaProg.lean LOADS. Nothing in Lean hashes anything: it is a label: what it is worth is what the hold of that sum in a sandbox is worth. -/
noncomputable def Try.pinned : Pinned := { name := "ytmohalnfoljffaa", sum := "ea42b62cfb446146b3d44942eead1e3f60de18746ccb4b4791af77494df8e95d", checked := Try.checked }
namespace Rows
def none {H : Type} : Left H := { results := [], args := [] }

/-- 'laws.FnExactHatOf': WHATEVER THE INPUT: true; the input reads as it did. -/
def fnExactHatOfSpec : ChangeSpec := { name := "fnExactHatOf", fn := fun _ => fun
  | [d] => { results := [.lit (.bool true)], args := [d] }
  | _ => none }
def fnExactHatOfRow : OpenClaim := { program := "ytmohalnfoljffaa", sum := "ea42b62cfb446146b3d44942eead1e3f60de18746ccb4b4791af77494df8e95d", func := "loop.example/g01308/laws.FnExactHatOf", spec := "fnExactHatOf", apart := false }
def FnExactHatOfSaid : Prop := fnExactHatOfRow.holds Try.pinned (OpenSpec.ofChange fnExactHatOfSpec)

/-- ITS FALSE NEIGHBOUR: 'it returns false'. Refute it at one input. -/
def fnExactHatOfWrong : ChangeSpec := { name := "fnExactHatOf", fn := fun _ => fun
  | [d] => { results := [.lit (.bool false)], args := [d] }
  | _ => none }
def FnExactHatOfWrongFalsely : Prop := fnExactHatOfRow.holds Try.pinned (OpenSpec.ofChange fnExactHatOfWrong)

/-- 'laws.FnExactFilmLight': WHATEVER THE INPUT: true; the input reads as it did. -/
def fnExactFilmLightSpec : ChangeSpec := { name := "fnExactFilmLight", fn := fun _ => fun
  | [d] => { results := [.lit (.bool true)], args := [d] }
  | _ => none }
def fnExactFilmLightRow : OpenClaim := { program := "ytmohalnfoljffaa", sum := "ea42b62cfb446146b3d44942eead1e3f60de18746ccb4b4791af77494df8e95d", func := "loop.example/g01308/laws.FnExactFilmLight", spec := "fnExactFilmLight", unfollowed := true, recurses := true, apart := false }
def FnExactFilmLightSaid : Prop := fnExactFilmLightRow.holds Try.pinned (OpenSpec.ofChange fnExactFilmLightSpec)

/-- ITS FALSE NEIGHBOUR: 'it returns false'. Refute it at one input. -/
def fnExactFilmLightWrong : ChangeSpec := { name := "fnExactFilmLight", fn := fun _ => fun
  | [d] => { results := [.lit (.bool false)], args := [d] }
  | _ => none }
def FnExactFilmLightWrongFalsely : Prop := fnExactFilmLightRow.holds Try.pinned (OpenSpec.ofChange fnExactFilmLightWrong)

/-- 'laws.FnExactPressedLight': WHATEVER THE INPUT: true; the input reads as it did. -/
def fnExactPressedLightSpec : ChangeSpec := { name := "fnExactPressedLight", fn := fun _ => fun
  | [d1, d2] => { results := [.lit (.bool true)], args := [d1, d2] }
  | _ => none }
def fnExactPressedLightRow : OpenClaim := { program := "ytmohalnfoljffaa", sum := "ea42b62cfb446146b3d44942eead1e3f60de18746ccb4b4791af77494df8e95d", func := "loop.example/g01308/laws.FnExactPressedLight", spec := "fnExactPressedLight", unfollowed := true, recurses := true, apart := false }
def FnExactPressedLightSaid : Prop := fnExactPressedLightRow.holds Try.pinned (OpenSpec.ofChange fnExactPressedLightSpec)

/-- ITS FALSE NEIGHBOUR: 'it returns false'. Refute it at one input. -/
def fnExactPressedLightWrong : ChangeSpec := { name := "fnExactPressedLight", fn := fun _ => fun
  | [d1, d2] => { results := [.lit (.bool false)], args := [d1, d2] }
  | _ => none }
def FnExactPressedLightWrongFalsely : Prop := fnExactPressedLightRow.holds Try.pinned (OpenSpec.ofChange fnExactPressedLightWrong)

/-- 'laws.FnExactIsBend': WHATEVER THE INPUT: true; the input reads as it did. -/
def fnExactIsBendSpec : ChangeSpec := { name := "fnExactIsBend", fn := fun _ => fun
  | [d] => { results := [.lit (.bool true)], args := [d] }
  | _ => none }
def fnExactIsBendRow : OpenClaim := { program := "ytmohalnfoljffaa", sum := "ea42b62cfb446146b3d44942eead1e3f60de18746ccb4b4791af77494df8e95d", func := "loop.example/g01308/laws.FnExactIsBend", spec := "fnExactIsBend", apart := false }
def FnExactIsBendSaid : Prop := fnExactIsBendRow.holds Try.pinned (OpenSpec.ofChange fnExactIsBendSpec)

/-- ITS FALSE NEIGHBOUR: 'it returns false'. Refute it at one input. -/
def fnExactIsBendWrong : ChangeSpec := { name := "fnExactIsBend", fn := fun _ => fun
  | [d] => { results := [.lit (.bool false)], args := [d] }
  | _ => none }
def FnExactIsBendWrongFalsely : Prop := fnExactIsBendRow.holds Try.pinned (OpenSpec.ofChange fnExactIsBendWrong)

/-- 'laws.FnExactBendBack': WHATEVER THE INPUT: true; the input reads as it did. -/
def fnExactBendBackSpec : ChangeSpec := { name := "fnExactBendBack", fn := fun _ => fun
  | [d1, d2] => { results := [.lit (.bool true)], args := [d1, d2] }
  | _ => none }
def fnExactBendBackRow : OpenClaim := { program := "ytmohalnfoljffaa", sum := "ea42b62cfb446146b3d44942eead1e3f60de18746ccb4b4791af77494df8e95d", func := "loop.example/g01308/laws.FnExactBendBack", spec := "fnExactBendBack", apart := false }
def FnExactBendBackSaid : Prop := fnExactBendBackRow.holds Try.pinned (OpenSpec.ofChange fnExactBendBackSpec)

/-- ITS FALSE NEIGHBOUR: 'it returns false'. Refute it at one input. -/
def fnExactBendBackWrong : ChangeSpec := { name := "fnExactBendBack", fn := fun _ => fun
  | [d1, d2] => { results := [.lit (.bool false)], args := [d1, d2] }
  | _ => none }
def FnExactBendBackWrongFalsely : Prop := fnExactBendBackRow.holds Try.pinned (OpenSpec.ofChange fnExactBendBackWrong)

/-- 'laws.FnExactSameCurve': WHATEVER THE INPUT: true; the input reads as it did. -/
def fnExactSameCurveSpec : ChangeSpec := { name := "fnExactSameCurve", fn := fun _ => fun
  | [d1, d2] => { results := [.lit (.bool true)], args := [d1, d2] }
  | _ => none }
def fnExactSameCurveRow : OpenClaim := { program := "ytmohalnfoljffaa", sum := "ea42b62cfb446146b3d44942eead1e3f60de18746ccb4b4791af77494df8e95d", func := "loop.example/g01308/laws.FnExactSameCurve", spec := "fnExactSameCurve", inPlace := ["math.Float32bits", "math.Float64bits"], unfollowed := true, recurses := true, apart := false }
def FnExactSameCurveSaid : Prop := fnExactSameCurveRow.holds Try.pinned (OpenSpec.ofChange fnExactSameCurveSpec)

/-- ITS FALSE NEIGHBOUR: 'it returns false'. Refute it at one input. -/
def fnExactSameCurveWrong : ChangeSpec := { name := "fnExactSameCurve", fn := fun _ => fun
  | [d1, d2] => { results := [.lit (.bool false)], args := [d1, d2] }
  | _ => none }
def FnExactSameCurveWrongFalsely : Prop := fnExactSameCurveRow.holds Try.pinned (OpenSpec.ofChange fnExactSameCurveWrong)

/-- 'laws.FnExactValidCurve': WHATEVER THE INPUT: true; the input reads as it did. -/
def fnExactValidCurveSpec : ChangeSpec := { name := "fnExactValidCurve", fn := fun _ => fun
  | [d] => { results := [.lit (.bool true)], args := [d] }
  | _ => none }
def fnExactValidCurveRow : OpenClaim := { program := "ytmohalnfoljffaa", sum := "ea42b62cfb446146b3d44942eead1e3f60de18746ccb4b4791af77494df8e95d", func := "loop.example/g01308/laws.FnExactValidCurve", spec := "fnExactValidCurve", unfollowed := true, recurses := true, apart := false }
def FnExactValidCurveSaid : Prop := fnExactValidCurveRow.holds Try.pinned (OpenSpec.ofChange fnExactValidCurveSpec)

/-- ITS FALSE NEIGHBOUR: 'it returns false'. Refute it at one input. -/
def fnExactValidCurveWrong : ChangeSpec := { name := "fnExactValidCurve", fn := fun _ => fun
  | [d] => { results := [.lit (.bool false)], args := [d] }
  | _ => none }
def FnExactValidCurveWrongFalsely : Prop := fnExactValidCurveRow.holds Try.pinned (OpenSpec.ofChange fnExactValidCurveWrong)

/-- 'laws.FnExactShotsFor': WHATEVER THE INPUT: true; the input reads as it did. -/
def fnExactShotsForSpec : ChangeSpec := { name := "fnExactShotsFor", fn := fun _ => fun
  | [d1, d2, d3, d4] => { results := [.lit (.bool true)], args := [d1, d2, d3, d4] }
  | _ => none }
def fnExactShotsForRow : OpenClaim := { program := "ytmohalnfoljffaa", sum := "ea42b62cfb446146b3d44942eead1e3f60de18746ccb4b4791af77494df8e95d", func := "loop.example/g01308/laws.FnExactShotsFor", spec := "fnExactShotsFor", inPlace := ["math.Float64frombits", "math.Float64bits"], unfollowed := true, recurses := true, apart := false }
def FnExactShotsForSaid : Prop := fnExactShotsForRow.holds Try.pinned (OpenSpec.ofChange fnExactShotsForSpec)

/-- ITS FALSE NEIGHBOUR: 'it returns false'. Refute it at one input. -/
def fnExactShotsForWrong : ChangeSpec := { name := "fnExactShotsFor", fn := fun _ => fun
  | [d1, d2, d3, d4] => { results := [.lit (.bool false)], args := [d1, d2, d3, d4] }
  | _ => none }
def FnExactShotsForWrongFalsely : Prop := fnExactShotsForRow.holds Try.pinned (OpenSpec.ofChange fnExactShotsForWrong)

/-- 'laws.FnExactClearnessOf': WHATEVER THE INPUT: true; the input reads as it did. -/
def fnExactClearnessOfSpec : ChangeSpec := { name := "fnExactClearnessOf", fn := fun _ => fun
  | [d1, d2, d3, d4] => { results := [.lit (.bool true)], args := [d1, d2, d3, d4] }
  | _ => none }
def fnExactClearnessOfRow : OpenClaim := { program := "ytmohalnfoljffaa", sum := "ea42b62cfb446146b3d44942eead1e3f60de18746ccb4b4791af77494df8e95d", func := "loop.example/g01308/laws.FnExactClearnessOf", spec := "fnExactClearnessOf", inPlace := ["math.sqrt"], unfollowed := true, recurses := true, apart := false }
def FnExactClearnessOfSaid : Prop := fnExactClearnessOfRow.holds Try.pinned (OpenSpec.ofChange fnExactClearnessOfSpec)

/-- ITS FALSE NEIGHBOUR: 'it returns false'. Refute it at one input. -/
def fnExactClearnessOfWrong : ChangeSpec := { name := "fnExactClearnessOf", fn := fun _ => fun
  | [d1, d2, d3, d4] => { results := [.lit (.bool false)], args := [d1, d2, d3, d4] }
  | _ => none }
def FnExactClearnessOfWrongFalsely : Prop := fnExactClearnessOfRow.holds Try.pinned (OpenSpec.ofChange fnExactClearnessOfWrong)

/-- 'laws.FnExactPowerOfPair': WHATEVER THE INPUT: true; the input reads as it did. -/
def fnExactPowerOfPairSpec : ChangeSpec := { name := "fnExactPowerOfPair", fn := fun _ => fun
  | [d1, d2, d3] => { results := [.lit (.bool true)], args := [d1, d2, d3] }
  | _ => none }
def fnExactPowerOfPairRow : OpenClaim := { program := "ytmohalnfoljffaa", sum := "ea42b62cfb446146b3d44942eead1e3f60de18746ccb4b4791af77494df8e95d", func := "loop.example/g01308/laws.FnExactPowerOfPair", spec := "fnExactPowerOfPair", inPlace := ["math.Float64frombits", "math.Float64bits"], unfollowed := true, recurses := true, apart := false }
def FnExactPowerOfPairSaid : Prop := fnExactPowerOfPairRow.holds Try.pinned (OpenSpec.ofChange fnExactPowerOfPairSpec)

/-- ITS FALSE NEIGHBOUR: 'it returns false'. Refute it at one input. -/
def fnExactPowerOfPairWrong : ChangeSpec := { name := "fnExactPowerOfPair", fn := fun _ => fun
  | [d1, d2, d3] => { results := [.lit (.bool false)], args := [d1, d2, d3] }
  | _ => none }
def FnExactPowerOfPairWrongFalsely : Prop := fnExactPowerOfPairRow.holds Try.pinned (OpenSpec.ofChange fnExactPowerOfPairWrong)

/-- 'laws.FnExactPlanTimes': WHATEVER THE INPUT: true; the input reads as it did. -/
def fnExactPlanTimesSpec : ChangeSpec := { name := "fnExactPlanTimes", fn := fun _ => fun
  | [d1, d2, d3] => { results := [.lit (.bool true)], args := [d1, d2, d3] }
  | _ => none }
def fnExactPlanTimesRow : OpenClaim := { program := "ytmohalnfoljffaa", sum := "ea42b62cfb446146b3d44942eead1e3f60de18746ccb4b4791af77494df8e95d", func := "loop.example/g01308/laws.FnExactPlanTimes", spec := "fnExactPlanTimes", inPlace := ["math.Float64frombits"], unfollowed := true, recurses := true, apart := false }
def FnExactPlanTimesSaid : Prop := fnExactPlanTimesRow.holds Try.pinned (OpenSpec.ofChange fnExactPlanTimesSpec)

/-- ITS FALSE NEIGHBOUR: 'it returns false'. Refute it at one input. -/
def fnExactPlanTimesWrong : ChangeSpec := { name := "fnExactPlanTimes", fn := fun _ => fun
  | [d1, d2, d3] => { results := [.lit (.bool false)], args := [d1, d2, d3] }
  | _ => none }
def FnExactPlanTimesWrongFalsely : Prop := fnExactPlanTimesRow.holds Try.pinned (OpenSpec.ofChange fnExactPlanTimesWrong)

/-- 'laws.FnExactToneAt': WHATEVER THE INPUT: true; the input reads as it did. -/
def fnExactToneAtSpec : ChangeSpec := { name := "fnExactToneAt", fn := fun _ => fun
  | [d1, d2] => { results := [.lit (.bool true)], args := [d1, d2] }
  | _ => none }
def fnExactToneAtRow : OpenClaim := { program := "ytmohalnfoljffaa", sum := "ea42b62cfb446146b3d44942eead1e3f60de18746ccb4b4791af77494df8e95d", func := "loop.example/g01308/laws.FnExactToneAt", spec := "fnExactToneAt", unfollowed := true, recurses := true, apart := false }
def FnExactToneAtSaid : Prop := fnExactToneAtRow.holds Try.pinned (OpenSpec.ofChange fnExactToneAtSpec)

/-- ITS FALSE NEIGHBOUR: 'it returns false'. Refute it at one input. -/
def fnExactToneAtWrong : ChangeSpec := { name := "fnExactToneAt", fn := fun _ => fun
  | [d1, d2] => { results := [.lit (.bool false)], args := [d1, d2] }
  | _ => none }
def FnExactToneAtWrongFalsely : Prop := fnExactToneAtRow.holds Try.pinned (OpenSpec.ofChange fnExactToneAtWrong)

/-- 'laws.FnExactBackCurve': WHATEVER THE INPUT: true; the input reads as it did. -/
def fnExactBackCurveSpec : ChangeSpec := { name := "fnExactBackCurve", fn := fun _ => fun
  | [d] => { results := [.lit (.bool true)], args := [d] }
  | _ => none }
def fnExactBackCurveRow : OpenClaim := { program := "ytmohalnfoljffaa", sum := "ea42b62cfb446146b3d44942eead1e3f60de18746ccb4b4791af77494df8e95d", func := "loop.example/g01308/laws.FnExactBackCurve", spec := "fnExactBackCurve", unfollowed := true, recurses := true, apart := false }
def FnExactBackCurveSaid : Prop := fnExactBackCurveRow.holds Try.pinned (OpenSpec.ofChange fnExactBackCurveSpec)

/-- ITS FALSE NEIGHBOUR: 'it returns false'. Refute it at one input. -/
def fnExactBackCurveWrong : ChangeSpec := { name := "fnExactBackCurve", fn := fun _ => fun
  | [d] => { results := [.lit (.bool false)], args := [d] }
  | _ => none }
def FnExactBackCurveWrongFalsely : Prop := fnExactBackCurveRow.holds Try.pinned (OpenSpec.ofChange fnExactBackCurveWrong)

/-- 'laws.FnExactBendAt': WHATEVER THE INPUT: true; the input reads as it did. -/
def fnExactBendAtSpec : ChangeSpec := { name := "fnExactBendAt", fn := fun _ => fun
  | [d1, d2] => { results := [.lit (.bool true)], args := [d1, d2] }
  | _ => none }
def fnExactBendAtRow : OpenClaim := { program := "ytmohalnfoljffaa", sum := "ea42b62cfb446146b3d44942eead1e3f60de18746ccb4b4791af77494df8e95d", func := "loop.example/g01308/laws.FnExactBendAt", spec := "fnExactBendAt", inPlace := ["math.archFloor", "math.Float64bits", "math.Float64frombits", "math.archTrunc"], apart := false }
def FnExactBendAtSaid : Prop := fnExactBendAtRow.holds Try.pinned (OpenSpec.ofChange fnExactBendAtSpec)

/-- ITS FALSE NEIGHBOUR: 'it returns false'. Refute it at one input. -/
def fnExactBendAtWrong : ChangeSpec := { name := "fnExactBendAt", fn := fun _ => fun
  | [d1, d2] => { results := [.lit (.bool false)], args := [d1, d2] }
  | _ => none }
def FnExactBendAtWrongFalsely : Prop := fnExactBendAtRow.holds Try.pinned (OpenSpec.ofChange fnExactBendAtWrong)

/-- 'laws.FnPlans': WHATEVER THE INPUT: true; the input reads as it did. -/
def fnPlansSpec : ChangeSpec := { name := "fnPlans", fn := fun _ => fun
  | [d1, d2] => { results := [.lit (.bool true)], args := [d1, d2] }
  | _ => none }
def fnPlansRow : OpenClaim := { program := "ytmohalnfoljffaa", sum := "ea42b62cfb446146b3d44942eead1e3f60de18746ccb4b4791af77494df8e95d", func := "loop.example/g01308/laws.FnPlans", spec := "fnPlans", inPlace := ["math.Float64frombits", "math.Float64bits"], unfollowed := true, recurses := true, apart := false }
def FnPlansSaid : Prop := fnPlansRow.holds Try.pinned (OpenSpec.ofChange fnPlansSpec)

/-- ITS FALSE NEIGHBOUR: 'it returns false'. Refute it at one input. -/
def fnPlansWrong : ChangeSpec := { name := "fnPlans", fn := fun _ => fun
  | [d1, d2] => { results := [.lit (.bool false)], args := [d1, d2] }
  | _ => none }
def FnPlansWrongFalsely : Prop := fnPlansRow.holds Try.pinned (OpenSpec.ofChange fnPlansWrong)

/-- 'laws.FnExactHalfOf': WHATEVER THE INPUT: true; the input reads as it did. -/
def fnExactHalfOfSpec : ChangeSpec := { name := "fnExactHalfOf", fn := fun _ => fun
  | [d] => { results := [.lit (.bool true)], args := [d] }
  | _ => none }
def fnExactHalfOfRow : OpenClaim := { program := "ytmohalnfoljffaa", sum := "ea42b62cfb446146b3d44942eead1e3f60de18746ccb4b4791af77494df8e95d", func := "loop.example/g01308/laws.FnExactHalfOf", spec := "fnExactHalfOf", inPlace := ["math.Float64bits", "math.Float64frombits", "math.RoundToEven"], apart := false }
def FnExactHalfOfSaid : Prop := fnExactHalfOfRow.holds Try.pinned (OpenSpec.ofChange fnExactHalfOfSpec)

/-- ITS FALSE NEIGHBOUR: 'it returns false'. Refute it at one input. -/
def fnExactHalfOfWrong : ChangeSpec := { name := "fnExactHalfOf", fn := fun _ => fun
  | [d] => { results := [.lit (.bool false)], args := [d] }
  | _ => none }
def FnExactHalfOfWrongFalsely : Prop := fnExactHalfOfRow.holds Try.pinned (OpenSpec.ofChange fnExactHalfOfWrong)

/- THE SECOND FORM. 'bulk': how many values and letters a reading holds, each counted each time it is reached (what is shared counts as often as it is met; a slice's spare places count too). A statement '..UptoSaid' is the law's where the arguments, and the package variables that the reading takes, are together of bulk at most 1048576: NARROWER than '..Said'. Prove '..Said' where nothing that the law and all that it calls make is longer than what came in: it says more and counts as full. Else prove '..UptoSaid'. A law counts once. -/
mutual
def uptoBulk {H : Type} : DataW H → Nat
  | .lit (.string bytes) => bytes.length + 1
  | .lit _ => 1
  | .nil => 1
  | .ptr d => uptoBulk d + 1
  | .slice elems spare => uptoBulkAll elems + uptoBulkAll spare + 1
  | .agg parts => uptoBulkAll parts + 1
  | .iface _ d => uptoBulk d + 1
  | .map entries => uptoBulkEntries entries + 1
  | .held _ => 1
def uptoBulkAll {H : Type} : List (DataW H) → Nat
  | [] => 0
  | d :: r => uptoBulk d + uptoBulkAll r
def uptoBulkEntries {H : Type} : List (Lit × DataW H) → Nat
  | [] => 0
  | x :: r => uptoBulkEntry x + uptoBulkEntries r
def uptoBulkEntry {H : Type} : Lit × DataW H → Nat
  | (.string bytes, d) => bytes.length + uptoBulk d + 1
  | (_, d) => uptoBulk d + 1
 end
def uptoSmall : (H : Type) → List (DataW H) → Bool := fun _ ds => decide (uptoBulkAll ds ≤ 1048576)
def OpenSpec.upto (s : _root_.Go.ChangeSpec) : _root_.Go.OpenSpec := { _root_.Go.OpenSpec.ofChange s with cond := some uptoSmall }

/-- 'laws.FnExactHatOf', WHERE WHAT IT READS IS OF BULK AT MOST 1048576: true; the input reads as it did. -/
def fnExactHatOfUptoRow : OpenClaim := { program := "ytmohalnfoljffaa", sum := "ea42b62cfb446146b3d44942eead1e3f60de18746ccb4b4791af77494df8e95d", func := "loop.example/g01308/laws.FnExactHatOf", spec := "fnExactHatOf", apart := false, narrowed := true }
def FnExactHatOfUptoSaid : Prop := fnExactHatOfUptoRow.holds Try.pinned (OpenSpec.upto fnExactHatOfSpec)

/-- 'laws.FnExactFilmLight', WHERE WHAT IT READS IS OF BULK AT MOST 1048576: true; the input reads as it did. -/
def fnExactFilmLightUptoRow : OpenClaim := { program := "ytmohalnfoljffaa", sum := "ea42b62cfb446146b3d44942eead1e3f60de18746ccb4b4791af77494df8e95d", func := "loop.example/g01308/laws.FnExactFilmLight", spec := "fnExactFilmLight", unfollowed := true, recurses := true, apart := false, narrowed := true }
def FnExactFilmLightUptoSaid : Prop := fnExactFilmLightUptoRow.holds Try.pinned (OpenSpec.upto fnExactFilmLightSpec)

/-- 'laws.FnExactPressedLight', WHERE WHAT IT READS IS OF BULK AT MOST 1048576: true; the input reads as it did. -/
def fnExactPressedLightUptoRow : OpenClaim := { program := "ytmohalnfoljffaa", sum := "ea42b62cfb446146b3d44942eead1e3f60de18746ccb4b4791af77494df8e95d", func := "loop.example/g01308/laws.FnExactPressedLight", spec := "fnExactPressedLight", unfollowed := true, recurses := true, apart := false, narrowed := true }
def FnExactPressedLightUptoSaid : Prop := fnExactPressedLightUptoRow.holds Try.pinned (OpenSpec.upto fnExactPressedLightSpec)

/-- 'laws.FnExactIsBend', WHERE WHAT IT READS IS OF BULK AT MOST 1048576: true; the input reads as it did. -/
def fnExactIsBendUptoRow : OpenClaim := { program := "ytmohalnfoljffaa", sum := "ea42b62cfb446146b3d44942eead1e3f60de18746ccb4b4791af77494df8e95d", func := "loop.example/g01308/laws.FnExactIsBend", spec := "fnExactIsBend", apart := false, narrowed := true }
def FnExactIsBendUptoSaid : Prop := fnExactIsBendUptoRow.holds Try.pinned (OpenSpec.upto fnExactIsBendSpec)

/-- 'laws.FnExactBendBack', WHERE WHAT IT READS IS OF BULK AT MOST 1048576: true; the input reads as it did. -/
def fnExactBendBackUptoRow : OpenClaim := { program := "ytmohalnfoljffaa", sum := "ea42b62cfb446146b3d44942eead1e3f60de18746ccb4b4791af77494df8e95d", func := "loop.example/g01308/laws.FnExactBendBack", spec := "fnExactBendBack", apart := false, narrowed := true }
def FnExactBendBackUptoSaid : Prop := fnExactBendBackUptoRow.holds Try.pinned (OpenSpec.upto fnExactBendBackSpec)

/-- 'laws.FnExactSameCurve', WHERE WHAT IT READS IS OF BULK AT MOST 1048576: true; the input reads as it did. -/
def fnExactSameCurveUptoRow : OpenClaim := { program := "ytmohalnfoljffaa", sum := "ea42b62cfb446146b3d44942eead1e3f60de18746ccb4b4791af77494df8e95d", func := "loop.example/g01308/laws.FnExactSameCurve", spec := "fnExactSameCurve", inPlace := ["math.Float32bits", "math.Float64bits"], unfollowed := true, recurses := true, apart := false, narrowed := true }
def FnExactSameCurveUptoSaid : Prop := fnExactSameCurveUptoRow.holds Try.pinned (OpenSpec.upto fnExactSameCurveSpec)

/-- 'laws.FnExactValidCurve', WHERE WHAT IT READS IS OF BULK AT MOST 1048576: true; the input reads as it did. -/
def fnExactValidCurveUptoRow : OpenClaim := { program := "ytmohalnfoljffaa", sum := "ea42b62cfb446146b3d44942eead1e3f60de18746ccb4b4791af77494df8e95d", func := "loop.example/g01308/laws.FnExactValidCurve", spec := "fnExactValidCurve", unfollowed := true, recurses := true, apart := false, narrowed := true }
def FnExactValidCurveUptoSaid : Prop := fnExactValidCurveUptoRow.holds Try.pinned (OpenSpec.upto fnExactValidCurveSpec)

/-- 'laws.FnExactShotsFor', WHERE WHAT IT READS IS OF BULK AT MOST 1048576: true; the input reads as it did. -/
def fnExactShotsForUptoRow : OpenClaim := { program := "ytmohalnfoljffaa", sum := "ea42b62cfb446146b3d44942eead1e3f60de18746ccb4b4791af77494df8e95d", func := "loop.example/g01308/laws.FnExactShotsFor", spec := "fnExactShotsFor", inPlace := ["math.Float64frombits", "math.Float64bits"], unfollowed := true, recurses := true, apart := false, narrowed := true }
def FnExactShotsForUptoSaid : Prop := fnExactShotsForUptoRow.holds Try.pinned (OpenSpec.upto fnExactShotsForSpec)

/-- 'laws.FnExactClearnessOf', WHERE WHAT IT READS IS OF BULK AT MOST 1048576: true; the input reads as it did. -/
def fnExactClearnessOfUptoRow : OpenClaim := { program := "ytmohalnfoljffaa", sum := "ea42b62cfb446146b3d44942eead1e3f60de18746ccb4b4791af77494df8e95d", func := "loop.example/g01308/laws.FnExactClearnessOf", spec := "fnExactClearnessOf", inPlace := ["math.sqrt"], unfollowed := true, recurses := true, apart := false, narrowed := true }
def FnExactClearnessOfUptoSaid : Prop := fnExactClearnessOfUptoRow.holds Try.pinned (OpenSpec.upto fnExactClearnessOfSpec)

/-- 'laws.FnExactPowerOfPair', WHERE WHAT IT READS IS OF BULK AT MOST 1048576: true; the input reads as it did. -/
def fnExactPowerOfPairUptoRow : OpenClaim := { program := "ytmohalnfoljffaa", sum := "ea42b62cfb446146b3d44942eead1e3f60de18746ccb4b4791af77494df8e95d", func := "loop.example/g01308/laws.FnExactPowerOfPair", spec := "fnExactPowerOfPair", inPlace := ["math.Float64frombits", "math.Float64bits"], unfollowed := true, recurses := true, apart := false, narrowed := true }
def FnExactPowerOfPairUptoSaid : Prop := fnExactPowerOfPairUptoRow.holds Try.pinned (OpenSpec.upto fnExactPowerOfPairSpec)

/-- 'laws.FnExactPlanTimes', WHERE WHAT IT READS IS OF BULK AT MOST 1048576: true; the input reads as it did. -/
def fnExactPlanTimesUptoRow : OpenClaim := { program := "ytmohalnfoljffaa", sum := "ea42b62cfb446146b3d44942eead1e3f60de18746ccb4b4791af77494df8e95d", func := "loop.example/g01308/laws.FnExactPlanTimes", spec := "fnExactPlanTimes", inPlace := ["math.Float64frombits"], unfollowed := true, recurses := true, apart := false, narrowed := true }
def FnExactPlanTimesUptoSaid : Prop := fnExactPlanTimesUptoRow.holds Try.pinned (OpenSpec.upto fnExactPlanTimesSpec)

/-- 'laws.FnExactToneAt', WHERE WHAT IT READS IS OF BULK AT MOST 1048576: true; the input reads as it did. -/
def fnExactToneAtUptoRow : OpenClaim := { program := "ytmohalnfoljffaa", sum := "ea42b62cfb446146b3d44942eead1e3f60de18746ccb4b4791af77494df8e95d", func := "loop.example/g01308/laws.FnExactToneAt", spec := "fnExactToneAt", unfollowed := true, recurses := true, apart := false, narrowed := true }
def FnExactToneAtUptoSaid : Prop := fnExactToneAtUptoRow.holds Try.pinned (OpenSpec.upto fnExactToneAtSpec)

/-- 'laws.FnExactBackCurve', WHERE WHAT IT READS IS OF BULK AT MOST 1048576: true; the input reads as it did. -/
def fnExactBackCurveUptoRow : OpenClaim := { program := "ytmohalnfoljffaa", sum := "ea42b62cfb446146b3d44942eead1e3f60de18746ccb4b4791af77494df8e95d", func := "loop.example/g01308/laws.FnExactBackCurve", spec := "fnExactBackCurve", unfollowed := true, recurses := true, apart := false, narrowed := true }
def FnExactBackCurveUptoSaid : Prop := fnExactBackCurveUptoRow.holds Try.pinned (OpenSpec.upto fnExactBackCurveSpec)

/-- 'laws.FnExactBendAt', WHERE WHAT IT READS IS OF BULK AT MOST 1048576: true; the input reads as it did. -/
def fnExactBendAtUptoRow : OpenClaim := { program := "ytmohalnfoljffaa", sum := "ea42b62cfb446146b3d44942eead1e3f60de18746ccb4b4791af77494df8e95d", func := "loop.example/g01308/laws.FnExactBendAt", spec := "fnExactBendAt", inPlace := ["math.archFloor", "math.Float64bits", "math.Float64frombits", "math.archTrunc"], apart := false, narrowed := true }
def FnExactBendAtUptoSaid : Prop := fnExactBendAtUptoRow.holds Try.pinned (OpenSpec.upto fnExactBendAtSpec)

/-- 'laws.FnPlans', WHERE WHAT IT READS IS OF BULK AT MOST 1048576: true; the input reads as it did. -/
def fnPlansUptoRow : OpenClaim := { program := "ytmohalnfoljffaa", sum := "ea42b62cfb446146b3d44942eead1e3f60de18746ccb4b4791af77494df8e95d", func := "loop.example/g01308/laws.FnPlans", spec := "fnPlans", inPlace := ["math.Float64frombits", "math.Float64bits"], unfollowed := true, recurses := true, apart := false, narrowed := true }
def FnPlansUptoSaid : Prop := fnPlansUptoRow.holds Try.pinned (OpenSpec.upto fnPlansSpec)

/-- 'laws.FnExactHalfOf', WHERE WHAT IT READS IS OF BULK AT MOST 1048576: true; the input reads as it did. -/
def fnExactHalfOfUptoRow : OpenClaim := { program := "ytmohalnfoljffaa", sum := "ea42b62cfb446146b3d44942eead1e3f60de18746ccb4b4791af77494df8e95d", func := "loop.example/g01308/laws.FnExactHalfOf", spec := "fnExactHalfOf", inPlace := ["math.Float64bits", "math.Float64frombits", "math.RoundToEven"], apart := false, narrowed := true }
def FnExactHalfOfUptoSaid : Prop := fnExactHalfOfUptoRow.holds Try.pinned (OpenSpec.upto fnExactHalfOfSpec)

end Rows
end Go.Proofs.Ytmohalnfoljffaa
