/-
FnExactValidCurve: for every curve the law returns true. No conditions.
-/
import Derived.Test.YtmohalnfoljffaaBa
import Derived.Test.YtmohalnfoljffaaRh
namespace Go.Proofs.Ytmohalnfoljffaa
open Go.Av Go.ChangeShapes Go.WideShapes Go.ChangeAt Go.RowKit

set_option maxRecDepth 100000 in
theorem fnExactValidCurve_lifted (os : Os) (started : os.Started) (H : Type) (enc : TypeId × Value → H) :
    ReturnsInHanded {} Try.checked os 9 .any (Rows.fnExactValidCurveSpec.pre6 enc Try.prog Try.f9 Rows.fnExactValidCurveRow.domain false) (Rows.fnExactValidCurveSpec.post enc Try.prog Try.f9 false true false false) := by
  refine lifted_of (C := Try.checked) (tb := 4) Try_own started (by kernel_rfl) Try.func9 (ChangeSpec.witness6 (enc := enc) (C := Try.checked) false ⟨#[], #[.agg #[.slice none 0 0, .slice none 0 0]], []⟩ 8 (by kernel_rfl) (by kernel_rfl) (by kernel_rfl) (by kernel_rfl)) Try_laidOut (by kernel_rfl) rfl (fun ds h => ?_) Try.underlying4 (by kernel_rfl) ?_
  · rw [Try.params9] at h
    match ds, h with
    | [_d0], _ => exact ⟨rfl, rfl, rfl⟩
  · intro W base args ds p hval hA
    rw [Try.params9] at hA hval
    obtain ⟨v0, vs0, d0, ds0, p0, q0, hargs, rfl, rfl, h0, r0⟩ := trodAll_cons hA
    obtain ⟨rfl, rfl, rfl⟩ := trodAll_nil r0
    obtain rfl : args = #[v0] := by cases args; simp_all
    obtain ⟨x0, y0, hl0, hm0, hx0, hy0, g0⟩ := open_curve (X := fun _ => False) (B := 0) (C := W.heap.size) (fun _ h => h.elim) Try.underlying37 (by kernel_rfl) ⟨rfl, rfl⟩ ⟨rfl, rfl⟩ (by kernel_rfl) Try.underlying30 Try.underlying22 (by kernel_rfl) (hval 0 37 v0 rfl rfl) h0
    exact ⟨_, rel_one g0, validCurve_true x0 y0 hl0 hm0 hx0 hy0⟩

theorem fnExactValidCurve_facts : joinedFacts Try.prog 9 Try.f9 Rows.fnExactValidCurveSpec Rows.fnExactValidCurveRow = true := by
  unfold joinedFacts
  rw [mayEnter_t, liftsFinal_t, make_t]
  kernel_rfl
/-- THE STATEMENT. -/
theorem fnExactValidCurve_holds : Rows.FnExactValidCurveSaid :=
  OpenClaim.holds_of_wide 9 Try.f9 rfl rfl rfl rfl rfl rfl rfl ⟨rfl, rfl, rfl, rfl, rfl⟩ rfl rfl rfl rfl rfl (by kernel_rfl) Try.func9 fnExactValidCurve_facts
    (of_decide_eq_true (by kernel_rfl)) (by unfold Func.isWrapper; first | (rw [if_pos (by decide +kernel)]; kernel_rfl) | (rw [if_neg (by decide +kernel)]; exact ⟨rfl, rfl⟩))
    (fun os started H enc _ => fnExactValidCurve_lifted os started H enc)
#print axioms fnExactValidCurve_holds

end Go.Proofs.Ytmohalnfoljffaa
