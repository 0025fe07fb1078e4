/-
FnExactToneAt: for all arguments the law returns true. No conditions.
-/
import Derived.Test.YtmohalnfoljffaaCt
import Derived.Test.YtmohalnfoljffaaRh
namespace Go.Proofs.Ytmohalnfoljffaa
open Go.Av Go.ChangeShapes Go.WideShapes Go.ChangeAt Go.RowKit

set_option maxRecDepth 100000 in
theorem fnExactToneAt_lifted (os : Os) (started : os.Started) (H : Type) (enc : TypeId × Value → H) :
    ReturnsInHanded {} Try.checked os 14 .any (Rows.fnExactToneAtSpec.pre6 enc Try.prog Try.f14 Rows.fnExactToneAtRow.domain false) (Rows.fnExactToneAtSpec.post enc Try.prog Try.f14 false true false false) := by
  refine lifted_of (C := Try.checked) (tb := 4) Try_own started (by kernel_rfl) Try.func14 (ChangeSpec.witness6 (enc := enc) (C := Try.checked) false ⟨#[], #[.agg #[.slice none 0 0, .slice none 0 0], .float .f32 0], []⟩ 8 (by kernel_rfl) (by kernel_rfl) (by kernel_rfl) (by kernel_rfl)) Try_laidOut (by kernel_rfl) rfl (fun ds h => ?_) Try.underlying4 (by kernel_rfl) ?_
  · rw [Try.params14] at h
    match ds, h with
    | [_d0, _d1], _ => exact ⟨rfl, rfl, rfl⟩
  · intro W base args ds p hval hA
    rw [Try.params14] at hA hval
    obtain ⟨v0, vs0, d0, ds0, p0, q0, hargs, rfl, rfl, h0, r0⟩ := trodAll_cons hA
    obtain ⟨v1, vs1, d1, ds1, p1, q1, rfl, rfl, rfl, h1, r1⟩ := trodAll_cons r0
    obtain ⟨rfl, rfl, rfl⟩ := trodAll_nil r1
    obtain rfl : args = #[v0, v1] := by cases args; simp_all
    obtain ⟨x0, y0, hl0, hm0, hx0, hy0, g0⟩ := open_curve (X := fun _ => False) (B := 0) (C := W.heap.size) (fun _ h => h.elim) Try.underlying37 (by kernel_rfl) ⟨rfl, rfl⟩ ⟨rfl, rfl⟩ (by kernel_rfl) Try.underlying30 Try.underlying22 (by kernel_rfl) (hval 0 37 v0 rfl rfl) h0
    obtain ⟨x1, hx1, g1⟩ := open_f32 (X := fun _ => False) (B := 0) (C := W.heap.size) Try.underlying22 (hval 1 22 v1 rfl rfl) h1
    exact ⟨_, rel_more g0 (rel_one g1), fnExactToneAt_true x0 y0 hl0 hm0 hx0 hy0 x1 hx1⟩

theorem fnExactToneAt_facts : joinedFacts Try.prog 14 Try.f14 Rows.fnExactToneAtSpec Rows.fnExactToneAtRow = true := by
  unfold joinedFacts
  rw [mayEnter_t, liftsFinal_t, make_t]
  kernel_rfl
/-- THE STATEMENT. -/
theorem fnExactToneAt_holds : Rows.FnExactToneAtSaid :=
  OpenClaim.holds_of_wide 14 Try.f14 rfl rfl rfl rfl rfl rfl rfl ⟨rfl, rfl, rfl, rfl, rfl⟩ rfl rfl rfl rfl rfl (by kernel_rfl) Try.func14 fnExactToneAt_facts
    (of_decide_eq_true (by kernel_rfl)) (by unfold Func.isWrapper; first | (rw [if_pos (by decide +kernel)]; kernel_rfl) | (rw [if_neg (by decide +kernel)]; exact ⟨rfl, rfl⟩))
    (fun os started H enc _ => fnExactToneAt_lifted os started H enc)
#print axioms fnExactToneAt_holds

end Go.Proofs.Ytmohalnfoljffaa
