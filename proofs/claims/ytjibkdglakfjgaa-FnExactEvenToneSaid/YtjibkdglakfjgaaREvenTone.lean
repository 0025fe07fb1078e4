/-
FnExactEvenTone: for all arguments the law returns true. No conditions.
-/
import Derived.Test.YtjibkdglakfjgaaPi
import Derived.Test.YtjibkdglakfjgaaRh
namespace Go.Proofs.Ytjibkdglakfjgaa
open Go.Av Go.ChangeShapes Go.WideShapes Go.ChangeAt Go.RowKit

set_option maxRecDepth 100000 in
theorem fnExactEvenTone_lifted (os : Os) (started : os.Started) (H : Type) (enc : TypeId × Value → H) :
    ReturnsInHanded {} Try.checked os 5 .any (Rows.fnExactEvenToneSpec.pre6 enc Try.prog Try.f5 Rows.fnExactEvenToneRow.domain false) (Rows.fnExactEvenToneSpec.post enc Try.prog Try.f5 false true false false) := by
  refine lifted_of (C := Try.checked) (tb := 4) Try_own started (by kernel_rfl) Try.func5 (ChangeSpec.witness6 (enc := enc) (C := Try.checked) false ⟨#[], #[.agg #[.int .i64 0, .int .i64 0, .slice none 0 0]], []⟩ 8 (by kernel_rfl) (by kernel_rfl) (by kernel_rfl) (by kernel_rfl)) Try_laidOut (by kernel_rfl) rfl (fun ds h => ?_) Try.underlying4 (by kernel_rfl) ?_
  · rw [Try.params5] at h
    match ds, h with
    | [_d0], _ => exact ⟨rfl, rfl, rfl⟩
  · intro W base args ds p hval hA
    rw [Try.params5] at hA hval
    obtain ⟨v0, vs0, d0, ds0, p0, q0, hargs, rfl, rfl, h0, r0⟩ := trodAll_cons hA
    obtain ⟨rfl, rfl, rfl⟩ := trodAll_nil r0
    obtain rfl : args = #[v0] := by cases args; simp_all
    obtain ⟨a0, b0, x0, ha0, hb0, hl0, hx0, g0⟩ := open_pic (X := fun _ => False) (B := 0) (C := W.heap.size) (fun _ h => h.elim) Try.underlying24 (by kernel_rfl) ⟨rfl, rfl⟩ ⟨rfl, rfl⟩ ⟨rfl, rfl⟩ (by kernel_rfl) Try.underlying2 (by kernel_rfl) Try.underlying22 Try.underlying37 (by kernel_rfl) (hval 0 24 v0 rfl rfl) h0
    exact ⟨_, rel_one g0, fnExactEvenTone_true a0 b0 x0 ha0 hb0 hl0 hx0⟩

theorem fnExactEvenTone_facts : joinedFacts Try.prog 5 Try.f5 Rows.fnExactEvenToneSpec Rows.fnExactEvenToneRow = true := by
  unfold joinedFacts
  rw [mayEnter_t, liftsFinal_t, make_t]
  kernel_rfl
/-- THE STATEMENT. -/
theorem fnExactEvenTone_holds : Rows.FnExactEvenToneSaid :=
  OpenClaim.holds_of_wide 5 Try.f5 rfl rfl rfl rfl rfl rfl rfl ⟨rfl, rfl, rfl, rfl, rfl⟩ rfl rfl rfl rfl rfl (by kernel_rfl) Try.func5 fnExactEvenTone_facts
    (of_decide_eq_true (by kernel_rfl)) (by unfold Func.isWrapper; first | (rw [if_pos (by decide +kernel)]; kernel_rfl) | (rw [if_neg (by decide +kernel)]; exact ⟨rfl, rfl⟩))
    (fun os started H enc _ => fnExactEvenTone_lifted os started H enc)
#print axioms fnExactEvenTone_holds

end Go.Proofs.Ytjibkdglakfjgaa
