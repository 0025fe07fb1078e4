/-
FnExactShiftPicture: for all arguments the law returns true. No conditions.
-/
import Derived.Test.YtjibkdglakfjgaaKs
import Derived.Test.YtjibkdglakfjgaaRh
namespace Go.Proofs.Ytjibkdglakfjgaa
open Go.Av Go.ChangeShapes Go.WideShapes Go.ChangeAt Go.RowKit

set_option maxRecDepth 100000 in
theorem fnExactShiftPicture_lifted (os : Os) (started : os.Started) (H : Type) (enc : TypeId × Value → H) :
    ReturnsInHanded {} Try.checked os 9 .any (Rows.fnExactShiftPictureSpec.pre6 enc Try.prog Try.f9 Rows.fnExactShiftPictureRow.domain false) (Rows.fnExactShiftPictureSpec.post enc Try.prog Try.f9 false true false false) := by
  refine lifted_of (C := Try.checked) (tb := 4) Try_own started (by kernel_rfl) Try.func9 (ChangeSpec.witness6 (enc := enc) (C := Try.checked) false ⟨#[], #[.agg #[.int .i64 0, .int .i64 0, .slice none 0 0], .int .i64 0, .int .i64 0], []⟩ 8 (by kernel_rfl) (by kernel_rfl) (by kernel_rfl) (by kernel_rfl)) Try_laidOut (by kernel_rfl) rfl (fun ds h => ?_) Try.underlying4 (by kernel_rfl) ?_
  · rw [Try.params9] at h
    match ds, h with
    | [_d0, _d1, _d2], _ => exact ⟨rfl, rfl, rfl⟩
  · intro W base args ds p hval hA
    rw [Try.params9] at hA hval
    obtain ⟨v0, vs0, d0, ds0, p0, q0, hargs, rfl, rfl, h0, r0⟩ := trodAll_cons hA
    obtain ⟨v1, vs1, d1, ds1, p1, q1, rfl, rfl, rfl, h1, r1⟩ := trodAll_cons r0
    obtain ⟨v2, vs2, d2, ds2, p2, q2, rfl, rfl, rfl, h2, r2⟩ := trodAll_cons r1
    obtain ⟨rfl, rfl, rfl⟩ := trodAll_nil r2
    obtain rfl : args = #[v0, v1, v2] := by cases args; simp_all
    obtain ⟨a0, b0, x0, ha0, hb0, hl0, hx0, g0⟩ := open_pic (X := fun _ => False) (B := 0) (C := W.heap.size) (fun _ h => h.elim) Try.underlying24 (by kernel_rfl) ⟨rfl, rfl⟩ ⟨rfl, rfl⟩ ⟨rfl, rfl⟩ (by kernel_rfl) Try.underlying2 (by kernel_rfl) Try.underlying22 Try.underlying37 (by kernel_rfl) (hval 0 24 v0 rfl rfl) h0
    obtain ⟨x1, hx1, g1⟩ := Go.Av.open_int (X := fun _ => False) (B := 0) (C := W.heap.size) Try.underlying2 (hval 1 2 v1 rfl rfl) h1
    obtain ⟨x2, hx2, g2⟩ := Go.Av.open_int (X := fun _ => False) (B := 0) (C := W.heap.size) Try.underlying2 (hval 2 2 v2 rfl rfl) h2
    exact ⟨_, rel_more g0 (rel_more g1 (rel_one g2)), fnExactShiftPicture_true a0 b0 x0 ha0 hb0 hl0 hx0 x1 hx1 x2 hx2⟩

theorem fnExactShiftPicture_facts : joinedFacts Try.prog 9 Try.f9 Rows.fnExactShiftPictureSpec Rows.fnExactShiftPictureRow = true := by
  unfold joinedFacts
  rw [mayEnter_t, liftsFinal_t, make_t]
  kernel_rfl
/-- THE STATEMENT. -/
theorem fnExactShiftPicture_holds : Rows.FnExactShiftPictureSaid :=
  OpenClaim.holds_of_wide 9 Try.f9 rfl rfl rfl rfl rfl rfl rfl ⟨rfl, rfl, rfl, rfl, rfl⟩ rfl rfl rfl rfl rfl (by kernel_rfl) Try.func9 fnExactShiftPicture_facts
    (of_decide_eq_true (by kernel_rfl)) (by unfold Func.isWrapper; first | (rw [if_pos (by decide +kernel)]; kernel_rfl) | (rw [if_neg (by decide +kernel)]; exact ⟨rfl, rfl⟩))
    (fun os started H enc _ => fnExactShiftPicture_lifted os started H enc)
#print axioms fnExactShiftPicture_holds

end Go.Proofs.Ytjibkdglakfjgaa
