/-
FnExactAddPictures: for all arguments the law returns true. No conditions.
-/
import Derived.Test.YtjibkdglakfjgaaJa
import Derived.Test.YtjibkdglakfjgaaRh
namespace Go.Proofs.Ytjibkdglakfjgaa
open Go.Av Go.ChangeShapes Go.WideShapes Go.ChangeAt Go.RowKit

set_option maxRecDepth 100000 in
theorem fnExactAddPictures_lifted (os : Os) (started : os.Started) (H : Type) (enc : TypeId × Value → H) :
    ReturnsInHanded {} Try.checked os 7 .any (Rows.fnExactAddPicturesSpec.pre6 enc Try.prog Try.f7 Rows.fnExactAddPicturesRow.domain false) (Rows.fnExactAddPicturesSpec.post enc Try.prog Try.f7 false true false false) := by
  refine lifted_of (C := Try.checked) (tb := 4) Try_own started (by kernel_rfl) Try.func7 (ChangeSpec.witness6 (enc := enc) (C := Try.checked) false ⟨#[], #[.agg #[.int .i64 0, .int .i64 0, .slice none 0 0], .agg #[.int .i64 0, .int .i64 0, .slice none 0 0]], []⟩ 8 (by kernel_rfl) (by kernel_rfl) (by kernel_rfl) (by kernel_rfl)) Try_laidOut (by kernel_rfl) rfl (fun ds h => ?_) Try.underlying4 (by kernel_rfl) ?_
  · rw [Try.params7] at h
    match ds, h with
    | [_d0, _d1], _ => exact ⟨rfl, rfl, rfl⟩
  · intro W base args ds p hval hA
    rw [Try.params7] at hA hval
    obtain ⟨v0, vs0, d0, ds0, p0, q0, hargs, rfl, rfl, h0, r0⟩ := trodAll_cons hA
    obtain ⟨v1, vs1, d1, ds1, p1, q1, rfl, rfl, rfl, h1, r1⟩ := trodAll_cons r0
    obtain ⟨rfl, rfl, rfl⟩ := trodAll_nil r1
    obtain rfl : args = #[v0, v1] := by cases args; simp_all
    obtain ⟨a0, b0, x0, ha0, hb0, hl0, hx0, g0⟩ := open_pic (X := fun _ => False) (B := 0) (C := W.heap.size) (fun _ h => h.elim) Try.underlying24 (by kernel_rfl) ⟨rfl, rfl⟩ ⟨rfl, rfl⟩ ⟨rfl, rfl⟩ (by kernel_rfl) Try.underlying2 (by kernel_rfl) Try.underlying22 Try.underlying37 (by kernel_rfl) (hval 0 24 v0 rfl rfl) h0
    obtain ⟨a1, b1, x1, ha1, hb1, hl1, hx1, g1⟩ := open_pic (X := fun _ => False) (B := 0) (C := W.heap.size) (fun _ h => h.elim) Try.underlying24 (by kernel_rfl) ⟨rfl, rfl⟩ ⟨rfl, rfl⟩ ⟨rfl, rfl⟩ (by kernel_rfl) Try.underlying2 (by kernel_rfl) Try.underlying22 Try.underlying37 (by kernel_rfl) (hval 1 24 v1 rfl rfl) h1
    exact ⟨_, rel_more g0 (rel_one g1), fnExactAddPictures_true a0 b0 x0 ha0 hb0 hl0 hx0 a1 b1 x1 ha1 hb1 hl1 hx1⟩

theorem fnExactAddPictures_facts : joinedFacts Try.prog 7 Try.f7 Rows.fnExactAddPicturesSpec Rows.fnExactAddPicturesRow = true := by
  unfold joinedFacts
  rw [mayEnter_t, liftsFinal_t, make_t]
  kernel_rfl
/-- THE STATEMENT. -/
theorem fnExactAddPictures_holds : Rows.FnExactAddPicturesSaid :=
  OpenClaim.holds_of_wide 7 Try.f7 rfl rfl rfl rfl rfl rfl rfl ⟨rfl, rfl, rfl, rfl, rfl⟩ rfl rfl rfl rfl rfl (by kernel_rfl) Try.func7 fnExactAddPictures_facts
    (of_decide_eq_true (by kernel_rfl)) (by unfold Func.isWrapper; first | (rw [if_pos (by decide +kernel)]; kernel_rfl) | (rw [if_neg (by decide +kernel)]; exact ⟨rfl, rfl⟩))
    (fun os started H enc _ => fnExactAddPictures_lifted os started H enc)
#print axioms fnExactAddPictures_holds

end Go.Proofs.Ytjibkdglakfjgaa
