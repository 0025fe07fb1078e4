/-
More of the logic. No program in sight.
-/
import Derived.Test.YtjibkdglakfjgaaAvThread
/-
More operations: the greater and the lesser of two integers.
-/
namespace Go.Av
open Go.RowKit
section
variable {P : Program} {G : Glob} {n : Nat} {e : Env} {h : Hp} {ty : TypeId}

theorem op_max {x y : Operand} {k : IntKind} {a b : Int} {ts : Array TypeId} (hx : ev e x = .v (.int k a)) (hy : ev e y = .v (.int k b)) (hcx : canonO x = true) (hcy : canonO y = true) :
    EvalOp P G n e h (.call { callee := .builtin .max, args := #[x, y], argTypes := ts }) ty (.v (.int k (max a b))) := fun ac w st _ _ _ _ => by
  have h1 := st.rel x hcx
  have h2 := st.rel y hcy
  rw [hx] at h1; rw [hy] at h2; simp only [Rel] at h1 h2
  have e1 := c0_int h1
  have e2 := c0_int h2
  refine ⟨.int k (max a b), w, ?_, Same.refl w, by simp [Rel, c0]⟩
  have : max a b = if b > a then b else a := by split <;> omega
  rw [this]
  simp [execOp, resolve, invoke, builtin, Builtin.max_, Builtin.max2, e1, e2]
theorem op_min {x y : Operand} {k : IntKind} {a b : Int} {ts : Array TypeId} (hx : ev e x = .v (.int k a)) (hy : ev e y = .v (.int k b)) (hcx : canonO x = true) (hcy : canonO y = true) :
    EvalOp P G n e h (.call { callee := .builtin .min, args := #[x, y], argTypes := ts }) ty (.v (.int k (min a b))) := fun ac w st _ _ _ _ => by
  have h1 := st.rel x hcx
  have h2 := st.rel y hcy
  rw [hx] at h1; rw [hy] at h2; simp only [Rel] at h1 h2
  have e1 := c0_int h1
  have e2 := c0_int h2
  refine ⟨.int k (min a b), w, ?_, Same.refl w, by simp [Rel, c0]⟩
  have : min a b = if b < a then b else a := by split <;> omega
  rw [this]
  simp [execOp, resolve, invoke, builtin, Builtin.min_, Builtin.min2, e1, e2]
theorem xpa {x y : Operand} {k : IntKind} {a b : Int} {ts : Array TypeId} {K : AVal → Prop} (hk : K (.v (.int k (max a b)))) (hx : ev e x = .v (.int k a) := by rfl) (hy : ev e y = .v (.int k b) := by rfl) (hcx : canonO x = true := by rfl) (hcy : canonO y = true := by rfl) :
    OpThen P G n e h (.call { callee := .builtin .max, args := #[x, y], argTypes := ts }) ty K := op_then (op_max hx hy hcx hcy) hk
theorem xpb {x y : Operand} {k : IntKind} {a b : Int} {ts : Array TypeId} {K : AVal → Prop} (hk : K (.v (.int k (min a b)))) (hx : ev e x = .v (.int k a) := by rfl) (hy : ev e y = .v (.int k b) := by rfl) (hcx : canonO x = true := by rfl) (hcy : canonO y = true := by rfl) :
    OpThen P G n e h (.call { callee := .builtin .min, args := #[x, y], argTypes := ts }) ty K := op_then (op_min hx hy hcx hcy) hk
end
end Go.Av
