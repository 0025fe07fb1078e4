/-
More of the logic: a row's step; how arguments are opened. No program in sight.
-/
import Derived.Test.YtjibkdglakfjgaaAvLib
import Derived.ProofKit
import Derived.Deep.Strs
import Derived.Deep.Slices
import Derived.OpenShut
/-
Own arrays: what a call hands back new may be owned, written, lent.
-/
namespace Go.Av
open Go.RowKit

section
variable {P : Program} {G : Glob} {n : Nat} {Q : Post} {e : Env} {h : Hp} {ops : Array Oper} {rest : List Oper} {d : Nat} {ty : TypeId} {pos : String} {after : Array Edge}

/-- An element's address in an own array. -/
theorem VL_index_a {t el sz : Nat} {x ix : Operand} {j m : Nat} {s : Value} {i : Int} {cells : List AVal} [SliceT P t el] [SizeT P el sz] (hx : ev e x = .orow j s) (hj : h j = some (.arr s m cells)) (hi : ev e ix = .v (.int .i64 i)) (h0 : 0 ≤ i ∧ i < m) (hcx : canonO x = true) (hci : canonO ix = true) (hd : Nat.blt d n = true)
    (hk : ∀ b o cap, s = .slice (some ⟨b, o, none⟩) m cap → VL P G n ops rest Q (upd e d (.own j b (o + i.toNat * sz))) h) : VL P G n ops (⟨some d, .indexAddr t x ix, ty, pos, after, none⟩ :: rest) Q e h := fun a w st => by
  have h1 := st.rel x hcx
  have h2 := st.rel ix hci
  rw [hx] at h1; rw [hi] at h2; simp only [Rel] at h1 h2
  obtain ⟨ad, cap, h3, h4⟩ := st.own j _ hj
  rcases h4 with ⟨h5, _⟩ | ⟨b, off, cur, ty', h5, h6, h7, _⟩
  · omega
  · subst h6
    have hr : (execOp a.eval ⟨some d, .indexAddr t x ix, ty, pos, after, none⟩).run P w = .ok (.value (.pointer (some ⟨b, off + i.toNat * sz, none⟩))) w := by
      have := run_indexAt (P := P) (t := t) (el := el) (sz := sz) b off m cap i h0.1 h0.2 w
      simp only [execOp, h1.1, h3, c0_int h2, this, Sem.run_bind, Result.andThen_ok, Sem.run_pure]
    exact wpl_value rfl hr rfl (hk b off cap h3 _ _ (st.put d (by simpa using hd) _ _ (by simp [Rel])))
theorem VL_index_a1 {t el : Nat} {x ix : Operand} {j m : Nat} {s : Value} {i : Nat} {cells : List AVal} [SliceT P t el] [SizeT P el 1] (hx : ev e x = .orow j s) (hj : h j = some (.arr s m cells)) (hi : ev e ix = .v (.int .i64 (i : Int))) (h0 : i < m) (hcx : canonO x = true) (hci : canonO ix = true) (hd : Nat.blt d n = true)
    (hk : ∀ b o cap, s = .slice (some ⟨b, o, none⟩) m cap → VL P G n ops rest Q (upd e d (.own j b (o + i))) h) : VL P G n ops (⟨some d, .indexAddr t x ix, ty, pos, after, none⟩ :: rest) Q e h :=
  VL_index_a (sz := 1) hx hj hi ⟨by omega, by omega⟩ hcx hci hd fun b o cap hs => by
    have := hk b o cap hs
    simpa using this

/-- A store into an own array. -/
theorem VL_store_a {t : TypeId} {p x : Operand} {i b o off cap m : Nat} {s : Value} {cells : List AVal} {u : AVal} [hs : SizeT P t 1] (hp : ev e p = .own i b (o + off)) (hi : h i = some (.arr s m cells)) (hsb : s = .slice (some ⟨b, o, none⟩) m cap) (hl : off < cells.length) (hx : ev e x = u) (hu : cellA u = true)
    (hcp : canonO p = true) (hcx : canonO x = true)
    (hk : VL P G n ops rest Q e (upd h i (some (.arr s m (cells.set off u))))) : VL P G n ops (⟨none, .store t p x, ty, pos, after, none⟩ :: rest) Q e h := fun a w st => by
  have h1 := st.rel p hcp
  have h2 := st.rel x hcx
  rw [hp] at h1; rw [hx] at h2; simp only [Rel] at h1
  have hone := cellA_one hu h2
  have hcell : (a.eval x).cells = #[a.eval x] := by
    generalize a.eval x = y at hone
    cases y <;> simp [Value.oneCell'] at hone <;> rfl
  obtain ⟨ad, cap', h3, h4⟩ := st.own i _ hi
  obtain ⟨inf, h5, h6⟩ := SizeT.size (P := P) (t := t) (sz := 1)
  rcases h4 with ⟨_, hc0⟩ | ⟨b', off', cur, ty', hm0, hadr, hg, hle, hrel⟩
  · subst hc0; simp at hl
  subst hsb
  subst hadr
  simp only [Value.slice.injEq, Option.some.injEq, Addr.mk.injEq, and_true, true_and] at h3
  obtain ⟨⟨rfl, rfl⟩, rfl⟩ := h3
  have hlt : o + off < cur.size := by omega
  have hr : (execOp a.eval ⟨none, .store t p x, ty, pos, after, none⟩).run P w = .ok .skip (w.setCell ⟨b, o + off, none⟩ (a.eval x)) := by
    have hc : w.cell? ⟨b, o + off, none⟩ = some cur[o + off] := by rw [cell_of_own hg]; simp [hlt]
    have hfz : w.frozen? ⟨b, o + off, none⟩ = false := by simp [World.frozen?, hg]
    simp only [execOp, Instr.storeAt, h1, Instr.sureAddr, storeVar, Sem.run_bind, Sem.run_pure, Result.andThen_ok, sizeOf, typeInfo, run_program, h5, h6, hcell]
    simp [storeCells, run_store P w _ _ _ hone, hc, hfz, addr_add]
  refine wpl_skip rfl rfl hr (hk _ _ ?_)
  have hbk : (Ent.arr (.slice (some ⟨b, o, none⟩) m cap) m cells).blk = some b := by simp [Ent.blk, Value.ownBlock, hm0]
  have hX : Xs G h b := .inr (.inr ⟨i, _, hi, hbk⟩)
  have hiff := xs_upd_same (G := G) (en := .arr (.slice (some ⟨b, o, none⟩) m cap) m (cells.set off u)) hi rfl
  have hw : WLe (Xs G h) (Xs G (upd h i (some (.arr (.slice (some ⟨b, o, none⟩) m cap) m (cells.set off u))))) w (w.setCell ⟨b, o + off, none⟩ (a.eval x)) :=
    ⟨(wle_set w ⟨b, o + off, none⟩ _ hX).1, fun b' hb' hn => ⟨fun hh => hn ((hiff b').1 hh), ((wle_set w ⟨b, o + off, none⟩ (a.eval x) hX).2 b' hb' hn).2⟩⟩
  refine st.setEnt i _ rfl rfl rfl (by simp [World.setCell]) (fun b' _ hne => Below.heap_setCell w _ _ b' (fun hh => hne _ hi (by rw [hbk, hh]))) (fun b' hb' => .inl ⟨_, hi, hb'⟩) ?_
  refine ⟨_, cap, rfl, .inr ⟨b, o, cur.setIfInBounds (o + off) (a.eval x), ty', hm0, rfl, ?_, by simpa using hle, ?_⟩⟩
  · simp only [World.setCell, Array.getElem?_modify, if_true, hg, Option.map_some]
    simp
  · have e1 : (((cur.setIfInBounds (o + off) (a.eval x)).toList.drop o).take (cells.set off u).length) = ((cur.toList.drop o).take cells.length).set off (a.eval x) := by
      rw [Array.toList_setIfInBounds, List.length_set, ← List.take_set]
      congr 1
      apply List.ext_getElem?
      intro q
      by_cases hq : q = off
      · subst hq
        rw [List.getElem?_drop, List.getElem?_set_self (by simpa using hlt), List.getElem?_set_self (by simp; omega)]
      · rw [List.getElem?_drop, List.getElem?_set_ne (by omega), List.getElem?_set_ne (by omega), List.getElem?_drop]
    rw [e1]
    exact relL_set off (RelL.mono hw hrel) (Rel.mono hw h2)

theorem op_len_a {t el : Nat} {x : Operand} {i m : Nat} {s : Value} {cells : List AVal} [SliceT P t el] (hx : ev e x = .orow i s) (hi : h i = some (.arr s m cells)) (hcx : canonO x = true) :
    EvalOp P G n e h (.call { callee := .builtin .len, args := #[x], argTypes := #[t] }) ty (.v (.int .i64 m)) := fun a w st _ _ _ _ => by
  have h1 := st.rel x hcx
  rw [hx] at h1; simp only [Rel] at h1
  obtain ⟨ad, cap, h2, _⟩ := st.own i _ hi
  refine ⟨.int .i64 m, w, ?_, Same.refl w, by simp [Rel, c0]⟩
  simp [execOp, resolve, invoke, builtin, h1.1, h2, run_len (P := P) (t := t)]
theorem E_len_a {t el : Nat} {x : Operand} {i m : Nat} {s : Value} {cells : List AVal} [SliceT P t el] (hx : ev e x = .orow i s := by rfl) (hi : h i = some (.arr s m cells) := by rfl) (hcx : canonO x = true := by rfl) :
    EvalOp P G n e h (.call { callee := .builtin .len, args := #[x], argTypes := #[t] }) ty (.v (.int .i64 m)) := op_len_a hx hi hcx

/-- An own array, lent to be read. -/
theorem lend_arr {M : Nat → Prop} {i m : Nat} {s : Value} {cs cs' : List AVal} (hi : h i = some (.arr s m cs)) (hn : ∀ b, (Ent.arr s m cs).blk = some b → ¬ M b) (hl : LendL G h M cs cs') : Lend G h M (.orow i s) (.sl 0 m cs') := fun n e a w st _ _ x hr B C => by
  simp only [Rel] at hr ⊢
  obtain ⟨rfl, _⟩ := hr
  obtain ⟨ad, cap, h3, h4⟩ := st.own i _ hi
  refine ⟨ad, cap, h3, ?_⟩
  rcases h4 with ⟨h5, h6⟩ | ⟨b, off, cur, ty', hm0, hadr, hg, hle, hrel⟩
  · subst h6
    simp only [LendL] at hl
    exact .inl ⟨h5, hl⟩
  · subst hadr
    subst h3
    refine .inr ⟨b, off, rfl, (Array.getElem?_eq_some_iff.1 hg).1, hn b (by simp [Ent.blk, Value.ownBlock, hm0]), fun hf => (by cases hf), fun hf => (by cases hf), fun _ => ⟨_, _, hg⟩, ?_⟩
    refine relF_of_list (hl.rel st hrel 0 0) fun j hj => ?_
    have hlen : cs'.length = cs.length := by
      have h7 := relL_length (hl.rel st hrel 0 0)
      have h8 := relL_length hrel
      omega
    rw [cell_of_own hg, List.getElem?_take, if_pos (by omega), List.getElem?_drop]
    simp

theorem plain_fl (xs : List Nat) : ∀ u ∈ fl xs, plainA u = true := fun u hu => by
  simp only [fl, List.mem_map] at hu
  obtain ⟨x, _, rfl⟩ := hu
  rfl
theorem plain_il (xs : List Int) : ∀ u ∈ il xs, plainA u = true := fun u hu => by
  simp only [il, List.mem_map] at hu
  obtain ⟨x, _, rfl⟩ := hu
  rfl

theorem fresh_sl (m : Nat) (xs : List Nat) : Fresh2 (.sl 2 m (fl xs)) := ⟨rfl, plain_fl xs⟩
theorem fresh_pic (a b : Value) (m : Nat) (xs : List Nat) : Fresh2 (.agg [.v a, .v b, .sl 2 m (fl xs)]) := fun u hu => by
  simp only [List.mem_cons, List.not_mem_nil, or_false] at hu
  rcases hu with rfl | rfl | rfl
  · trivial
  · trivial
  · exact ⟨rfl, plain_fl xs⟩
theorem fresh_picT (a b c : Value) (m : Nat) (xs : List Nat) : Fresh2 (.tup [.agg [.v a, .v b, .sl 2 m (fl xs)], .v c]) := fun u hu => by
  simp only [List.mem_cons, List.not_mem_nil, or_false] at hu
  rcases hu with rfl | rfl
  · exact fresh_pic a b m xs
  · trivial
theorem fresh_curve (m k : Nat) (xs ys : List Nat) : Fresh2 (.agg [.sl 2 m (fl xs), .sl 2 k (fl ys)]) := fun u hu => by
  simp only [List.mem_cons, List.not_mem_nil, or_false] at hu
  rcases hu with rfl | rfl
  · exact ⟨rfl, plain_fl xs⟩
  · exact ⟨rfl, plain_fl ys⟩

/-! ### What a call hands back new is owned -/

theorem relF_tail {X : Nat → Prop} {B C : Nat} {w : World} {cs : List AVal} {b off ty' : Nat} {cur : Array Value} (hg : w.heap[b]? = some (.cells cur ty' (0, 0))) (hc : RelF X B C w cs (fun j => w.cell? ⟨b, off + j, none⟩)) (h0 : cs ≠ []) :
    off + cs.length ≤ cur.size ∧ RelL X B C w cs ((cur.toList.drop off).take cs.length) := by
  obtain ⟨xs, h1, h2⟩ := relF_list hc
  have hlen := relL_length h1
  have hpos : 0 < cs.length := List.length_pos_iff.2 h0
  have hsz : off + cs.length ≤ cur.size := by
    have h3 := h2 (cs.length - 1) (by omega)
    rw [cell_of_own hg] at h3
    have h4 : xs[cs.length - 1]? ≠ none := by simp; omega
    rw [h3] at h4
    have : off + (cs.length - 1) < cur.size := by
      rcases Nat.lt_or_ge (off + (cs.length - 1)) cur.size with h5 | h5
      · exact h5
      · exact absurd (Array.getElem?_eq_none h5) h4
    omega
  refine ⟨hsz, ?_⟩
  have : (cur.toList.drop off).take cs.length = xs := by
    apply List.ext_getElem?
    intro j
    by_cases hj : j < cs.length
    · rw [h2 j hj, cell_of_own hg, List.getElem?_take, if_pos hj, List.getElem?_drop]
      simp
    · rw [List.getElem?_eq_none (by simp; omega), List.getElem?_eq_none (by omega)]
  rw [this]; exact h1

theorem own_core {X : Nat → Prop} {B C : Nat} {w : World} {m : Nat} {cs : List AVal} {x : Value} (h : Rel X B C w (.sl 2 m cs) x) (hne : m = 0 ↔ cs = []) :
    EntOk X 0 0 w (.arr x m cs) ∧ (∀ b, (Ent.arr x m cs).blk = some b → C ≤ b ∧ ¬ X b) ∧ ∃ a l c, x = .slice a l c := by
  simp only [Rel] at h
  obtain ⟨a, cap, rfl, h1⟩ := h
  refine ⟨⟨a, cap, rfl, ?_⟩, ?_, _, _, _, rfl⟩
  · rcases h1 with h1 | ⟨b, off, rfl, hb, hx, _, _, hz, hc⟩
    · exact .inl h1
    · by_cases hm : m = 0
      · exact .inl ⟨hm, hne.1 hm⟩
      · obtain ⟨cur, ty', hg⟩ := hz (by decide)
        obtain ⟨h2, h3⟩ := relF_tail hg hc fun hcs => hm (hne.2 hcs)
        exact .inr ⟨b, off, cur, ty', hm, rfl, hg, h2, h3⟩
  · intro b hb
    by_cases hm : m = 0
    · simp [Ent.blk, hm] at hb
    · rcases h1 with h1 | ⟨b', off, rfl, hlt, hx, _, h2, _⟩
      · exact absurd h1.1 hm
      · simp [Ent.blk, hm, Value.ownBlock] at hb
        subst hb
        exact ⟨h2 trivial, hx⟩

theorem blks_nil (b : Nat) : ¬ blks [] b := fun ⟨_, h1, _⟩ => by cases h1
theorem blks_one {en : Ent} {b : Nat} (h : blks [en] b) : en.blk = some b := by
  obtain ⟨en', h1, h2⟩ := h
  simp only [List.mem_singleton] at h1; subst h1; exact h2

/-- A function's result is owned by the caller: 'sh' puts the slice where it lies in the result. -/
theorem CtM.own {P : Program} {f : FuncId} {ins : List AVal} {m : Nat} {cs : List AVal} (sh : AVal → AVal) (hc : Ct P f ins (· = sh (.sl 2 m cs))) (hne : m = 0 ↔ cs = []) (hp : ∀ u ∈ cs, plainA u = true)
    (hin : ∀ {X : Nat → Prop} {B C : Nat} {w : World} {x : Value}, Rel X B C w (sh (.sl 2 m cs)) x → ∃ y, Rel X B C w (.sl 2 m cs) y ∧ ∀ X' B' C', (∀ i a l c, y = .slice a l c → Rel X' B' C' w (sh (.orow i y)) x)) :
    CtM P f ins [] (fun out mu' => ∃ s, out = sh (.orow 900 s) ∧ mu' = [.arr s m cs]) := by
  intro w args Z B h1 h2 h3 h4
  refine (hc w args Z B h1 h2 h3 h4).mono ?_
  rintro en w' ⟨x, out, mu', rfl, ⟨rfl, rfl⟩, hm, haft, hrel⟩
  obtain ⟨y, hy1, hy2⟩ := hin hrel
  obtain ⟨k1, k2, a, l, c, hk3⟩ := own_core hy1 hne
  refine ⟨x, _, _, rfl, ⟨y, rfl, rfl⟩, hm, ?_, hy2 _ _ _ 900 a l c hk3⟩
  exact {
    ok := fun en hen => by
      simp only [List.mem_singleton] at hen; subst hen
      exact EntOk.plain hp k1
    new := fun b hb => by
      obtain ⟨k4, k5⟩ := k2 b (blks_one hb)
      exact ⟨fun hz => k5 (.inl hz), .inr k4⟩
    apart := fun i j en em b hi hj _ _ => by
      cases i with
      | zero => cases j with
        | zero => rfl
        | succ j => simp at hj
      | succ i => simp at hi }

/-- A call whose result is a picture (and more), owned at once. -/
theorem VL_callO {fo : Operand} {xs : List Operand} {ts : Array TypeId} {f : FuncId} {caps ins : List AVal} {m : Nat} {cs : List AVal} (sh : AVal → AVal)
    (hf : ev e fo = .fn f caps) [CallT P f] (hl : LendL G h (fun _ => False) (xs.map (ev e) ++ caps) ins) (hc : Ct P f ins (· = sh (.sl 2 m cs))) (hne : m = 0 ↔ cs = []) (hp : ∀ u ∈ cs, plainA u = true)
    (hin : ∀ {X : Nat → Prop} {B C : Nat} {w : World} {x : Value}, Rel X B C w (sh (.sl 2 m cs)) x → ∃ y, Rel X B C w (.sl 2 m cs) y ∧ ∀ X' B' C', (∀ i a l c, y = .slice a l c → Rel X' B' C' w (sh (.orow i y)) x))
    (hfr : ∀ s, Fresh2 (sh (.orow 900 s))) (hre : ∀ s, re2 [d] (sh (.orow 900 s)) = sh (.orow d s)) (hcan : xs.all canonO = true) (hcf : canonO fo = true) (hd : Nat.blt d n = true)
    (hk : ∀ s, VL P G n ops rest Q (upd e d (sh (.orow d s))) (upd h d (some (.arr s m cs)))) :
    VL P G n ops (⟨some d, .call { callee := .value fo, args := xs.toArray, argTypes := ts }, ty, pos, after, none⟩ :: rest) Q e h := by
  have hb : blks [] = fun _ => False := by funext b; exact propext ⟨fun ⟨en, h1, _⟩ => (by cases h1), fun hh => hh.elim⟩
  refine VL_callM (ix := [d]) (mu := []) hf (by rw [hb]; exact hl) (CtM.own sh hc hne hp hin) (muAt_nil (nodup_one d)) (fun en hen => by cases hen) ?_ hcan hcf hd ?_
  · rintro out mu' ⟨s, rfl, rfl⟩
    refine ⟨hfr s, fun en hen => ?_⟩
    simp only [List.mem_singleton] at hen; subst hen
    exact hp
  · rintro out mu' ⟨s, rfl, rfl⟩
    rw [hre]
    exact hk s

def shP (a b : Int) (u : AVal) : AVal := .agg [I64 a, I64 b, u]
def shPT (a b : Int) (us : List Value) (u : AVal) : AVal := .tup (.agg [I64 a, I64 b, u] :: us.map AVal.v)
def shT (us : List Value) (u : AVal) : AVal := .tup (u :: us.map AVal.v)
theorem relL_vs {X X' : Nat → Prop} {B B' C C' : Nat} {w : World} : ∀ {us : List Value} {xs : List Value}, RelL X B C w (us.map AVal.v) xs → RelL X' B' C' w (us.map AVal.v) xs := fun {us} {xs} h =>
  RelL.plain (fun u hu => by simp only [List.mem_map] at hu; obtain ⟨_, _, rfl⟩ := hu; rfl) h
theorem in_P {a b : Int} {m : Nat} {cs : List AVal} {X : Nat → Prop} {B C : Nat} {w : World} {x : Value} (h : Rel X B C w (shP a b (.sl 2 m cs)) x) :
    ∃ y, Rel X B C w (.sl 2 m cs) y ∧ ∀ X' B' C', (∀ i a' l c, y = .slice a' l c → Rel X' B' C' w (shP a b (.orow i y)) x) := by
  simp only [shP, Rel, RelL, I64] at h ⊢
  obtain ⟨arr, rfl, x1, r1, rfl, h1, x2, r2, rfl, h2, x3, r3, rfl, h3, rfl⟩ := h
  exact ⟨x3, h3, fun _ _ _ i a' l c hy => ⟨_, rfl, _, _, rfl, h1, _, _, rfl, h2, _, _, rfl, ⟨rfl, a', l, c, hy⟩, rfl⟩⟩
theorem in_PT {a b : Int} {us : List Value} {m : Nat} {cs : List AVal} {X : Nat → Prop} {B C : Nat} {w : World} {x : Value} (h : Rel X B C w (shPT a b us (.sl 2 m cs)) x) :
    ∃ y, Rel X B C w (.sl 2 m cs) y ∧ ∀ X' B' C', (∀ i a' l c, y = .slice a' l c → Rel X' B' C' w (shPT a b us (.orow i y)) x) := by
  simp only [shPT, Rel, RelL, I64] at h ⊢
  obtain ⟨arr, rfl, x0, r0, rfl, ⟨arr', rfl, x1, r1, rfl, h1, x2, r2, rfl, h2, x3, r3, rfl, h3, rfl⟩, hr⟩ := h
  exact ⟨x3, h3, fun _ _ _ i a' l c hy => ⟨_, rfl, _, _, rfl, ⟨_, rfl, _, _, rfl, h1, _, _, rfl, h2, _, _, rfl, ⟨rfl, a', l, c, hy⟩, rfl⟩, relL_vs hr⟩⟩
theorem in_T {us : List Value} {m : Nat} {cs : List AVal} {X : Nat → Prop} {B C : Nat} {w : World} {x : Value} (h : Rel X B C w (shT us (.sl 2 m cs)) x) :
    ∃ y, Rel X B C w (.sl 2 m cs) y ∧ ∀ X' B' C', (∀ i a' l c, y = .slice a' l c → Rel X' B' C' w (shT us (.orow i y)) x) := by
  simp only [shT, Rel, RelL] at h ⊢
  obtain ⟨arr, rfl, x3, r3, rfl, h3, hr⟩ := h
  exact ⟨x3, h3, fun _ _ _ i a' l c hy => ⟨_, rfl, _, _, rfl, ⟨rfl, a', l, c, hy⟩, relL_vs hr⟩⟩
theorem fresh_vs (us : List Value) : ∀ u ∈ us.map AVal.v, Fresh1 u := fun u hu => by
  simp only [List.mem_map] at hu
  obtain ⟨_, _, rfl⟩ := hu
  trivial
theorem re_vs (ix : List Nat) (us : List Value) : (us.map AVal.v).map (re1 ix) = us.map AVal.v := by
  rw [List.map_map]; rfl

theorem VL_callOP {fo : Operand} {xs : List Operand} {ts : Array TypeId} {f : FuncId} {caps ins : List AVal} {a b : Int} {m : Nat} {cs : List AVal}
    (hf : ev e fo = .fn f caps) [CallT P f] (hl : LendL G h (fun _ => False) (xs.map (ev e) ++ caps) ins) (hc : Ct P f ins (· = .agg [I64 a, I64 b, .sl 2 m cs])) (hne : m = cs.length) (hp : ∀ u ∈ cs, plainA u = true)
    (hcan : xs.all canonO = true) (hcf : canonO fo = true) (hd : Nat.blt d n = true)
    (hk : ∀ s, VL P G n ops rest Q (upd e d (.agg [I64 a, I64 b, .orow d s])) (upd h d (some (.arr s m cs)))) :
    VL P G n ops (⟨some d, .call { callee := .value fo, args := xs.toArray, argTypes := ts }, ty, pos, after, none⟩ :: rest) Q e h :=
  VL_callO (shP a b) hf hl hc (by rw [hne]; exact List.length_eq_zero_iff) hp in_P (fun s => by intro u hu; simp only [List.mem_cons, List.not_mem_nil, or_false] at hu; rcases hu with rfl | rfl | rfl <;> trivial) (fun s => rfl) hcan hcf hd hk
theorem VL_callOPT {fo : Operand} {xs : List Operand} {ts : Array TypeId} {f : FuncId} {caps ins : List AVal} {a b : Int} {us : List Value} {m : Nat} {cs : List AVal}
    (hf : ev e fo = .fn f caps) [CallT P f] (hl : LendL G h (fun _ => False) (xs.map (ev e) ++ caps) ins) (hc : Ct P f ins (· = .tup (.agg [I64 a, I64 b, .sl 2 m cs] :: us.map AVal.v))) (hne : m = cs.length) (hp : ∀ u ∈ cs, plainA u = true)
    (hcan : xs.all canonO = true) (hcf : canonO fo = true) (hd : Nat.blt d n = true)
    (hk : ∀ s, VL P G n ops rest Q (upd e d (.tup (.agg [I64 a, I64 b, .orow d s] :: us.map AVal.v))) (upd h d (some (.arr s m cs)))) :
    VL P G n ops (⟨some d, .call { callee := .value fo, args := xs.toArray, argTypes := ts }, ty, pos, after, none⟩ :: rest) Q e h :=
  VL_callO (shPT a b us) hf hl hc (by rw [hne]; exact List.length_eq_zero_iff) hp in_PT
    (fun s => by
      intro u hu
      simp only [List.mem_cons] at hu
      rcases hu with rfl | hu
      · intro v hv
        simp only [List.mem_cons, List.not_mem_nil, or_false] at hv
        rcases hv with rfl | rfl | rfl <;> trivial
      · exact fresh_vs us u hu)
    (fun s => by show AVal.tup (_ :: (us.map AVal.v).map (re1 [d])) = _; rw [re_vs]; rfl) hcan hcf hd hk
theorem VL_callOT {fo : Operand} {xs : List Operand} {ts : Array TypeId} {f : FuncId} {caps ins : List AVal} {us : List Value} {m : Nat} {cs : List AVal}
    (hf : ev e fo = .fn f caps) [CallT P f] (hl : LendL G h (fun _ => False) (xs.map (ev e) ++ caps) ins) (hc : Ct P f ins (· = .tup (.sl 2 m cs :: us.map AVal.v))) (hne : m = cs.length) (hp : ∀ u ∈ cs, plainA u = true)
    (hcan : xs.all canonO = true) (hcf : canonO fo = true) (hd : Nat.blt d n = true)
    (hk : ∀ s, VL P G n ops rest Q (upd e d (.tup (.orow d s :: us.map AVal.v))) (upd h d (some (.arr s m cs)))) :
    VL P G n ops (⟨some d, .call { callee := .value fo, args := xs.toArray, argTypes := ts }, ty, pos, after, none⟩ :: rest) Q e h :=
  VL_callO (shT us) hf hl hc (by rw [hne]; exact List.length_eq_zero_iff) hp in_T
    (fun s => by
      intro u hu
      simp only [List.mem_cons] at hu
      rcases hu with rfl | hu
      · trivial
      · exact fresh_vs us u hu)
    (fun s => by show AVal.tup (_ :: (us.map AVal.v).map (re1 [d])) = _; rw [re_vs]; rfl) hcan hcf hd hk
theorem VL_callOS {fo : Operand} {xs : List Operand} {ts : Array TypeId} {f : FuncId} {caps ins : List AVal} {m : Nat} {cs : List AVal}
    (hf : ev e fo = .fn f caps) [CallT P f] (hl : LendL G h (fun _ => False) (xs.map (ev e) ++ caps) ins) (hc : Ct P f ins (· = .sl 2 m cs)) (hne : m = cs.length) (hp : ∀ u ∈ cs, plainA u = true)
    (hcan : xs.all canonO = true) (hcf : canonO fo = true) (hd : Nat.blt d n = true)
    (hk : ∀ s, VL P G n ops rest Q (upd e d (.orow d s)) (upd h d (some (.arr s m cs)))) :
    VL P G n ops (⟨some d, .call { callee := .value fo, args := xs.toArray, argTypes := ts }, ty, pos, after, none⟩ :: rest) Q e h :=
  VL_callO id hf hl hc (by rw [hne]; exact List.length_eq_zero_iff) hp (fun {X B C w x} h => ⟨x, h, fun _ _ _ i a l c hx => by simp only [id, Rel]; exact ⟨trivial, a, l, c, hx⟩⟩) (fun s => trivial) (fun s => rfl) hcan hcf hd hk

/-- A call that writes one own array. -/
theorem VL_callW {fo : Operand} {xs : List Operand} {ts : Array TypeId} {f : FuncId} {caps ins : List AVal} {q m : Nat} {s : Value} {cs cs' : List AVal} {out : AVal}
    (hf : ev e fo = .fn f caps) [CallT P f] (hq : h q = some (.arr s m cs)) (hl : LendL G h (blks [.arr s m cs]) (xs.map (ev e) ++ caps) ins) (hc : CtM P f ins [.arr s m cs] (fun o mu' => o = out ∧ mu' = [.arr s m cs'])) (hp : ∀ u ∈ cs, plainA u = true) (hp' : ∀ u ∈ cs', plainA u = true)
    (hfr : Fresh2 out) (hcan : xs.all canonO = true) (hcf : canonO fo = true) (hd : Nat.blt d n = true)
    (hk : VL P G n ops rest Q (upd e d (re2 [q] out)) (upd h q (some (.arr s m cs')))) :
    VL P G n ops (⟨some d, .call { callee := .value fo, args := xs.toArray, argTypes := ts }, ty, pos, after, none⟩ :: rest) Q e h := by
  refine VL_callM (ix := [q]) (mu := [.arr s m cs]) hf hl hc ⟨fun k en hk => ?_, nodup_one q⟩ (fun en hen => by simp only [List.mem_singleton] at hen; subst hen; exact hp) ?_ hcan hcf hd ?_
  · cases k with
    | zero => simp at hk; subst hk; exact ⟨q, rfl, hq⟩
    | succ k => simp at hk
  · rintro o mu' ⟨rfl, rfl⟩
    exact ⟨hfr, fun en hen => by simp only [List.mem_singleton] at hen; subst hen; exact hp'⟩
  · rintro o mu' ⟨rfl, rfl⟩
    exact hk
end
end Go.Av
/-
Regions that draw their order, and end by writing: one address may be reckoned early or late, all else comes in the text's order or any that serves as well, and the last operations come in one order.
-/
namespace Go.Av
open Go.RowKit

section
variable {P : Program} {G : Glob} {n : Nat} {h : Hp} {ops : Array Oper} {md : Region.Mode} {K : Env → Prop} {L : Array Bool}

def AnyB (P : Program) (G : Glob) (n : Nat) (h : Hp) (md : Region.Mode) (ops : Array Oper) (L : Array Bool) (K : Env → Prop) : Nat → Array Bool → Env → Prop
  | 0, listed, e => listed = L ∧ K e
  | fuel + 1, listed, e => Region.ready md ops listed ≠ [] ∧ ∀ i ∈ Region.ready md ops listed, qAi P G n h ops i (AnyB P G n h md ops L K fuel (listed.setIfInBounds i true)) e

theorem wpAny_of_B {Q' : Exit → Act → World → Prop} {g : Nat} (hK : ∀ a w e, St G n e h a w → K e → wpAny P md ops Q' g L a w) : ∀ (fuel : Nat) (listed : Array Bool) (e : Env) (a : Act) (w : World),
    AnyB P G n h md ops L K fuel listed e → St G n e h a w → wpAny P md ops Q' (fuel + g) listed a w
  | 0, _, _, a, w, ha, st => by
    obtain ⟨h1, h2⟩ := ha
    rw [Nat.zero_add, h1]; exact hK a w _ st h2
  | fuel + 1, listed, e, a, w, ha, st => by
    rw [show fuel + 1 + g = (fuel + g) + 1 by omega]
    refine ⟨fun h0 => absurd h0 ha.1, fun i hi => ?_⟩
    obtain ⟨o, ho, d, hd, hdn, hq⟩ := ha.2 i hi
    unfold wpOp
    simp only [ho]
    rcases hq with ⟨hwa, u, hev, hn⟩ | ⟨hwa, hn⟩
    · rw [if_pos (wanted_of st hwa)]
      refine .inl (hev.wp st fun x w' hm hx => ?_)
      refine wpAny_of_B hK fuel _ _ _ _ hn ?_
      rw [hd]
      exact St.put (st.ext hm) d hdn u x hx
    · rw [if_neg (by rw [wanted_of st hwa]; simp)]
      rw [hd]
      exact wpAny_of_B hK fuel _ _ _ _ hn (st.put d hdn _ _ (by simp [Rel, c0, undef]))

def Closed (md : Region.Mode) (ops : Array Oper) (listed : Array Bool) : Prop :=
  ∀ j oj, ops[j]? = some oj → listed.getD j false = true → ∀ ed ∈ oj.after, Region.binds md ed = true → listed.getD ed.on false = true
theorem Closed.set {listed : Array Bool} {i : Nat} (hc : Closed md ops listed) (hi : i ∈ Region.ready md ops listed) : Closed md ops (listed.setIfInBounds i true) := by
  intro j oj hj hl ed hed hb
  obtain ⟨_, o, ho, hall⟩ := mem_ready.1 hi
  by_cases hij : i = j
  · subst hij
    obtain rfl : o = oj := by rw [hj] at ho; exact (Option.some.inj ho).symm
    exact getD_set_true (hall ed hed hb)
  · rw [getD_set_ne false hij] at hl
    exact getD_set_true (hc j oj hj hl ed hed hb)

/-- Before the last one of them is listed nothing else is ready. -/
def lastB (md : Region.Mode) (ops : Array Oper) (L : Array Bool) (ord : List Nat) : Bool :=
  ord.all fun i => ((List.range ops.size).any fun j => (j != i) && L.getD j false && ((ops[j]?).map fun o => o.after.any fun ed => Region.binds md ed && ed.on == i).getD false) || Region.ready md ops (L.setIfInBounds i false) == [i]

theorem set_back {listed : Array Bool} {i : Nat} (h : listed.getD i true = false) : (listed.setIfInBounds i true).setIfInBounds i false = listed := by
  apply Array.ext_getElem?
  intro j
  by_cases hij : i = j
  · subst hij
    have hlt : i < listed.size := by
      rcases Nat.lt_or_ge i listed.size with h' | h'
      · exact h'
      · simp [Array.getElem?_eq_none h'] at h
    simp [hlt] at h
    simp [hlt, h]
  · rw [Array.getElem?_setIfInBounds_ne hij, Array.getElem?_setIfInBounds_ne hij]

theorem last_only {i j : Nat} {listed : Array Bool} {ord : List Nat} (hL : lastB md ops L ord = true) (hio : i ∈ ord) (hc : Closed md ops listed) (hset : listed.setIfInBounds i true = L)
    (hi : i ∈ Region.ready md ops listed) (hj : j ∈ Region.ready md ops listed) : j = i := by
  have hun := (mem_ready.1 hi).1
  have h1 := List.all_eq_true.1 hL i hio
  simp only [Bool.or_eq_true, beq_iff_eq] at h1
  rcases h1 with h1 | h1
  · exfalso
    obtain ⟨k, _, hk⟩ := List.any_eq_true.1 h1
    simp only [Bool.and_eq_true, bne_iff_ne, ne_eq] at hk
    obtain ⟨⟨hki, hkL⟩, hke⟩ := hk
    cases hok : ops[k]? with
    | none => simp [hok] at hke
    | some o =>
      simp only [hok, Option.map_some, Option.getD_some] at hke
      obtain ⟨ed, hed, hb⟩ := Array.any_eq_true'.1 hke
      simp only [Bool.and_eq_true, beq_iff_eq] at hb
      rw [← hset, getD_set_ne false (Ne.symm hki)] at hkL
      have := hc k o hok hkL ed hed hb.1
      rw [hb.2] at this
      rcases Nat.lt_or_ge i listed.size with h' | h'
      · simp [h'] at hun this; rw [hun] at this; cases this
      · simp [Array.getElem?_eq_none h'] at hun
  · rw [← hset, set_back hun] at h1
    rw [h1] at hj
    simpa using hj

theorem anyB_first {i : Nat} {oi : Oper} {ui : AVal} {di : Nat} {ord : List Nat} (hL : lastB md ops L ord = true) (hio : i ∈ ord) (hi : ops[i]? = some oi) (hdi : oi.dst = some di) (hdn : di < n) (hsel : ∀ (j : Nat) (o : Oper) cs b, ops[j]? = some o → o.op ≠ .select cs b)
    (hdst : ∀ (j k : Nat) (oj ok : Oper) d, ops[j]? = some oj → ops[k]? = some ok → oj.dst = some d → ok.dst = some d → j = k) :
    ∀ (fuel : Nat) (listed : Array Bool) (e : Env), Closed md ops listed →
      (∀ j oj d, ops[j]? = some oj → listed.getD j true = false → oj.dst = some d → e d = .any) →
      (∀ j oj, ops[j]? = some oj → j ≠ i → listed.getD j true = false → (∀ ed ∈ oj.after, Region.binds md ed = true → ed.on ≠ i) → oi.apart ops oj = true) →
      i ∈ Region.ready md ops listed → YA P G n h ops oi ui e →
      AnyB P G n h md ops L K fuel (listed.setIfInBounds i true) (upd e di ui) → AnyB P G n h md ops L K (fuel + 1) listed e := by
  intro fuel
  have here : ∀ (fuel : Nat) (listed : Array Bool) (e : Env), YA P G n h ops oi ui e → AnyB P G n h md ops L K fuel (listed.setIfInBounds i true) (upd e di ui) → qAi P G n h ops i (AnyB P G n h md ops L K fuel (listed.setIfInBounds i true)) e := by
    intro fuel listed e hy H
    rcases hy with ⟨h1, h2, _⟩ | ⟨h1, rfl⟩
    · exact ⟨oi, hi, di, hdi, hdn, .inl ⟨h1, ui, h2, H⟩⟩
    · exact ⟨oi, hi, di, hdi, hdn, .inr ⟨h1, H⟩⟩
  induction fuel with
  | zero =>
    intro listed e hcl _ _ hr hy H
    refine ⟨fun h => (by rw [h] at hr; cases hr), fun j hj => ?_⟩
    have := last_only hL hio hcl H.1 hr hj
    subst this
    exact here 0 listed e hy H
  | succ fuel ih =>
    intro listed e hcl hany hfree hr hy H
    refine ⟨fun h => (by rw [h] at hr; cases hr), fun j hj => ?_⟩
    by_cases hji : j = i
    · subst hji; exact here _ listed e hy H
    · obtain ⟨oj, hoj, dj, hdj, hdjn, hq⟩ := H.2 j (ready_mono hj hji)
      obtain ⟨hjun, oj', hoj', hall⟩ := mem_ready.1 hj
      obtain rfl : oj' = oj := by rw [hoj] at hoj'; exact (Option.some.inj hoj').symm
      have hnot : ∀ ed ∈ oj'.after, Region.binds md ed = true → ed.on ≠ i := fun ed he hb heq => by
        have h1 := hall ed he hb
        have h0 := (mem_ready.1 hr).1
        rw [heq] at h1
        rcases Nat.lt_or_ge i listed.size with h' | h'
        · simp [h'] at h0 h1; rw [h0] at h1; cases h1
        · simp [Array.getElem?_eq_none h'] at h1
      have hap := hfree j oj' hoj hji hjun hnot
      obtain ⟨a1, a2, a3⟩ := Oper.apart_spec hap
      have hne : di ≠ dj := fun hh => a2 di hdi (by rw [hdj, hh])
      have hanyj : e dj = .any := hany j oj' dj hoj hjun hdj
      have hle : ∀ uj, EnvLe (upd e dj uj) e := fun uj t => by
        by_cases ht : t = dj
        · subst ht; rw [hanyj]; exact ALe.any _
        · rw [upd_other _ _ _ ht]; exact ALe.rfl' rfl
      have hyj : ∀ uj, YA P G n h ops oi ui (upd e dj uj) := fun uj => by
        rcases hy with ⟨h1, h2, h3⟩ | ⟨h1, h2⟩
        · exact .inl ⟨h1.other' (a3 dj hdj), h2.anti (hle uj), h3.anti (hle uj)⟩
        · exact .inr ⟨h1.other' (a3 dj hdj), h2⟩
      have hfree' : ∀ k ok, ops[k]? = some ok → k ≠ i → (listed.setIfInBounds j true).getD k true = false →
          (∀ ed ∈ ok.after, Region.binds md ed = true → ed.on ≠ i) → oi.apart ops ok = true := fun k ok hk hki hun hno => by
        refine hfree k ok hk hki ?_ hno
        by_cases hjk : j = k
        · subst hjk; exact hjun
        · rw [getD_set_ne true hjk] at hun; exact hun
      have hnext : ∀ uj, AnyB P G n h md ops L K fuel ((listed.setIfInBounds i true).setIfInBounds j true) (upd (upd e di ui) dj uj) → AnyB P G n h md ops L K (fuel + 1) (listed.setIfInBounds j true) (upd e dj uj) := fun uj hn => by
        refine ih (listed.setIfInBounds j true) (upd e dj uj) (hcl.set hj) ?_ hfree' (ready_mono hr (Ne.symm hji)) (hyj uj) ?_
        · intro k ok d hk hun hd
          by_cases hkj : j = k
          · subst hkj
            exfalso
            have hlt : j < listed.size := by
              rcases Nat.lt_or_ge j listed.size with h' | h'
              · exact h'
              · simp [Array.getElem?_eq_none h'] at hjun
            simp [hlt] at hun
          · rw [getD_set_ne true hkj] at hun
            by_cases hdd : d = dj
            · subst hdd
              exact absurd (hdst j k oj' ok d hoj hk hdj hd) hkj
            · rw [upd_other _ _ _ hdd]; exact hany k ok d hk hun hd
        · rw [Array.setIfInBounds_comm _ _ hji]
          rw [upd_comm _ _ _ (Ne.symm hne)]
          exact hn
      refine ⟨oj', hoj, dj, hdj, hdjn, ?_⟩
      rcases hq with ⟨hwa, uj, hev, hn⟩ | ⟨hwa, hn⟩
      · exact .inl ⟨hwa.other (a1 di hdi), uj, EvQ.swap hdi hdn hap (fun cs b => hsel j oj' cs b hoj) hy.exists hev, hnext uj hn⟩
      · exact .inr ⟨hwa.other (a1 di hdi), hnext _ hn⟩

/-- The walk in the text's order, with what is listed kept. -/
def qT (P : Program) (G : Glob) (n : Nat) (h : Hp) (ops : Array Oper) (o : Oper) (solo : Bool) (K : Env → Prop) (e : Env) : Prop :=
  ∃ d, o.dst = some d ∧ d < n ∧ ((Wanted ops e o true ∧ ∃ u, EvQ P G n h o u e ∧ (ExU G n h u e ∨ solo = true) ∧ K (upd e d u)) ∨ (Wanted ops e o false ∧ K (upd e d (.v undef))))
def soloAt (md : Region.Mode) (ops : Array Oper) (listed : Array Bool) (k : Nat) : Bool := Region.ready md ops listed == [k]
def preB (md : Region.Mode) (ops : Array Oper) (L : Array Bool) : Nat → Nat → Array Bool → Bool
  | 0, _, listed => listed == L
  | f + 1, k, listed => (Region.ready md ops listed).contains k && Region.free md ops listed k && preB md ops L f (k + 1) (listed.setIfInBounds k true)
def VT (P : Program) (G : Glob) (n : Nat) (h : Hp) (ops : Array Oper) (K : Env → Prop) : List Oper → Nat → Array Bool → Env → Prop
  | [], _, _, e => K e
  | o :: rest, k, listed, e => qT P G n h ops o (soloAt .any ops listed k) (VT P G n h ops K rest (k + 1) (listed.setIfInBounds k true)) e

theorem anyB_lex {ord : List Nat} (hL : lastB .any ops L ord = true) (hs : Region.noSelect ops = true) (hdst : ∀ (j k : Nat) (oj ok : Oper) d, ops[j]? = some oj → ops[k]? = some ok → oj.dst = some d → ok.dst = some d → j = k) :
    ∀ (l : List Oper) (k : Nat) (listed : Array Bool) (e : Env), Closed .any ops listed → (∀ j o, l[j]? = some o → ops[k + j]? = some o) → (∀ j, j < l.length → k + j ∈ ord) → (∀ j oj d, ops[j]? = some oj → listed.getD j true = false → oj.dst = some d → e d = .any) →
      preB .any ops L l.length k listed = true → VT P G n h ops K l k listed e → AnyB P G n h .any ops L K l.length listed e
  | [], _, _, _, _, _, _, _, hB, hv => ⟨by simpa [preB] using hB, hv⟩
  | o :: l, k, listed, e, hcl, hl, hord, hany, hB, hv => by
    have h0 : ops[k]? = some o := by simpa using hl 0 o rfl
    simp only [List.length_cons, preB, Bool.and_eq_true] at hB
    obtain ⟨⟨hr, hf⟩, hB'⟩ := hB
    have hr' : k ∈ Region.ready .any ops listed := by simpa using hr
    obtain ⟨d, hd, hdn, hq⟩ := hv
    have hk1 := mem_ready.1 hr'
    have hany' : ∀ u, ∀ j oj d', ops[j]? = some oj → (listed.setIfInBounds k true).getD j true = false → oj.dst = some d' → upd e d u d' = .any := by
      intro u j oj d' hj hun hd'
      by_cases hkj : k = j
      · subst hkj
        exfalso
        have hlt : k < listed.size := by
          rcases Nat.lt_or_ge k listed.size with h' | h'
          · exact h'
          · have := hk1.1; simp [Array.getElem?_eq_none h'] at this
        simp [hlt] at hun
      · rw [getD_set_ne true hkj] at hun
        by_cases hdd : d' = d
        · subst hdd; exact absurd (hdst k j o oj d' h0 hj hd hd') hkj
        · rw [upd_other _ _ _ hdd]; exact hany j oj d' hj hun hd'
    have hl' : ∀ j o', l[j]? = some o' → ops[k + 1 + j]? = some o' := fun j o' hj => by have := hl (j + 1) o' (by simpa using hj); simpa [Nat.add_assoc, Nat.add_comm 1 j] using this
    have hord' : ∀ j, j < l.length → k + 1 + j ∈ ord := fun j hj => by have := hord (j + 1) (by simpa using hj); simpa [Nat.add_assoc, Nat.add_comm 1 j] using this
    have hko : k ∈ ord := by simpa using hord 0 (by simp)
    rcases hq with ⟨hwa, u, hev, hex | hso, hn⟩ | ⟨hwa, hn⟩
    · exact anyB_first hL hko h0 hd hdn (Region.noSelect_spec hs) hdst l.length listed e hcl hany (Region.free_spec h0 hf) hr' (.inl ⟨hwa, hev, hex⟩)
        (anyB_lex hL hs hdst l (k + 1) _ _ (hcl.set hr') hl' hord' (hany' u) hB' hn)
    · have hsr : Region.ready .any ops listed = [k] := by
        unfold soloAt at hso
        simpa using hso
      refine ⟨fun hnil => (by rw [hsr] at hnil; cases hnil), fun i hi => ?_⟩
      rw [hsr] at hi
      simp only [List.mem_singleton] at hi
      subst hi
      exact ⟨o, h0, d, hd, hdn, .inl ⟨hwa, u, hev, anyB_lex hL hs hdst l (i + 1) _ _ (hcl.set hr') hl' hord' (hany' u) hB' hn⟩⟩
    · exact anyB_first hL hko h0 hd hdn (Region.noSelect_spec hs) hdst l.length listed e hcl hany (Region.free_spec h0 hf) hr' (.inr ⟨hwa, rfl⟩)
        (anyB_lex hL hs hdst l (k + 1) _ _ (hcl.set hr') hl' hord' (hany' _) hB' hn)

/-- No panic goes on behind. -/
class NoPanic (Q : Post) : Prop where
  no : ∀ c e h, ¬ Q (.panic c) e h
instance {P : Program} {rs : Array ResultVar} {post : AVal → List Ent → Prop} : NoPanic (fin P rs post) := ⟨fun c e h hq => by rcases hq.1 with h1 | h1 <;> cases h1⟩
instance {next : Env → Hp → Prop} {Q : Post} [hn : NoPanic Q] : NoPanic (sq next Q) := ⟨fun c e h hq => hn.no c e h hq⟩
instance {id : Nat} {Q : Post} [hn : NoPanic Q] : NoPanic (blk id Q) := ⟨fun c e h hq => hn.no c e h hq⟩
instance {σ : Type} {L : σ → Env} {H : σ → Hp} {I : σ → Prop} {μ : σ → Nat} {x : σ} {Q : Post} [hn : NoPanic Q] : NoPanic (again L H I μ x Q) := ⟨fun c e h hq => hn.no c e h hq⟩

/-- The last operations come in one order. -/
def seqT (md : Region.Mode) (ops : Array Oper) : List Nat → Array Bool → Bool
  | [], listed => (Region.ready md ops listed).isEmpty
  | i :: tl, listed => (Region.ready md ops listed == [i]) && seqT md ops tl (listed.setIfInBounds i true)
theorem wpAny_of_seqT {Q' : Exit → Act → World → Prop} : ∀ (tl : List Nat) (l : List Oper) (listed : Array Bool) (a : Act) (w : World), tl.map (ops[·]?) = l.map some →
    seqT md ops tl listed = true → wpList P ops Q' l a w → wpAny P md ops Q' tl.length listed a w
  | [], l, _, _, _, hl, hB, h => by
    have : l = [] := by cases l <;> simp at hl ⊢
    subst this
    exact ⟨by simpa [seqT] using hB, h⟩
  | i :: tl, l, listed, a, w, hl, hB, h => by
    cases l with
    | nil => simp at hl
    | cons o l =>
      simp only [List.map_cons, List.cons.injEq] at hl
      simp only [seqT, Bool.and_eq_true, beq_iff_eq] at hB
      refine ⟨fun h1 => (by rw [hB.1] at h1; cases h1), fun j hj => ?_⟩
      rw [hB.1] at hj
      simp only [List.mem_singleton] at hj
      subst hj
      have hw : wpOp P ops Q' j (wpList P ops Q' l) a w := by unfold wpOp; simp only [hl.1]; exact h
      exact wpOp_mono (fun a' w' h' => wpAny_of_seqT tl l _ a' w' hl.2 hB.2 h') hw

/-- An operation that looks at no memory. -/
def Inert (P : Program) (G : Glob) (n : Nat) (h : Hp) (o : Oper) (u : AVal) (e : Env) : Prop :=
  o.guard = none ∧ ∀ a w, St G n e h a w → ∃ v, (∀ w', (execOp a.eval o).run P w' = .ok (.value v) w') ∧ Rel (Xs G h) G.B G.w0.heap.size w u v

def dstAp (ops : Array Oper) : Bool := (List.range ops.size).all fun j => (List.range ops.size).all fun k => j == k || match (ops[j]?).bind (·.dst), (ops[k]?).bind (·.dst) with | some a, some b => a != b | _, _ => true
theorem dstAp_spec (h : dstAp ops = true) : ∀ (j k : Nat) (oj ok : Oper) d, ops[j]? = some oj → ops[k]? = some ok → oj.dst = some d → ok.dst = some d → j = k := by
  intro j k oj ok d hj hk hdj hdk
  simp only [dstAp, List.all_eq_true, List.mem_range] at h
  have h1 := h j (Array.getElem?_eq_some_iff.1 hj).1 k (Array.getElem?_eq_some_iff.1 hk).1
  simpa [hj, hk, hdj, hdk] using h1

def headB (ops : Array Oper) (m len : Nat) (tl : List Nat) : Bool :=
  let l0 := (Array.replicate ops.size false).setIfInBounds m true
  let L := (List.range len).foldl (fun a i => a.setIfInBounds i true) l0
  Region.noSelect ops && dstAp ops && ((ops[m]?).map (·.after.isEmpty)).getD false && Region.free .any ops (Array.replicate ops.size false) m && (Region.ready .any ops (Array.replicate ops.size false)).contains m &&
  preB .any ops L len 0 l0 && lastB .any ops L (List.range len) && seqT .any ops tl L && (len + tl.length + 1 == ops.size)

theorem V_drawT {id : Nat} {Q : Post} [hnp : NoPanic Q] {e : Env} {l hd tlo : List Oper} {om : Oper} {dm : Nat} {um : AVal} (m len : Nat) (tl : List Nat) (hm : P.follows .mixedOrders = true) (hB : headB l.toArray m len tl = true)
    (hom : l[m]? = some om) (hdm : om.dst = some dm) (hdn : Nat.blt dm n = true) (hin : Inert P G n h om um (clearD l e)) (hhd : l.take len = hd) (htl : tl.map (l.toArray[·]?) = tlo.map some)
    (hv : VT P G n h l.toArray (fun e' => VL P G n l.toArray tlo Q e' h) hd 0 ((Array.replicate l.toArray.size false).setIfInBounds m true) (upd (clearD l e) dm um)) : V P G n (.region id l.toArray true) Q e h := fun a w st => by
  simp only [headB, Bool.and_eq_true, beq_iff_eq] at hB
  obtain ⟨⟨⟨⟨⟨⟨⟨⟨hsel, hdst⟩, haft⟩, hfree⟩, hready⟩, hpre⟩, hlast⟩, hseq⟩, hsz⟩ := hB
  refine wp_region_any hm ?_
  have st0 : St G n (clearD l e) h a { w with drawn := w.drawn + 1 } := (st.same (Same.drew w)).weaken (fun t => by
    unfold clearD
    cases hc : (l.filterMap (·.dst)).contains t
    · exact ALe.rfl' rfl
    · exact ALe.any _) (HpLe.refl h)
  have hom' : l.toArray[m]? = some om := by simpa using hom
  obtain ⟨hg, hin⟩ := hin
  obtain ⟨v, hv1, hv2⟩ := hin a _ st0
  rw [show l.toArray.size = (len + tl.length) + 1 by omega]
  rw [show l.toArray.size = (len + tl.length) + 1 by omega] at hfree hready
  refine wpAny_take hom' hsel hfree hready (fun c a w hq => ?_) (.inl ⟨by simp [Region.wanted, hg], hv1⟩) ?_
  · obtain ⟨e', h', _, hq⟩ := hq
    exact absurd hq (hnp.no c e' h')
  rw [hdm]
  have st1 := st0.put dm (by simpa using hdn) um v hv2
  have hlen : hd.length = len := by rw [← hhd, List.length_take]; simp at hsz; omega
  have hB1 : AnyB P G n h .any l.toArray ((List.range len).foldl (fun a i => a.setIfInBounds i true) ((Array.replicate l.toArray.size false).setIfInBounds m true)) (fun e' => VL P G n l.toArray tlo Q e' h) hd.length ((Array.replicate l.toArray.size false).setIfInBounds m true) (upd (clearD l e) dm um) := by
    refine anyB_lex (ord := List.range len) hlast hsel (dstAp_spec hdst) hd 0 _ _ ?_ ?_ ?_ ?_ (by rw [hlen]; exact hpre) hv
    · intro j oj hj hl ed hed hb
      by_cases hmj : m = j
      · subst hmj
        obtain rfl : om = oj := by rw [hom'] at hj; exact Option.some.inj hj
        rw [hom'] at haft
        simp only [Option.map_some, Option.getD_some, Array.isEmpty_iff] at haft
        rw [haft] at hed
        simp at hed
      · rw [getD_set_ne false hmj, Array.getD_eq_getD_getElem?, Array.getElem?_replicate] at hl
        split at hl <;> cases hl
    · intro j o hj
      rw [← hhd, List.getElem?_take] at hj
      split at hj
      · simpa using hj
      · cases hj
    · intro j hj
      rw [hlen] at hj
      simpa using hj
    · intro j oj d hj hun hd
      by_cases hmj : m = j
      · subst hmj
        have : m < l.toArray.size := (Array.getElem?_eq_some_iff.1 hom').1
        simp at this
        simp [this] at hun
      · have hne : d ≠ dm := fun hh => by
          subst hh
          exact hmj (dstAp_spec hdst m j om oj d hom' hj hdm hd)
        rw [upd_other _ _ _ hne]
        unfold clearD
        have : (l.filterMap (·.dst)).contains d = true := by
          simp only [List.contains_iff_mem, List.mem_filterMap]
          exact ⟨oj, List.mem_of_getElem? (by simpa using hj), hd⟩
        rw [this]; rfl
  rw [hlen] at hB1
  have hrep : (Array.replicate (len + tl.length + 1) false) = (Array.replicate l.toArray.size false) := by rw [show l.toArray.size = (len + tl.length) + 1 by omega]
  rw [hrep]
  refine wpAny_of_B (K := fun e' => VL P G n l.toArray tlo Q e' h) (g := tl.length) ?_ len _ _ _ _ hB1 st1
  intro a' w' e' st' hvl
  exact wpAny_of_seqT tl tlo _ _ _ htl hseq (hvl a' w' st')

/-- The form that 'x.f = append(x.f, ..)' has. -/
theorem V_drawA {id : Nat} {Q : Post} [NoPanic Q] {e : Env} {l hd : List Oper} {om o1 o2 : Oper} {dm : Nat} {um : AVal} (m len k1 k2 : Nat) (hm : P.follows .mixedOrders = true) (hB : headB l.toArray m len [k1, k2] = true)
    (hom : l[m]? = some om) (hdm : om.dst = some dm) (hdn : Nat.blt dm n = true) (hin : Inert P G n h om um (clearD l e)) (hhd : l.take len = hd) (h1 : l[k1]? = some o1) (h2 : l[k2]? = some o2)
    (hv : VT P G n h l.toArray (fun e' => VL P G n l.toArray [o1, o2] Q e' h) hd 0 ((Array.replicate l.toArray.size false).setIfInBounds m true) (upd (clearD l e) dm um)) : V P G n (.region id l.toArray true) Q e h :=
  V_drawT m len [k1, k2] hm hB hom hdm hdn hin hhd (by simp [h1, h2]) hv

theorem inert_field_o {e : Env} {s k off d : Nat} {x : Operand} {i b o : Nat} {ty : TypeId} {pos : String} {after : Array Edge} [FieldT P s k off] (hx : ev e x = .own i b o) (hcx : canonO x = true) : Inert P G n h ⟨some d, .fieldAddr s x k, ty, pos, after, none⟩ (.own i b (o + off)) e :=
  ⟨rfl, fun a w st => by
    have h1 := st.rel x hcx
    rw [hx] at h1; simp only [Rel] at h1
    refine ⟨.pointer (some ⟨b, o + off, none⟩), fun w' => ?_, by simp only [Rel]⟩
    simp only [execOp, h1, run_fieldAt, Sem.run_bind, Result.andThen_ok, Sem.run_pure]⟩

theorem evQ_lit {e : Env} {t el bytes d : Nat} {z : Value} {xs : List Operand} {us : List AVal} {m : Nat} {ty : TypeId} {pos : String} {after : Array Edge} {gd : Option (Nat × Bool)} [hs : SliceT P t el] [hel : ElemT P el 1 bytes z] (hz1 : z.oneCell' = true) (hm : xs.length = m) (hm0 : Nat.ble m 16777216 = true) (hus : xs.map (ev e) = us) (hu : us.all cellA = true) (hc : xs.all canonO = true) :
    EvQ P G n h ⟨some d, .buildSlice t m (lits xs 0).toArray, ty, pos, after, gd⟩ (.sl 2 m us) e := fun a w st => by
  obtain ⟨i, hi1, hi2, hi3, hi4⟩ := hel.ok
  have hrel := st.relArgs hc
  have hone : ∀ x ∈ xs, (a.eval x).oneCell' = true := by
    intro x hx
    have h1 := st.rel x (List.all_eq_true.1 hc x hx)
    have h2 : cellA (ev e x) = true := List.all_eq_true.1 hu _ (by rw [← hus]; exact List.mem_map_of_mem hx)
    exact cellA_one h2 h1
  have hzc : z.cells = #[z] := one_cells hz1
  have hzero : ((Array.range (m * 1)).map (z.cells[· % z.cells.size]!)) = (List.replicate m z).toArray := by
    rw [hzc]
    apply Array.ext
    · simp
    · intro k hk1 hk2
      simp [Nat.mod_one]
  have hfill := fill_lits a.eval xs 0 [] (List.replicate m z) rfl (by simp [hm]) hone
  simp only [List.nil_append] at hfill
  have hlits : ((lits xs 0).toArray.map fun p => (p.1, a.eval p.2)).toList = (lits xs 0).map fun p => (p.1, a.eval p.2) := by simp
  have hr : (execOp a.eval ⟨some d, .buildSlice t m (lits xs 0).toArray, ty, pos, after, gd⟩).run P w = .ok (.value (.slice (some ⟨w.heap.size, 0, none⟩) m m)) (w.alloc (.cells (xs.map a.eval).toArray el)) := by
    have hlt : ¬ (m * 1 > 2 ^ 24) := by have : m ≤ 16777216 := by simpa using hm0
                                        omega
    by_cases hm1 : m * 1 = 0
    · have hx0 : xs = [] := List.eq_nil_of_length_eq_zero (by omega)
      subst hx0
      have hm2 : m = 0 := by omega
      subst hm2
      simp [execOp, Instr.buildSlice, run_underlying hs.ok, sizeOf, typeInfo, hi1, Instr.fill, newRow, Array.range_zero', lits]
    · simp only [execOp, Instr.buildSlice, run_underlying hs.ok, Sem.run_bind, Result.andThen_ok, sizeOf, typeInfo, run_program, hi1, Sem.run_pure, hi2, if_neg hlt, if_neg hm1, zeroValue, hi4, hzero, hlits, hfill, newRow, run_newObj]
      rfl
  refine .inl ⟨_, _, hr, ⟨rfl, rfl, rfl, by simp, fun b hb _ => Below.heap_alloc w _ b hb⟩, ?_⟩
  simp only [Rel]
  refine ⟨_, _, rfl, .inr ⟨w.heap.size, 0, rfl, by simp, ?_, fun _ => Nat.le_trans st.ble st.mod.size, fun _ => st.mod.size, fun _ => ⟨_, _, heap_alloc_new w _⟩, ?_⟩⟩
  · intro hx; have := st.xlt hx; omega
  · have h0 : RelL (Xs G h) 0 0 (w.alloc (.cells (xs.map a.eval).toArray el)) us (xs.map a.eval) := by
      rw [← hus]
      exact (RelL.mono (wle_alloc w _ fun b _ hx => hx) hrel).lower
    refine relF_of_list h0 fun j hj => ?_
    rw [Nat.zero_add, World.cell?_alloc_new]
    simp

variable {Q : Post} {rest : List Oper} {d : Nat} {ty : TypeId} {pos : String} {after : Array Edge} {e : Env} {k : Nat} {listed : Array Bool}
theorem VT_op {op : Op} {u : AVal} (he : EvalOp P G n e h op ty u) (hd : Nat.blt d n = true) (hk : VT P G n h ops K rest (k + 1) (listed.setIfInBounds k true) (upd e d u)) : VT P G n h ops K (⟨some d, op, ty, pos, after, none⟩ :: rest) k listed e :=
  ⟨d, rfl, by simpa using hd, .inl ⟨.inl ⟨rfl, rfl⟩, u, evQ_of_op he, .inl (exU_of_op he), hk⟩⟩
theorem VT_opE {op : Op} (hd : Nat.blt d n = true) (hk : OpThen P G n e h op ty fun u => VT P G n h ops K rest (k + 1) (listed.setIfInBounds k true) (upd e d u)) : VT P G n h ops K (⟨some d, op, ty, pos, after, none⟩ :: rest) k listed e :=
  let ⟨_, h1, h2⟩ := hk; VT_op h1 hd h2
theorem VT_yesE {op : Op} {g j : Nat} {want : Bool} (hj : (ops[g]?).bind (·.dst) = some j) (hv : e j = .v (.bool want)) (hd : Nat.blt d n = true) (hk : OpThen P G n e h op ty fun u => VT P G n h ops K rest (k + 1) (listed.setIfInBounds k true) (upd e d u)) : VT P G n h ops K (⟨some d, op, ty, pos, after, some (g, want)⟩ :: rest) k listed e :=
  let ⟨u, h1, h2⟩ := hk
  ⟨d, rfl, by simpa using hd, .inl ⟨.inr ⟨g, want, j, rfl, hj, .inl ⟨want, hv, by simp⟩⟩, u, evQ_of_op h1, .inl (exU_of_op h1), h2⟩⟩
theorem VT_no {op : Op} {g j : Nat} {want t : Bool} (hj : (ops[g]?).bind (·.dst) = some j) (hv : e j = .v (.bool t)) (ht : (t == want) = false) (hd : Nat.blt d n = true) (hk : VT P G n h ops K rest (k + 1) (listed.setIfInBounds k true) (upd e d (.v undef))) : VT P G n h ops K (⟨some d, op, ty, pos, after, some (g, want)⟩ :: rest) k listed e :=
  ⟨d, rfl, by simpa using hd, .inr ⟨.inr ⟨g, want, j, rfl, hj, .inl ⟨t, hv, ht.symm⟩⟩, hk⟩⟩
theorem VT_undef {op : Op} {g j : Nat} {want : Bool} (hj : (ops[g]?).bind (·.dst) = some j) (hv : e j = .v undef) (hd : Nat.blt d n = true) (hk : VT P G n h ops K rest (k + 1) (listed.setIfInBounds k true) (upd e d (.v undef))) : VT P G n h ops K (⟨some d, op, ty, pos, after, some (g, want)⟩ :: rest) k listed e :=
  ⟨d, rfl, by simpa using hd, .inr ⟨.inr ⟨g, want, j, rfl, hj, .inr ⟨hv, rfl⟩⟩, hk⟩⟩
theorem VT_known {o : Oper} {g j : Nat} {want t b : Bool} (_hg : o.guard = some (g, want)) (_hj : (ops[g]?).bind (·.dst) = some j) (hv : e j = .v (.bool t)) (ht : t = b) (h1 : VT P G n h ops K (o :: rest) k listed (upd e j (.v (.bool b)))) : VT P G n h ops K (o :: rest) k listed e := by
  subst ht; rwa [upd_self hv] at h1
theorem VT_split {o : Oper} {g j : Nat} {want t : Bool} (_hg : o.guard = some (g, want)) (_hj : (ops[g]?).bind (·.dst) = some j) (hv : e j = .v (.bool t)) (h1 : t = true → VT P G n h ops K (o :: rest) k listed (upd e j (.v (.bool true)))) (h0 : t = false → VT P G n h ops K (o :: rest) k listed (upd e j (.v (.bool false)))) : VT P G n h ops K (o :: rest) k listed e := by
  cases t
  · have := h0 rfl; rwa [upd_self hv] at this
  · have := h1 rfl; rwa [upd_self hv] at this
theorem VT_nil (hk : K e) : VT P G n h ops K [] k listed e := hk
theorem VT_call {fo : Operand} {xs : List Operand} {ts : Array TypeId} {u : AVal} {f : FuncId} {caps ins : List AVal} (hf : ev e fo = .fn f caps) [CallT P f] (hl : LendL G h (fun _ => False) (xs.map (ev e) ++ caps) ins) (hc : Ct P f ins (· = u)) (hu : plainT u = true) (hcan : xs.all canonO = true) (hcf : canonO fo = true) (hd : Nat.blt d n = true) (hk : VT P G n h ops K rest (k + 1) (listed.setIfInBounds k true) (upd e d u)) :
    VT P G n h ops K (⟨some d, .call { callee := .value fo, args := xs.toArray, argTypes := ts }, ty, pos, after, none⟩ :: rest) k listed e :=
  ⟨d, rfl, by simpa using hd, .inl ⟨.inl ⟨rfl, rfl⟩, u, evQ_of_call hf hl hc (fresh2_plain hu) hcan hcf, .inl (exU_plain hu (evQ_of_call (ts := ts) (ty := ty) (d := d) (pos := pos) (after := after) (gd := none) hf hl hc (fresh2_plain hu) hcan hcf)), hk⟩⟩
theorem VT_lit2 {t el bytes : Nat} {z : Value} {arr : Array (Nat × Operand)} {xs : List Operand} {us : List AVal} {m : Nat} [SliceT P t el] [ElemT P el 1 bytes z]
    (hxs : arr.toList.map (·.2) = xs) (harr : (lits xs 0).toArray = arr) (hz1 : z.oneCell' = true) (hm : xs.length = m) (hm0 : Nat.ble m 16777216 = true) (hus : xs.map (ev e) = us) (hu : us.all cellA = true) (hc : xs.all canonO = true) (hso : soloAt .any ops listed k = true) (hd : Nat.blt d n = true)
    (hk : VT P G n h ops K rest (k + 1) (listed.setIfInBounds k true) (upd e d (.sl 2 m us))) : VT P G n h ops K (⟨some d, .buildSlice t m arr, ty, pos, after, none⟩ :: rest) k listed e := by
  have _ := hxs
  subst harr
  exact ⟨d, rfl, by simpa using hd, .inl ⟨.inl ⟨rfl, rfl⟩, _, evQ_lit hz1 hm hm0 hus hu hc, .inr hso, hk⟩⟩

/-- append of one element. -/
theorem VL_append1 {t el bytes : Nat} {z : Value} {s x : Operand} {i k' fr : Nat} {s0 : Value} {cells : List AVal} {u : AVal} [SliceT P t el] [ElemT P el 1 bytes z] (hs : ev e s = .orow i s0) (hi : h i = some (.row s0 el 1 k' cells)) (hx : ev e x = .sl fr 1 [u])
    (hu : cellA u = true) (hf : flat0 u = true) (hb0 : Nat.blt 0 bytes = true) (hb : (k' + 1) * bytes ≤ 140737488355328) (hcs : canonO s = true) (hcx : canonO x = true) (hd : Nat.blt d n = true)
    (hk : ∀ s', VL P G n ops rest Q (upd e d (.orow d s')) (upd (upd h i none) d (some (.row s' el 1 (k' + 1) (cells ++ [u]))))) :
    VL P G n ops (⟨some d, .call { callee := .builtin .append, args := #[s, x], argTypes := #[t, t] }, ty, pos, after, none⟩ :: rest) Q e h := by
  have h1 : k' + 1 ≤ (k' + 1) * bytes := Nat.le_mul_of_pos_right _ (by simpa using hb0)
  exact VL_append hs hi hx rfl (by decide) (fun v hv => by simp only [List.mem_singleton] at hv; subst hv; exact hu) (fun v hv => by simp only [List.mem_singleton] at hv; subst hv; exact hf) hb (by omega) hcs hcx hd hk

/-- A box's cell that holds nil, as an own row. -/
theorem St.nilrow_cell {a : Act} {w : World} (st : St G n e h a w) {j q b : Nat} {cs : List AVal} (i ety sz : Nat) (hj : h j = some (.box b cs)) (hq : cs[q]? = some (.v (.slice none 0 0))) (hij : Nat.beq j i = false) :
    St G n e (upd (upd h i (some (.row (.slice none 0 0) ety sz 0 []))) j (some (.box b (cs.set q (.orow i (.slice none 0 0)))))) a w := by
  have hne : j ≠ i := fun hh => by subst hh; simp at hij
  have st' := St.newEnt (w1 := w) st i (.row (.slice none 0 0) ety sz 0 []) rfl rfl rfl (Nat.le_refl _) (fun _ _ => rfl) (fun b hb => by simp [Ent.blk, Value.ownBlock] at hb)
    ⟨[], World.ownsRow_nil w 0 ety sz, by simp [RelL]⟩
  have hj' : upd h i (some (.row (.slice none 0 0) ety sz 0 [])) j = some (.box b cs) := by rw [upd_other _ _ _ hne]; exact hj
  obtain ⟨cur, ty', h1, h2⟩ := st'.own j _ hj'
  have hiff := xs_upd_same (G := G) (en := .box b (cs.set q (.orow i (.slice none 0 0)))) hj' rfl
  refine St.setEnt (w1 := w) st' j _ rfl rfl rfl (Nat.le_refl _) (fun _ _ _ => rfl) (fun b' hb' => .inl ⟨_, hj', hb'⟩) ?_
  refine ⟨cur, ty', h1, ?_⟩
  obtain ⟨y, hy1, hy2⟩ := relL_get h2 hq
  simp only [Rel] at hy2
  have hy3 := c0_other hy2 (by intro k b; simp)
  have hset : cur.toList = cur.toList.set q (.slice none 0 0) := by
    apply List.ext_getElem?
    intro r
    by_cases hr : r = q
    · subst hr
      have hlt := (List.getElem?_eq_some_iff.1 hy1).1
      rw [List.getElem?_set_self hlt, hy1, hy3]
    · rw [List.getElem?_set_ne (Ne.symm hr)]
  rw [hset]
  exact relL_set q (RelL.mono (WLe.shrink w fun b hb => (hiff b).1 hb) h2) (by simp only [Rel]; exact ⟨trivial, _, _, _, rfl⟩)
theorem V_nilrow_cell {c : Code} {j q b : Nat} {cs : List AVal} (i ety sz : Nat) (hj : h j = some (.box b cs)) (hq : cs[q]? = some (.v (.slice none 0 0))) (hij : Nat.beq j i = false)
    (hk : V P G n c Q e (upd (upd h i (some (.row (.slice none 0 0) ety sz 0 []))) j (some (.box b (cs.set q (.orow i (.slice none 0 0))))))) : V P G n c Q e h := fun a w st => hk a w (st.nilrow_cell i ety sz hj hq hij)
end
end Go.Av
/-
Struct literals.
-/
namespace Go.Av
open Go.RowKit

def chkFields (P : Program) (fs : List Field) : Nat → Bool := fun k => match fs with
  | [] => true
  | f :: fs => (f.offset == k) && (match P.info? f.type with | some i => i.size == 1 | none => false) && chkFields P fs (k + 1)
def chkBuild (P : Program) (t k : Nat) : Bool := match P.underlying t with
  | some (.struct fs) => chkFields P fs.toList 0 && (fs.size == k)
  | _ => false
/-- A struct whose fields have one cell each. -/
class BuildT (P : Program) (t : TypeId) (k : outParam Nat) : Prop where
  ok : chkBuild P t k = true

def onesFrom : Nat → Nat → List (Nat × Nat)
  | 0, _ => []
  | n + 1, k => (k, 1) :: onesFrom n (k + 1)
theorem onesFrom_get : ∀ (n k i : Nat), i < n → (onesFrom n k)[i]? = some (k + i, 1)
  | 0, _, _, h => by omega
  | n + 1, k, 0, _ => by simp [onesFrom]
  | n + 1, k, i + 1, h => by
    simp only [onesFrom, List.getElem?_cons_succ]
    rw [onesFrom_get n (k + 1) i (by omega)]
    congr 2; omega

theorem run_places {P : Program} (w : World) : ∀ (fs : List Field) (k : Nat), chkFields P fs k = true → (fs.mapM fun f => (do pure (f.offset, ← sizeOf f.type) : Sem (Nat × Nat))).run P w = .ok (onesFrom fs.length k) w
  | [], k, _ => by simp [onesFrom]
  | f :: fs, k, h => by
    simp only [chkFields, Bool.and_eq_true, beq_iff_eq] at h
    obtain ⟨⟨h1, h2⟩, h3⟩ := h
    cases hi : P.info? f.type with
    | none => simp [hi] at h2
    | some i =>
      simp only [hi, beq_iff_eq] at h2
      have ih := run_places w fs (k + 1) h3
      simp only [List.mapM_cons, Sem.run_bind, Sem.run_pure, Result.andThen_ok, sizeOf, typeInfo, run_program, hi, h2, h1, List.length_cons, onesFrom]
      simp only [sizeOf, typeInfo] at ih
      simp only [ih, Result.andThen_ok]

theorem fill_ones {places : Array (Nat × Nat)} {k : Nat} (hp : places.toList = onesFrom k 0) : ∀ (parts : List (Nat × Value)) (cells : List Value), cells.length = k → (∀ p ∈ parts, p.1 < k ∧ p.2.oneCell' = true) →
    Instr.fill (places[·]?) cells.toArray parts = some (parts.foldl (fun cs p => cs.set p.1 p.2) cells).toArray
  | [], cells, _, _ => rfl
  | (i, v) :: parts, cells, hl, h => by
    obtain ⟨h1, h2⟩ := h (i, v) (by simp)
    have hv := one_cells h2
    have hpl : places[i]? = some (i, 1) := by
      rw [← Array.getElem?_toList, hp, onesFrom_get k 0 i h1, Nat.zero_add]
    simp only [Instr.fill, hpl, hv]
    rw [if_neg (by simp; omega)]
    have hs : (#[v].zipIdx.foldl (fun cs (c, j) => cs.setIfInBounds (i + j) c) cells.toArray) = (cells.set i v).toArray := by simp
    rw [hs]
    exact fill_ones hp parts (cells.set i v) (by simpa using hl) fun p hp' => h p (by simp [hp'])

section
variable {P : Program} {G : Glob} {n : Nat} {Q : Post} {e : Env} {h : Hp} {ops : Array Oper} {rest : List Oper} {d : Nat} {ty : TypeId} {pos : String} {after : Array Edge}

theorem relL_sets {X : Nat → Prop} {B C : Nat} {w : World} {a : Act} : ∀ {parts : List (Nat × Operand)} {us : List AVal} {xs : List Value}, (∀ p ∈ parts, Rel X B C w (ev e p.2) (a.eval p.2)) → RelL X B C w us xs →
    RelL X B C w (parts.foldl (fun cs p => cs.set p.1 (ev e p.2)) us) ((parts.map fun p => (p.1, a.eval p.2)).foldl (fun cs p => cs.set p.1 p.2) xs)
  | [], _, _, _, h => h
  | p :: parts, us, xs, hp, h => by
    simp only [List.foldl_cons, List.map_cons]
    exact relL_sets (fun q hq => hp q (by simp [hq])) (relL_set p.1 h (hp p (by simp)))

/-- What a struct literal holds. -/
def built (e : Env) (zs : List AVal) (ps : List (Nat × Operand)) : List AVal := ps.foldl (fun cs p => cs.set p.1 (ev e p.2)) zs
def okParts (k : Nat) (e : Env) (ps : List (Nat × Operand)) : Bool := ps.all fun p => Nat.blt p.1 k && cellA (ev e p.2) && canonO p.2

theorem op_build {t k : Nat} {zs : List Value} {ps : List (Nat × Operand)} {cells : List AVal} [hb : BuildT P t k] [hz : ZeroT P t zs] (hk : zs.length = k) (hps : okParts k e ps = true) (hc : built e (zs.map AVal.v) ps = cells) :
    EvalOp P G n e h (.build t ps.toArray) ty (.agg cells) := fun a w st dst pos after gd => by
  obtain ⟨i, z, h1, h2, h3, h4⟩ := hz.ok
  have hbk := hb.ok
  unfold chkBuild at hbk
  cases hu : P.underlying t with
  | none => rw [hu] at hbk; cases hbk
  | some d =>
    rw [hu] at hbk
    cases d <;> try (cases hbk; done)
    rename_i fs
    simp only [Bool.and_eq_true, beq_iff_eq] at hbk
    obtain ⟨hf, hsz⟩ := hbk
    have hpl := run_places (P := P) w fs.toList 0 hf
    have hmm : fs.mapM (fun f => (do pure (f.offset, ← sizeOf f.type) : Sem (Nat × Nat))) = List.toArray <$> fs.toList.mapM (fun f => (do pure (f.offset, ← sizeOf f.type) : Sem (Nat × Nat))) := by rw [Array.mapM_eq_mapM_toList]
    have hall : ∀ p ∈ ps, p.1 < k ∧ cellA (ev e p.2) = true ∧ canonO p.2 = true := fun p hp => by
      have := List.all_eq_true.1 hps p hp
      simp only [Bool.and_eq_true] at this
      exact ⟨by simpa using this.1.1, this.1.2, this.2⟩
    have hrel : ∀ p ∈ ps, Rel (Xs G h) G.B G.w0.heap.size w (ev e p.2) (a.eval p.2) := fun p hp => st.rel p.2 (hall p hp).2.2
    have hfill := fill_ones (places := (onesFrom fs.toList.length 0).toArray) (k := k) (by simp [hsz]) (ps.map fun p => (p.1, a.eval p.2)) zs hk (fun q hq => by
      simp only [List.mem_map] at hq
      obtain ⟨p, hp, rfl⟩ := hq
      exact ⟨(hall p hp).1, cellA_one (hall p hp).2.1 (hrel p hp)⟩)
    refine ⟨.agg ((ps.map fun p => (p.1, a.eval p.2)).foldl (fun cs p => cs.set p.1 p.2) zs).toArray, w, ?_, Same.refl w, ?_⟩
    · have hzc : z.cells = zs.toArray := by rw [← h3]
      have hparts : (ps.toArray.map fun p => (p.1, a.eval p.2)).toList = ps.map fun p => (p.1, a.eval p.2) := by simp
      simp only [execOp, Instr.build, zeroValue, typeInfo, run_program, h1, h2, Sem.run_bind, Sem.run_pure, Result.andThen_ok, run_underlying hu, hmm, Sem.run_map, hpl, hzc, hparts, hfill]
    · simp only [Rel]
      refine ⟨_, rfl, ?_⟩
      rw [← hc]
      exact relL_sets hrel (relL_zero h4)
theorem E_build {t k : Nat} {zs : List Value} {ps : List (Nat × Operand)} {cells : List AVal} [BuildT P t k] [ZeroT P t zs] (hlen : zs.length = k := by rfl) (hps : okParts k e ps = true := by rfl) (hc : built e (zs.map AVal.v) ps = cells := by (conv => lhs; whnf) <;> rfl) :
    EvalOp P G n e h (.build t ps.toArray) ty (.agg cells) := op_build hlen hps hc
end
end Go.Av
/-
A row's step: from a law's contract (it returns true) to the given statement's own words; how arguments are opened.
-/
namespace Go.Av
open Go.ChangeShapes Go.WideShapes Go.RowKit

section
variable {H : Type} {enc : TypeId × Value → H} {P : Program}

theorem trodAll_stays {W W' : World} (hl : laidOutB P = true) {sp : Nat → Bool} : ∀ {ts : List TypeId} {vs : List Value} {ds : List (DataW H)} {ps : List MemPlace}, (∀ t ∈ ts, P.readableRec t = true ∧ t < P.types.size) →
    DataW.TrodAll enc P W 0 (fun _ => true) true ts vs ds ps → (∀ p ∈ ps, W.sameAt W' p) → (∀ p ∈ ps, sp p.block = true) → DataW.TrodAll enc P W' 0 sp true ts vs ds ps
  | [], [], [], _, _, h, _, _ => h
  | _ :: _, _ :: _, _ :: _, _, hT, ⟨p, q, h1, h2, e⟩, hs, hsp =>
    ⟨p, q, WideElems.Trod_stays hl (hT _ (List.mem_cons.2 (Or.inl rfl))).1 (hT _ (List.mem_cons.2 (Or.inl rfl))).2 h1 (fun x hx => hs x (by rw [e]; exact List.mem_append_left _ hx)) (fun x hx => hsp x (by rw [e]; exact List.mem_append_left _ hx)),
      trodAll_stays hl (fun t ht => hT t (List.mem_cons.2 (Or.inr ht))) h2 (fun x hx => hs x (by rw [e]; exact List.mem_append_right _ hx)) (fun x hx => hsp x (by rw [e]; exact List.mem_append_right _ hx)), e⟩

theorem trodAll_length {w : World} {base : Nat} {sp : Nat → Bool} {hd : Bool} : ∀ {ts : List TypeId} {vs : List Value} {ds : List (DataW H)} {ps : List MemPlace}, DataW.TrodAll enc P w base sp hd ts vs ds ps → ds.length = ts.length
  | [], [], [], _, _ => rfl
  | _ :: _, _ :: _, _ :: _, _, ⟨_, _, _, h2, _⟩ => by simp [trodAll_length h2]

/-- THE ROW's STEP. -/
theorem lifted_of {C : Checked} {os : Os} {f : FuncId} {fn : Func} {s : ChangeSpec} {conds : List PathCond} {apart fresh : Bool} {tb : TypeId}
    (own : ownKnob C.prog.godebug = none) (started : os.Started) (noInit : C.prog.inits.idxOf? f = none) (hfn : C.prog.funcs[f]? = some fn)
    (witness : ∃ (w : World) (tape : Tape) (i : Input), w.os = os ∧ (w.forCall tape i).Shaped C.prog ∧ i.vars = [] ∧ Input.okWide C.prog (w.forCall tape i) .any w.heap.size f i ∧
      s.pre6 enc C.prog fn conds apart (w.forCall tape i).memory i.args ∧ ({} : Assume).holds C.prog (lone (Frame.enter C.prog f i.args .normal) [] (w.forCall tape i)))
    (hl : laidOutB C.prog = true) (hread' : (fn.params.toList.all fun t => C.prog.readableRec t && Nat.blt t C.prog.types.size) = true)
    (hvars : s.vars = []) (hspec : ∀ ds : List (DataW H), ds.length = fn.params.toList.length → (s.fn H ds).results = [.lit (.bool true)] ∧ (s.fn H ds).args = ds ∧ (s.fn H ds).vars = [])
    (hbool : C.prog.underlying tb = some .bool) (hres : fn.resultTypes = #[tb])
    (hall : ∀ (W : World) (base : Nat) (args : Array Value) (ds : List (DataW H)) (p : List MemPlace),
      (∀ (j : Nat) t v, fn.params[j]? = some t → args[j]? = some v → Value.okWide C.prog W .any base t v) →
      DataW.TrodAll enc C.prog W 0 (fun _ => true) true fn.params.toList args.toList ds p →
      ∃ ins, RelL (fun _ => False) 0 W.heap.size W ins args.toList ∧ Ct C.prog f ins (· = .v (.bool true))) :
    ReturnsInHanded {} C os f .any (s.pre6 enc C.prog fn conds apart) (s.post enc C.prog fn apart fresh false false) := by
  have hread : ∀ t ∈ fn.params.toList, C.prog.readableRec t = true ∧ t < C.prog.types.size := fun t ht => by
    have := List.all_eq_true.1 hread' t ht
    simpa [Nat.blt_eq] using this
  refine returnsInHanded_of_change (C := C) own started noInit hfn witness ?_
  intro W base args ds gs before hval hW hcnd _
  have hW' := hW
  obtain ⟨p, q, hA, hV, rfl, hfz, hnd⟩ := hW
  rw [hvars] at hV
  obtain ⟨rfl, rfl⟩ := trodVars_none hV
  obtain ⟨ins, hrel, hct⟩ := hall W base args ds p hval hA
  have hrel' : RelL (fun b => (fun _ => False) b ∨ blks [] b) 0 W.heap.size W ins args.toList := by
    refine RelL.mono (WLe.shrink W ?_) hrel
    rintro b (hb | ⟨en, hb, _⟩)
    · exact hb
    · cases hb
  have hmu : MuOk (fun _ => False) W [] := ⟨(by simp), (fun b ⟨en, hb, _⟩ => by cases hb), (by simp)⟩
  have hc := hct W args.toList (fun _ => False) 0 (by simp) (Nat.zero_le _) hmu hrel'
  rw [Array.toArray_toList] at hc
  refine hc.mono fun e W' ⟨x, out, mu', he, ⟨hm', ho⟩, hmod, _, hr⟩ => ?_
  subst he
  refine ⟨_, rfl, ?_⟩
  have hx : x = .bool true := by
    rw [ho] at hr
    have hr' : c0 x = .bool true := hr
    cases x <;> simp [c0] at hr' ⊢
    exact hr'
  subst hx
  have hbelow : Below W.heap.size W W' := ⟨hmod.os, hmod.tape, hmod.output, hmod.size, fun k hk => hmod.block k hk (by rintro ⟨en, hb, _⟩; cases hb)⟩
  obtain ⟨h1, h2, h3⟩ := hspec (ds ++ []) (by rw [List.append_nil]; exact trodAll_length hA)
  have hlt : ∀ x ∈ p, x.block < W.heap.size := fun x hx => by have := hW'.lt x (by simpa using hx); simpa using this
  have hold : ∀ x ∈ p ++ [], (fun b => decide (b < W.heap.size)) x.block = true := fun x hx => by simpa using hlt x (by simpa using hx)
  have hargs : ∀ sp : Nat → Bool, (∀ x ∈ p ++ [], sp x.block = true) → DataW.TrodAll enc C.prog W' 0 sp true fn.params.toList args.toList (s.fn H (ds ++ [])).args p := fun sp hsp => by
    rw [h2, List.append_nil]
    exact trodAll_stays hl hread hA (fun x hx => hbelow.same (hlt x hx)) (fun x hx => hsp x (by simpa using hx))
  have hvs : ∀ sp : Nat → Bool, DataW.TrodVars enc C.prog W' sp s.vars (s.fn H (ds ++ [])).vars [] := fun sp => by rw [h3, hvars]; rfl
  have hrs : ∀ (b : Nat) (sp : Nat → Bool) (hd : Bool), DataW.TrodAll enc C.prog W' b sp hd fn.resultTypes.toList ((Value.bool true).resultList fn.resultTypes.size) (s.fn H (ds ++ [])).results [] := fun _ _ _ => by
    rw [h1, hres]; exact trodAll_mk1 (shut_bool hbool _)
  refine ⟨ds, [], p ++ [], [], p, [], hW', hrs _ _ _, hargs _ hold, hvs _, hbelow.frame _, fun _ => ⟨?_, _, _, ([] ++ p) ++ [], ⟨[] ++ p, [], trodAll_append (hargs _ (fun _ _ => rfl)) (hrs _ _ _), hvs _, rfl, ?_, ?_⟩, ?_⟩⟩
  · intro j t r hj hr
    rw [hres] at hj hr
    match j, hj, hr with
    | 0, hj, hr =>
      simp [Value.resultList] at hj hr
      subst hj; subst hr
      exact okWide_bool_mk hbool _
  · intro b off hp
    have hp' : MemPlace.cell b off ∈ p := by simpa using hp
    rw [hbelow.frozen (p := ⟨b, off, none⟩) (hlt _ hp')]
    exact hfz b off (by simpa using hp')
  · intro ha
    simpa using hnd ha
  · intro x hx _
    simpa using hx
end

/-! ### Arguments, opened -/

/-- A float32's bits: below 2^32, and canonical. -/
def CW (x : Nat) : Prop := x < 4294967296 ∧ cn .f32 x = x
def CWs (xs : List Nat) : Prop := ∀ x ∈ xs, CW x

theorem cw_cn {b : Nat} (h : b < 4294967296) : CW (cn .f32 b) := by
  refine ⟨?_, cn_cn _ _⟩
  unfold cn
  split
  · decide
  · exact h

section
variable {H : Type} {enc : TypeId × Value → H} {P : Program} {w : World} {base : Nat} {spare : Nat → Bool} {held : Bool} {X : Nat → Prop} {B C : Nat}

theorem cellsOne {v x : Value} (h : v.cells.toList = [x]) (hn : ∀ a, v ≠ .agg a) : v = x := by
  cases v <;> simp [Value.cells] at h hn ⊢ <;> exact h

theorem trod_f32 {t fuel : Nat} {cs : List Value} {x : DataW H × List MemPlace} (ht : P.underlying t = some (.float .f32)) (h : DataW.trod enc P w base spare held fuel t cs = some x) :
    ∃ b, cs = [.float .f32 b] ∧ b < 4294967296 := by
  cases fuel with
  | zero => simp [DataW.trod] at h
  | succ n =>
    unfold DataW.trod at h
    rw [ht] at h
    split at h <;> simp_all
    obtain ⟨⟨rfl, h2⟩, _⟩ := h
    rename_i hk _ _ _
    subst hk
    exact of_decide_eq_true h2

theorem trod_int {t fuel : Nat} {k : IntKind} {cs : List Value} {x : DataW H × List MemPlace} (ht : P.underlying t = some (.int k)) (h : DataW.trod enc P w base spare held fuel t cs = some x) :
    ∃ b, cs = [.int k b] ∧ (Lit.int k b).wf = true := by
  cases fuel with
  | zero => simp [DataW.trod] at h
  | succ n =>
    unfold DataW.trod at h
    rw [ht] at h
    split at h <;> simp_all

theorem relF_of {w : World} {X : Nat → Prop} {B C : Nat} : ∀ {us : List AVal} {rd : Nat → Option Value}, (∀ i (h : i < us.length), ∃ x, rd i = some x ∧ Rel X B C w us[i] x) → RelF X B C w us rd
  | [], _, _ => trivial
  | u :: us, rd, h => ⟨h 0 (by simp), relF_of (us := us) (rd := fun j => rd (j + 1)) fun i hi => h (i + 1) (by simpa using hi)⟩

theorem spot_none {w : World} {a : Addr} {v : Value} (h : w.cell? (a.add 0) = some v) : a = ⟨a.block, a.off, none⟩ ∧ a.block < w.heap.size := by
  have e : a.add 0 = a := by simp [Addr.add]
  rw [e] at h
  obtain ⟨b, o, s⟩ := a
  unfold World.cell? at h
  split at h
  · rename_i c t f hb
    cases s with
    | none => exact ⟨rfl, (Array.getElem?_eq_some_iff.1 hb).1⟩
    | some s => simp at h
  · cases h

theorem choose_list {α : Type} {p : Nat → α → Prop} : ∀ (n : Nat), (∀ i, i < n → ∃ x, p i x) → ∃ xs : List α, xs.length = n ∧ ∀ i (h : i < xs.length), p i xs[i]
  | 0, _ => ⟨[], rfl, fun i h => by simp at h⟩
  | n + 1, h => by
    obtain ⟨xs, h1, h2⟩ := choose_list (p := p) n (fun i hi => h i (by omega))
    obtain ⟨x, hx⟩ := h n (by omega)
    refine ⟨xs ++ [x], by simp [h1], fun i hi => ?_⟩
    by_cases hlt : i < xs.length
    · rw [List.getElem_append_left hlt]; exact h2 i hlt
    · have : i = n := by simp at hi; omega
      subst this
      rw [List.getElem_append_right (by omega)]
      simpa using hx

theorem trod_f32s {t e fuel : Nat} {cs : List Value} {x : DataW H × List MemPlace} (hX : ∀ b, ¬ X b) (ht : P.underlying t = some (.slice e)) (he : P.underlying e = some (.float .f32)) (hc : P.cellsOf e = 1)
    (h : DataW.trod enc P w base spare held fuel t cs = some x) : ∃ v xs, cs = [v] ∧ (∀ a, v ≠ .agg a) ∧ xs.length ≤ maxLen ∧ CWs xs ∧ Rel X B C w (.sl 0 xs.length (fl xs)) v := by
  rcases Deep.open_slice1 ht hc h with ⟨rfl, _⟩ | ⟨a, len, cap, m, n, V, D, Pl, rfl, hb, hl, hm, hmm, _, hx⟩
  · exact ⟨_, [], rfl, by simp, by simp, by simp [CWs], ⟨none, 0, rfl, .inl ⟨rfl, rfl⟩⟩⟩
  · have hlm : len ≤ m := by rw [hmm]; split <;> omega
    obtain ⟨xs, h1, h2⟩ := choose_list (p := fun i b => b < 4294967296 ∧ w.cell? (a.add i) = some (.float .f32 b)) len (fun i hi => by
      obtain ⟨h3, h4⟩ := hx i (by omega)
      obtain ⟨b, h5, h6⟩ := trod_f32 he h4
      have h7 : V i = .float .f32 b := by simpa using h5
      exact ⟨b, h6, by rw [h3, h7]⟩)
    refine ⟨_, xs.map (cn .f32), rfl, by simp, by simp; omega, ?_, a, cap, by simp [h1], ?_⟩
    · intro y hy
      obtain ⟨z, hz, rfl⟩ := List.mem_map.1 hy
      obtain ⟨i, hi, rfl⟩ := List.getElem_of_mem hz
      exact cw_cn (h2 i hi).1
    · by_cases h0 : xs.length = 0
      · left
        have : xs = [] := List.eq_nil_of_length_eq_zero h0
        subst this; exact ⟨rfl, rfl⟩
      · right
        obtain ⟨ha, hlt⟩ := spot_none (h2 0 (by omega)).2
        refine ⟨a.block, a.off, by rw [← ha], hlt, hX _, by simp, by simp, by simp, relF_of fun i hi => ?_⟩
        have hi' : i < xs.length := by simpa [fl] using hi
        refine ⟨.float .f32 xs[i], ?_, ?_⟩
        · have := (h2 i hi').2
          rw [ha] at this
          have e : (⟨a.block, a.off, none⟩ : Addr).add i = ⟨a.block, a.off + i, none⟩ := by
            unfold Addr.add; split <;> rename_i hz
            · subst hz; rfl
            · rfl
          rw [e] at this
          exact this
        · simp [fl, F32, Rel, c0]

theorem open_f32 {t : Nat} {v : Value} {d : DataW H} {ps : List MemPlace} {b0 : Nat} {r : Reach} (ht : P.underlying t = some (.float .f32)) (hval : Value.okWide P w r b0 t v) (h : DataW.Trod enc P w base spare held t v d ps) :
    ∃ x, CW x ∧ Rel X B C w (F32 x) v := by
  obtain ⟨fuel, h⟩ := h
  obtain ⟨b, hb, hlt⟩ := trod_f32 ht h
  have hn : ∀ a, v ≠ .agg a := by
    rintro a rfl
    simp [Value.okWide, ht, Cell.okWide, Cell.ok] at hval
  have := cellsOne hb hn
  subst this
  exact ⟨_, cw_cn hlt, rfl⟩

theorem open_int {t : Nat} {k : IntKind} {v : Value} {d : DataW H} {ps : List MemPlace} {b0 : Nat} {r : Reach} (ht : P.underlying t = some (.int k)) (hval : Value.okWide P w r b0 t v) (h : DataW.Trod enc P w base spare held t v d ps) :
    ∃ x, (Lit.int k x).wf = true ∧ Rel X B C w (.v (.int k x)) v := by
  obtain ⟨fuel, h⟩ := h
  obtain ⟨b, hb, hlt⟩ := trod_int ht h
  have hn : ∀ a, v ≠ .agg a := by
    rintro a rfl
    simp [Value.okWide, ht, Cell.okWide, Cell.ok] at hval
  have := cellsOne hb hn
  subst this
  exact ⟨_, hlt, rfl⟩

theorem open_f32s {t e : Nat} {v : Value} {d : DataW H} {ps : List MemPlace} {b0 : Nat} {r : Reach} (hX : ∀ b, ¬ X b) (ht : P.underlying t = some (.slice e)) (he : P.underlying e = some (.float .f32)) (hc : P.cellsOf e = 1)
    (hval : Value.okWide P w r b0 t v) (h : DataW.Trod enc P w base spare held t v d ps) : ∃ xs, xs.length ≤ maxLen ∧ CWs xs ∧ Rel X B C w (.sl 0 xs.length (fl xs)) v := by
  obtain ⟨fuel, h⟩ := h
  obtain ⟨u, xs, hu, _, h1, h2, h3⟩ := trod_f32s (B := B) (C := C) hX ht he hc h
  have hn : ∀ a, v ≠ .agg a := by
    rintro a rfl
    simp [Value.okWide, ht, Cell.okWide, Cell.ok] at hval
  have := cellsOne hu hn
  subst this
  exact ⟨xs, h1, h2, h3⟩

theorem take_one {cs : List Value} {i : Nat} {v : Value} (h : (cs.drop i).take 1 = [v]) : cs[i]? = some v := by
  have := congrArg (fun l => l[0]?) h
  simpa [List.getElem?_take, List.getElem?_drop] using this

/-- A curve's cells. -/
theorem trod_curve {t fuel ts e : Nat} {f0 f1 : Field} {cs : List Value} {x : DataW H × List MemPlace} (hX : ∀ b, ¬ X b) (ht : P.underlying t = some (.struct #[f0, f1])) (hc : P.cellsOf t = 2)
    (h0 : f0.offset = 0 ∧ f0.type = ts) (h1 : f1.offset = 1 ∧ f1.type = ts) (hs : P.cellsOf ts = 1) (hts : P.underlying ts = some (.slice e)) (he : P.underlying e = some (.float .f32)) (hce : P.cellsOf e = 1)
    (h : DataW.trod enc P w base spare held fuel t cs = some x) : ∃ u v xs ys, cs = [u, v] ∧ xs.length ≤ maxLen ∧ ys.length ≤ maxLen ∧ CWs xs ∧ CWs ys ∧ Rel X B C w (.sl 0 xs.length (fl xs)) u ∧ Rel X B C w (.sl 0 ys.length (fl ys)) v := by
  obtain ⟨y0, y1, n, _, hl, ha, hb⟩ := trod_struct2 ht h
  rw [h0.2, h0.1, hs] at ha; rw [h1.2, h1.1, hs] at hb
  obtain ⟨u, xs, hu, _, i1, i2, i3⟩ := trod_f32s (B := B) (C := C) hX hts he hce ha
  obtain ⟨v, ys, hv, _, j1, j2, j3⟩ := trod_f32s (B := B) (C := C) hX hts he hce hb
  rw [hc] at hl
  match cs, hl with
  | [a, b], _ =>
    simp at hu hv
    subst hu; subst hv
    exact ⟨a, b, xs, ys, rfl, i1, j1, i2, j2, i3, j3⟩

def curveA (xs ys : List Nat) : AVal := .agg [.sl 0 xs.length (fl xs), .sl 0 ys.length (fl ys)]
def picA (a b : Int) (xs : List Nat) : AVal := .agg [I64 a, I64 b, .sl 0 xs.length (fl xs)]

theorem agg_of {t : Nat} {fs : Array Field} {v : Value} {b0 : Nat} {r : Reach} (ht : P.underlying t = some (.struct fs)) (hval : Value.okWide P w r b0 t v) : ∃ cs : List Value, v = .agg cs.toArray ∧ v.cells.toList = cs := by
  simp only [Value.okWide, ht] at hval
  obtain ⟨cs, rfl, _⟩ := hval
  exact ⟨cs.toList, by simp, by simp [Value.cells]⟩

theorem open_curve {t ts e : Nat} {f0 f1 : Field} {v : Value} {d : DataW H} {ps : List MemPlace} {b0 : Nat} {r : Reach} (hX : ∀ b, ¬ X b) (ht : P.underlying t = some (.struct #[f0, f1])) (hc : P.cellsOf t = 2)
    (h0 : f0.offset = 0 ∧ f0.type = ts) (h1 : f1.offset = 1 ∧ f1.type = ts) (hs : P.cellsOf ts = 1) (hts : P.underlying ts = some (.slice e)) (he : P.underlying e = some (.float .f32)) (hce : P.cellsOf e = 1)
    (hval : Value.okWide P w r b0 t v) (h : DataW.Trod enc P w base spare held t v d ps) : ∃ xs ys, xs.length ≤ maxLen ∧ ys.length ≤ maxLen ∧ CWs xs ∧ CWs ys ∧ Rel X B C w (curveA xs ys) v := by
  obtain ⟨fuel, h⟩ := h
  obtain ⟨cs, rfl, hcs⟩ := agg_of ht hval
  rw [hcs] at h
  obtain ⟨u, v, xs, ys, rfl, i1, i2, i3, i4, i5, i6⟩ := trod_curve (B := B) (C := C) hX ht hc h0 h1 hs hts he hce h
  exact ⟨xs, ys, i1, i2, i3, i4, [u, v], rfl, u, [v], rfl, i5, v, [], rfl, i6, rfl⟩

/-- A picture's cells. -/
theorem trod_pic {t fuel ts ti e : Nat} {f0 f1 f2 : Field} {cs : List Value} {x : DataW H × List MemPlace} (hX : ∀ b, ¬ X b) (ht : P.underlying t = some (.struct #[f0, f1, f2])) (hc : P.cellsOf t = 3)
    (h0 : f0.offset = 0 ∧ f0.type = ti) (h1 : f1.offset = 1 ∧ f1.type = ti) (h2 : f2.offset = 2 ∧ f2.type = ts) (hi : P.cellsOf ti = 1) (hti : P.underlying ti = some (.int .i64)) (hs : P.cellsOf ts = 1) (hts : P.underlying ts = some (.slice e)) (he : P.underlying e = some (.float .f32)) (hce : P.cellsOf e = 1)
    (h : DataW.trod enc P w base spare held fuel t cs = some x) : ∃ a b v xs, cs = [.int .i64 a, .int .i64 b, v] ∧ (Lit.int .i64 a).wf = true ∧ (Lit.int .i64 b).wf = true ∧ xs.length ≤ maxLen ∧ CWs xs ∧ Rel X B C w (.sl 0 xs.length (fl xs)) v := by
  obtain ⟨y0, y1, y2, n, _, hl, ha, hb, hd⟩ := Deep.trod_struct3 ht h
  rw [h0.2, h0.1, hi] at ha; rw [h1.2, h1.1, hi] at hb; rw [h2.2, h2.1, hs] at hd
  obtain ⟨p, hp, hpw⟩ := trod_int hti ha
  obtain ⟨q, hq, hqw⟩ := trod_int hti hb
  obtain ⟨v, ys, hv, _, j1, j2, j3⟩ := trod_f32s (B := B) (C := C) hX hts he hce hd
  rw [hc] at hl
  match cs, hl with
  | [a, b, c], _ =>
    simp at hp hq hv
    subst hp; subst hq; subst hv
    exact ⟨p, q, c, ys, rfl, hpw, hqw, j1, j2, j3⟩

theorem open_pic {t ts ti e : Nat} {f0 f1 f2 : Field} {v : Value} {d : DataW H} {ps : List MemPlace} {b0 : Nat} {r : Reach} (hX : ∀ b, ¬ X b) (ht : P.underlying t = some (.struct #[f0, f1, f2])) (hc : P.cellsOf t = 3)
    (h0 : f0.offset = 0 ∧ f0.type = ti) (h1 : f1.offset = 1 ∧ f1.type = ti) (h2 : f2.offset = 2 ∧ f2.type = ts) (hi : P.cellsOf ti = 1) (hti : P.underlying ti = some (.int .i64)) (hs : P.cellsOf ts = 1) (hts : P.underlying ts = some (.slice e)) (he : P.underlying e = some (.float .f32)) (hce : P.cellsOf e = 1)
    (hval : Value.okWide P w r b0 t v) (h : DataW.Trod enc P w base spare held t v d ps) :
    ∃ a b xs, (Lit.int .i64 a).wf = true ∧ (Lit.int .i64 b).wf = true ∧ xs.length ≤ maxLen ∧ CWs xs ∧ Rel X B C w (picA a b xs) v := by
  obtain ⟨fuel, h⟩ := h
  obtain ⟨cs, rfl, hcs⟩ := agg_of ht hval
  rw [hcs] at h
  obtain ⟨a, b, v, xs, rfl, i1, i2, i3, i4, i5⟩ := trod_pic (B := B) (C := C) hX ht hc h0 h1 h2 hi hti hs hts he hce h
  exact ⟨a, b, xs, i1, i2, i3, i4, _, rfl, _, _, rfl, rfl, _, _, rfl, rfl, _, _, rfl, i5, rfl⟩

theorem rel_one {u : AVal} {v : Value} (h : Rel X B C w u v) : RelL X B C w [u] [v] := ⟨v, [], rfl, h, rfl⟩
theorem rel_more {u : AVal} {v : Value} {us : List AVal} {vs : List Value} (h : Rel X B C w u v) (hs : RelL X B C w us vs) : RelL X B C w (u :: us) (v :: vs) := ⟨v, vs, rfl, h, hs⟩
end
end Go.Av
namespace Go.Av
/-! ### A row's closed facts, where the list of roots in the program's head is long -/
theorem strip_cut (r : List (List Char)) : stripLifts liftWords ("cut".toList :: r) = ([], "cut".toList :: r) := by kernel_rfl

theorem mayEnter_cut {P : Program} {r : List (List Char)} (h : behindMainWord (wordsSigns P.initOrder.toList) = "cut".toList :: r) (h1 : P.laysLater = false) (h2 : P.bearsReflect = false) (h3 : P.doorFits [] = true) : P.mayEnter = true := by
  unfold Program.mayEnter
  rw [h]
  simp only [strip_cut, h1, h2, h3]
  simp

theorem liftsFinal_cut {P : Program} {r : List (List Char)} (h : behindMainWord (wordsSigns P.initOrder.toList) = "cut".toList :: r) : P.liftsFinal = false := by
  unfold Program.liftsFinal Program.headLifts
  rw [h]
  simp only [strip_cut]
  simp

theorem make_cut {P : Program} {r : List (List Char)} (h : behindMainWord (wordsSigns P.initOrder.toList) = "cut".toList :: r) : P.make = some .cut := by
  unfold Program.make
  rw [h]
  simp
end Go.Av
/-
Floats as signed rungs: their order, and which are finite.
-/
namespace Go.Av

/-- The size of the number that stands on rung r, in units of the least place (B rungs to a binade). -/
def rungVal (B r : Nat) : Nat := if r < B then r else (B + r % B) * 2 ^ (r / B - 1)

theorem rungVal_succ {B : Nat} (hB : 2 ≤ B) (r : Nat) : rungVal B r < rungVal B (r + 1) := by
  unfold rungVal
  have hd := Nat.div_add_mod r B
  have hm : r % B < B := Nat.mod_lt _ (by omega)
  by_cases h1 : r + 1 < B
  · rw [if_pos (by omega), if_pos h1]; omega
  · rw [if_neg h1]
    by_cases h2 : r < B
    · rw [if_pos h2]
      have : r + 1 = B := by omega
      rw [this, Nat.mod_self, Nat.div_self (by omega)]
      simp; omega
    · rw [if_neg h2]
      have hq : 1 ≤ r / B := Nat.div_pos (by omega) (by omega)
      generalize hqq : r / B = q at *
      generalize hss : r % B = s at *
      by_cases h3 : s + 1 < B
      · have e1 : (r + 1) / B = q := by
          rw [show r + 1 = (s + 1) + B * q by omega, Nat.add_mul_div_left _ _ (by omega), Nat.div_eq_of_lt h3]; omega
        have e2 : (r + 1) % B = s + 1 := by
          rw [show r + 1 = (s + 1) + B * q by omega, Nat.add_mul_mod_self_left, Nat.mod_eq_of_lt h3]
        rw [e1, e2]
        exact Nat.mul_lt_mul_of_pos_right (by omega) (Nat.two_pow_pos _)
      · have e0 : s + 1 = B := by omega
        have e3 : r + 1 = B * (q + 1) := by rw [Nat.mul_add]; omega
        have e1 : (r + 1) / B = q + 1 := by rw [e3, Nat.mul_div_cancel_left _ (by omega)]
        have e2 : (r + 1) % B = 0 := by rw [e3, Nat.mul_mod_right]
        rw [e1, e2, Nat.add_zero, Nat.add_sub_cancel]
        have : 2 ^ q = 2 * 2 ^ (q - 1) := by rw [← Nat.pow_succ']; congr 1; omega
        rw [this, ← Nat.mul_assoc]
        exact Nat.mul_lt_mul_of_pos_right (by omega) (Nat.two_pow_pos _)

theorem rungVal_lt {B : Nat} (hB : 2 ≤ B) {r s : Nat} (h : r < s) : rungVal B r < rungVal B s := by
  induction s with
  | zero => omega
  | succ s ih =>
    by_cases h1 : r = s
    · subst h1; exact rungVal_succ hB r
    · exact Nat.lt_trans (ih (by omega)) (rungVal_succ hB s)

/-- A float's signed rung. -/
def key (k : FloatKind) (x : Nat) : Int := if x / k.format.signWeight % 2 == 1 then -((x % k.format.signWeight : Nat) : Int) else (x % k.format.signWeight : Nat)

/-- No NaN. -/
def num (k : FloatKind) (x : Nat) : Bool := !isNan k x

/-- Finite. -/
def isFin (k : FloatKind) (x : Nat) : Bool := Nat.blt (x % k.format.signWeight) k.format.infRung

theorem read_fin {f : Ieee.Format} {x : Nat} (h : x % f.signWeight < f.infRung) :
    ∃ m e : Nat, f.read x = .number (x / f.signWeight % 2 == 1) m (f.leastPlace + e) ∧ m * 2 ^ e = rungVal f.binade (x % f.signWeight) := by
  by_cases h1 : x % f.signWeight < f.binade
  · exact ⟨x % f.signWeight, 0, by simp [Ieee.Format.read, h1], by simp [rungVal, h1]⟩
  · exact ⟨f.binade + x % f.signWeight % f.binade, x % f.signWeight / f.binade - 1, by simp [Ieee.Format.read, h1, h], by simp [rungVal, h1]⟩

theorem signed_scale (s : Bool) (m e c : Nat) (h : c ≤ e) : Ieee.signed s m (e - c) * (2 ^ c : Nat) = if s then -((m * 2 ^ e : Nat) : Int) else ((m * 2 ^ e : Nat) : Int) := by
  have e1 : m * 2 ^ (e - c) * 2 ^ c = m * 2 ^ e := by rw [Nat.mul_assoc, ← Nat.pow_add]; congr 2; omega
  unfold Ieee.signed
  rw [Nat.shiftLeft_eq]
  split
  · rw [Int.neg_mul]; exact congrArg (fun t : Nat => -(t : Int)) e1
  · exact congrArg (fun t : Nat => (t : Int)) e1

theorem compare_scale (a b : Int) (c : Nat) (h : 0 < c) : compare (a * (c : Int)) (b * (c : Int)) = compare a b := by
  have hc : (0 : Int) < (c : Int) := by omega
  simp only [compare, compareOfLessAndEq]
  have h1 : (a * (c : Int) < b * (c : Int)) ↔ a < b := Int.mul_lt_mul_right hc
  have h2 : (a * (c : Int) = b * (c : Int)) ↔ a = b := Int.mul_eq_mul_right_iff (by omega)
  simp only [h1, h2]

theorem compare_mono {f : Int → Int} (hf : ∀ a b, a < b → f a < f b) (a b : Int) : compare (f a) (f b) = compare a b := by
  simp only [compare, compareOfLessAndEq]
  rcases Int.lt_trichotomy a b with h | h | h
  · rw [if_pos (hf _ _ h), if_pos h]
  · subst h; simp
  · rw [if_neg (by have := hf _ _ h; omega), if_neg (by have := hf _ _ h; omega), if_neg (by omega), if_neg (by omega)]

theorem compare_lt {a b : Int} (h : a < b) : compare a b = .lt := by simp [compare, compareOfLessAndEq, h]
theorem compare_gt {a b : Int} (h : b < a) : compare a b = .gt := by
  simp only [compare, compareOfLessAndEq]; rw [if_neg (by omega), if_neg (by omega)]

/-- The value of a signed rung. -/
def keyVal (B : Nat) (z : Int) : Int := if z < 0 then -(rungVal B z.natAbs : Int) else rungVal B z.natAbs

theorem keyVal_lt {B : Nat} (hB : 2 ≤ B) (a b : Int) (h : a < b) : keyVal B a < keyVal B b := by
  unfold keyVal
  have h0 : rungVal B 0 = 0 := by unfold rungVal; rw [if_pos (by omega)]
  split <;> split
  · have := rungVal_lt hB (r := b.natAbs) (s := a.natAbs) (by omega); omega
  · have := rungVal_lt hB (r := 0) (s := a.natAbs) (by omega); omega
  · omega
  · have := rungVal_lt hB (r := a.natAbs) (s := b.natAbs) (by omega); omega

/-- The signed rung, of a format. -/
def fkey (f : Ieee.Format) (x : Nat) : Int := if x / f.signWeight % 2 == 1 then -((x % f.signWeight : Nat) : Int) else (x % f.signWeight : Nat)

theorem keyVal_fkey {f : Ieee.Format} (hB : 2 ≤ f.binade) (x : Nat) : keyVal f.binade (fkey f x) = if x / f.signWeight % 2 == 1 then -(rungVal f.binade (x % f.signWeight) : Int) else rungVal f.binade (x % f.signWeight) := by
  have h0 : rungVal f.binade 0 = 0 := by unfold rungVal; rw [if_pos (by omega)]
  unfold fkey keyVal
  generalize x % f.signWeight = r
  split
  · by_cases hr : r = 0
    · subst hr; simp [h0]
    · rw [if_pos (by omega)]; simp
  · rw [if_neg (by omega)]; simp

theorem read_inf {f : Ieee.Format} (hI : f.binade ≤ f.infRung) {z : Nat} (hz : (f.read z).isNaN = false) (h : ¬ z % f.signWeight < f.infRung) :
    f.read z = .infinity (z / f.signWeight % 2 == 1) ∧ z % f.signWeight = f.infRung := by
  have h1 : ¬ z % f.signWeight < f.binade := by omega
  by_cases h3 : z % f.signWeight = f.infRung
  · exact ⟨by simp [Ieee.Format.read, h3, show ¬ f.infRung < f.binade by omega], h3⟩
  · simp [Ieee.Format.read, h1, h, h3, Ieee.Datum.isNaN] at hz

theorem order_fkey {f : Ieee.Format} (hB : 2 ≤ f.binade) (hI : f.binade ≤ f.infRung) {x y : Nat} (hx : (f.read x).isNaN = false) (hy : (f.read y).isNaN = false) : f.order x y = some (compare (fkey f x) (fkey f y)) := by
  have nb : ∀ z, z % f.signWeight < f.infRung → -(f.infRung : Int) < fkey f z ∧ fkey f z < f.infRung := by
    intro z hz
    unfold fkey
    split <;> omega
  have ib : ∀ z, z % f.signWeight = f.infRung → fkey f z = if z / f.signWeight % 2 == 1 then -(f.infRung : Int) else f.infRung := by
    intro z hz; unfold fkey; rw [hz]
  unfold Ieee.Format.order
  by_cases h1 : x % f.signWeight < f.infRung <;> by_cases h2 : y % f.signWeight < f.infRung
  · obtain ⟨m, e, r1, v1⟩ := read_fin h1
    obtain ⟨m', e', r2, v2⟩ := read_fin h2
    rw [r1, r2]
    simp only [Ieee.Datum.order]
    rw [← compare_mono (keyVal_lt hB) (fkey f x) (fkey f y), keyVal_fkey hB, keyVal_fkey hB, ← v1, ← v2]
    have hc : ∃ c : Nat, min (f.leastPlace + (e : Int)) (f.leastPlace + (e' : Int)) = f.leastPlace + c ∧ c ≤ e ∧ c ≤ e' := ⟨min e e', by omega, by omega, by omega⟩
    obtain ⟨c, hc, hc1, hc2⟩ := hc
    rw [hc, show (f.leastPlace + (e : Int) - (f.leastPlace + (c : Int))).toNat = e - c by omega, show (f.leastPlace + (e' : Int) - (f.leastPlace + (c : Int))).toNat = e' - c by omega]
    rw [← compare_scale _ _ (2 ^ c) (Nat.two_pow_pos _), signed_scale _ _ _ _ hc1, signed_scale _ _ _ _ hc2]
  · obtain ⟨m, e, r1, v1⟩ := read_fin h1
    obtain ⟨r2, v2⟩ := read_inf hI hy h2
    rw [r1, r2]
    simp only [Ieee.Datum.order]
    have a := nb x h1
    rw [ib y v2]
    split
    · rw [compare_gt (by omega)]
    · rw [compare_lt (by omega)]
  · obtain ⟨m, e, r1, v1⟩ := read_fin h2
    obtain ⟨r2, v2⟩ := read_inf hI hx h1
    rw [r1, r2]
    simp only [Ieee.Datum.order]
    have a := nb y h2
    rw [ib x v2]
    split
    · rw [compare_lt (by omega)]
    · rw [compare_gt (by omega)]
  · obtain ⟨r1, v1⟩ := read_inf hI hx h1
    obtain ⟨r2, v2⟩ := read_inf hI hy h2
    rw [r1, r2]
    simp only [Ieee.Datum.order]
    rw [ib x v1, ib y v2]
    have hp : 0 < f.infRung := by omega
    cases x / f.signWeight % 2 == 1 <;> cases y / f.signWeight % 2 == 1
    · simp
    · simp [compare_gt (show -(f.infRung : Int) < f.infRung by omega)]; rfl
    · simp [compare_lt (show -(f.infRung : Int) < f.infRung by omega)]; rfl
    · simp

theorem bin2 (k : FloatKind) : 2 ≤ k.format.binade := by cases k <;> decide
theorem binInf (k : FloatKind) : k.format.binade ≤ k.format.infRung := by cases k <;> decide

theorem order_key {k : FloatKind} {x y : Nat} (hx : isNan k x = false) (hy : isNan k y = false) : k.format.order x y = some (compare (key k x) (key k y)) := order_fkey (bin2 k) (binInf k) hx hy
theorem order_nan {k : FloatKind} {x y : Nat} (h : isNan k x = true ∨ isNan k y = true) : k.format.order x y = none := by
  unfold Ieee.Format.order
  rcases h with h | h
  · obtain ⟨s, f, e⟩ := decode_nan h; rw [e]; rfl
  · obtain ⟨s, f, e⟩ := decode_nan h; rw [e]; cases k.format.read x <;> rfl

theorem compare_cases (a b : Int) : (compare a b = .lt ∧ a < b) ∨ (compare a b = .eq ∧ a = b) ∨ (compare a b = .gt ∧ b < a) := by
  rcases Int.lt_trichotomy a b with h | h | h
  · exact .inl ⟨compare_lt h, h⟩
  · subst h; exact .inr (.inl ⟨by simp, rfl⟩)
  · exact .inr (.inr ⟨compare_gt h, h⟩)

theorem num_false {k : FloatKind} {x : Nat} : num k x = false ↔ isNan k x = true := by simp [num]
theorem num_true {k : FloatKind} {x : Nat} : num k x = true ↔ isNan k x = false := by simp [num]

/-- The comparisons, told by the signed rungs. -/
theorem fcmp_key (op : BinOp) (k : FloatKind) (x y : Nat) : fcmp op k x y = match op with
    | .eql => num k x && num k y && decide (key k x = key k y)
    | .neq => !(num k x && num k y && decide (key k x = key k y))
    | .lss => num k x && num k y && decide (key k x < key k y)
    | .leq => num k x && num k y && decide (key k x ≤ key k y)
    | .gtr => num k x && num k y && decide (key k y < key k x)
    | .geq => num k x && num k y && decide (key k y ≤ key k x)
    | _ => false := by
  by_cases hx : isNan k x = true
  · have e := order_nan (y := y) (.inl hx)
    have hn : num k x = false := num_false.2 hx
    unfold fcmp
    cases op <;> simp [e, hn]
  · by_cases hy : isNan k y = true
    · have e := order_nan (x := x) (.inr hy)
      have hn : num k y = false := num_false.2 hy
      unfold fcmp
      cases op <;> simp [e, hn]
    · simp only [Bool.not_eq_true] at hx hy
      have e := order_key hx hy
      have h1 : num k x = true := num_true.2 hx
      have h2 : num k y = true := num_true.2 hy
      unfold fcmp
      rcases compare_cases (key k x) (key k y) with ⟨h, hl⟩ | ⟨h, hl⟩ | ⟨h, hl⟩ <;> rw [h] at e <;> cases op <;> simp [e, h1, h2] <;> first | omega | (intro hh; omega) | (rw [decide_eq_false (by omega)]; rfl) | skip

theorem feql (k : FloatKind) (x y : Nat) : fcmp .eql k x y = (num k x && num k y && decide (key k x = key k y)) := fcmp_key .eql k x y
theorem fneq (k : FloatKind) (x y : Nat) : fcmp .neq k x y = !(num k x && num k y && decide (key k x = key k y)) := fcmp_key .neq k x y
theorem flss (k : FloatKind) (x y : Nat) : fcmp .lss k x y = (num k x && num k y && decide (key k x < key k y)) := fcmp_key .lss k x y
theorem fleq (k : FloatKind) (x y : Nat) : fcmp .leq k x y = (num k x && num k y && decide (key k x ≤ key k y)) := fcmp_key .leq k x y
theorem fgtr (k : FloatKind) (x y : Nat) : fcmp .gtr k x y = (num k x && num k y && decide (key k y < key k x)) := fcmp_key .gtr k x y
theorem fgeq (k : FloatKind) (x y : Nat) : fcmp .geq k x y = (num k x && num k y && decide (key k y ≤ key k x)) := fcmp_key .geq k x y

theorem isFin_iff (k : FloatKind) (x : Nat) : isFin k x = true ↔ x % k.format.signWeight < k.format.infRung := by simp [isFin]
theorem num_of_fin {k : FloatKind} {x : Nat} (h : isFin k x = true) : num k x = true := by
  obtain ⟨m, e, r, _⟩ := read_fin ((isFin_iff k x).1 h)
  refine num_true.2 ?_
  show (k.format.read x).isNaN = false
  rw [r]; rfl

/-- x - x. -/
theorem sub_self (k : FloatKind) (x : Nat) : fop .sub k x x = if isFin k x then 0 else nanOf k := by
  unfold fop floatBits
  simp only [Ieee.Format.sub]
  by_cases h : isFin k x = true
  · rw [if_pos h]
    obtain ⟨m, e, r, _⟩ := read_fin ((isFin_iff k x).1 h)
    rw [r]
    have hs : ∀ s : Bool, Ieee.signed s m 0 + Ieee.signed (!s) m 0 = 0 := by intro s; cases s <;> simp [Ieee.signed] <;> omega
    simp only [Ieee.Datum.opposite, Ieee.Datum.sum, Int.min_self, Int.sub_self, Int.toNat_zero, hs]
    simp [Ieee.Format.write, Ieee.Format.nearest, Ieee.Format.word]
  · rw [if_neg h]
    rw [isFin_iff] at h
    by_cases hn : isNan k x = true
    · have hn' : (k.format.read x).isNaN = true := hn
      rw [sum_nan _ _ (.inl hn')]; rfl
    · simp only [Bool.not_eq_true] at hn
      obtain ⟨r, _⟩ := read_inf (binInf k) hn h
      rw [r]
      cases x / k.format.signWeight % 2 == 1 <;> simp [Ieee.Datum.opposite, Ieee.Datum.sum]

theorem num_nanOf (k : FloatKind) : num k (nanOf k) = false := num_false.2 (isNan_nanOf k)
theorem num_zero (k : FloatKind) : num k 0 = true := by cases k <;> decide
theorem key_zero (k : FloatKind) : key k 0 = 0 := by cases k <;> decide
end Go.Av
