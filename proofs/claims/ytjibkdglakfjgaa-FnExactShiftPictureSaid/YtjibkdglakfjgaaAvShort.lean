/-
More of the logic. No program in sight.
-/
import Derived.Test.YtjibkdglakfjgaaAvMore
/-
More of the logic.
-/
namespace Go.Av
open Go.RowKit

section
variable {P : Program} {G : Glob} {n : Nat} {Q : Post} {e : Env} {h : Hp} {ops : Array Oper} {rest : List Oper} {d : Nat} {ty : TypeId} {pos : String} {after : Array Edge}
theorem flat_fl {xs : List Nat} : ∀ u ∈ fl xs, flat0 u = true := fun u hu => by
  simp only [fl, List.mem_map] at hu
  obtain ⟨x, _, rfl⟩ := hu
  rfl
/-- A function's end that has written one own block. -/
theorem fin_im {t : Tmp} {k : IntKind} {b : Int} {en : Ent} {post : AVal → List Ent → Prop} (hp : post (.v (.int k b)) [en]) (ht : e t = .v (.int k b)) (hh : h 900 = some en) : fin P #[.tmp t] post .ret e h :=
  ⟨.inl rfl, e t, [en], ⟨[e t], ⟨_, _, rfl, rfl, rfl⟩, .inl ⟨_, rfl, rfl⟩⟩, fun k hk h' => by
    cases k with
    | zero => simp at h'; subst h'; exact hh
    | succ k => simp at h', by rw [ht]; exact hp⟩

/-- An own row that lies in a box's cell is to be handed back: it is entry 900 from now on. -/
theorem St.mv_cell {a : Act} {w : World} (st : St G n e h a w) {j q i b ety sz m : Nat} {s : Value} {cells cs : List AVal} (hj : h j = some (.box b cs)) (hq : cs[q]? = some (.orow i s)) (hi : h i = some (.row s ety sz m cells)) (hj9 : Nat.beq j 900 = false) (hi9 : h 900 = none ∨ i = 900) :
    St G n e (upd (upd (upd h i none) 900 (some (.row s ety sz m cells))) j (some (.box b (cs.set q (.orow 900 s))))) a w := by
  have hji : j ≠ i := fun hh => by subst hh; rw [hj] at hi; cases hi
  have hj9' : j ≠ 900 := fun hh => by subst hh; simp at hj9
  have hsub : ∀ b', Xs G (upd (upd h i none) 900 (some (.row s ety sz m cells))) b' → Xs G h b' := by
    rintro b' (hx | hx | ⟨k, ek, hk, hbk⟩)
    · exact .inl hx
    · exact .inr (.inl hx)
    · by_cases hk9 : k = 900
      · subst hk9; rw [upd_same] at hk; obtain rfl := Option.some.inj hk; exact .inr (.inr ⟨i, _, hi, hbk⟩)
      · rw [upd_other _ _ _ hk9] at hk
        by_cases hki : k = i
        · subst hki; rw [upd_same] at hk; cases hk
        · rw [upd_other _ _ _ hki] at hk; exact .inr (.inr ⟨k, ek, hk, hbk⟩)
  have _ := hi9
  have st' := St.replEnt (w1 := w) st 900 i (.row s ety sz m cells) rfl rfl rfl (Nat.le_refl _) (fun _ _ _ => rfl) (fun b' hb' => .inl ⟨_, hi, hb'⟩) (EntOk.mono (WLe.shrink w hsub) (fun _ _ => rfl) (st.own i _ hi))
  have hj' : upd (upd h i none) 900 (some (.row s ety sz m cells)) j = some (.box b cs) := by rw [upd_other _ _ _ hj9', upd_other _ _ _ hji]; exact hj
  obtain ⟨cur, ty', h1, h2⟩ := st'.own j _ hj'
  have hiff := xs_upd_same (G := G) (en := .box b (cs.set q (.orow 900 s))) hj' rfl
  refine St.setEnt (w1 := w) st' j _ rfl rfl rfl (Nat.le_refl _) (fun _ _ _ => rfl) (fun b' hb' => .inl ⟨_, hj', hb'⟩) ?_
  refine ⟨cur, ty', h1, ?_⟩
  obtain ⟨y, hy1, hy2⟩ := relL_get h2 hq
  simp only [Rel] at hy2
  have hset : cur.toList = cur.toList.set q s := by
    apply List.ext_getElem?
    intro r
    by_cases hr : r = q
    · subst hr
      have hlt := (List.getElem?_eq_some_iff.1 hy1).1
      rw [List.getElem?_set_self hlt, hy1, hy2.1]
    · rw [List.getElem?_set_ne (Ne.symm hr)]
  rw [hset]
  exact relL_set q (RelL.mono (WLe.shrink w fun b hb => (hiff b).1 hb) h2) (by simp only [Rel]; exact ⟨trivial, hy2.2⟩)
theorem V_mv_cell {c : Code} {j q i b ety sz m : Nat} {s : Value} {cells cs : List AVal} (hj : h j = some (.box b cs)) (hq : cs[q]? = some (.orow i s)) (hi : h i = some (.row s ety sz m cells)) (hj9 : Nat.beq j 900 = false) (hi9 : h 900 = none ∨ i = 900)
    (hk : V P G n c Q e (upd (upd (upd h i none) 900 (some (.row s ety sz m cells))) j (some (.box b (cs.set q (.orow 900 s)))))) : V P G n c Q e h := fun a w st => hk a w (st.mv_cell hj hq hi hj9 hi9)

/-- A function's end that hands back a struct with an own row. -/
theorem fin_cm {p ty i b : Nat} {cells : List AVal} {en : Ent} {post : AVal → List Ent → Prop} (h1 : e p = .own i b 0) (h2 : h i = some (.box b cells)) (h3 : chkAgg P ty cells.length = true) (hh : h 900 = some en) (hp : post (.agg cells) [en]) :
    fin P #[.cell p ty] post .ret e h :=
  ⟨.inl rfl, .agg cells, [en], ⟨[.agg cells], ⟨_, _, rfl, ⟨i, b, cells, h1, h2, h3, rfl⟩, rfl⟩, .inl ⟨_, rfl, rfl⟩⟩, fun k hk h' => by
    cases k with
    | zero => simp at h'; subst h'; exact hh
    | succ k => simp at h', hp⟩

/-- A call that hands back a picture without lights yet. -/
theorem VL_callB {fo : Operand} {xs : List Operand} {ts : Array TypeId} {f : FuncId} {caps ins : List AVal} {a b : Int} {ety : Nat} {pos : String} {after : Array Edge}
    (hf : ev e fo = .fn f caps) [CallT P f] (hl : LendL G h (fun _ => False) (xs.map (ev e) ++ caps) ins) (hc : CtM P f ins [] (fun out mu' => ∃ s, out = .agg [I64 a, I64 b, .orow 900 s] ∧ mu' = [.row s ety 1 0 []]))
    (hcan : xs.all canonO = true) (hcf : canonO fo = true) (hd : Nat.blt d n = true)
    (hk : ∀ s, VL P G n ops rest Q (upd e d (.agg [I64 a, I64 b, .orow d s])) (upd h d (some (.row s ety 1 0 [])))) :
    VL P G n ops (⟨some d, .call { callee := .value fo, args := xs.toArray, argTypes := ts }, ty, pos, after, none⟩ :: rest) Q e h := by
  have hb : blks [] = fun _ => False := by funext b; exact propext ⟨fun ⟨en, h1, _⟩ => (by cases h1), fun hh => hh.elim⟩
  refine VL_callM (ix := [d]) (mu := []) hf (by rw [hb]; exact hl) hc (muAt_nil (nodup_one d)) (fun en hen => by cases hen) ?_ hcan hcf hd ?_
  · rintro out mu' ⟨s, rfl, rfl⟩
    refine ⟨fun u hu => ?_, fun en hen => ?_⟩
    · simp only [List.mem_cons, List.not_mem_nil, or_false] at hu
      rcases hu with rfl | rfl | rfl <;> trivial
    · simp only [List.mem_singleton] at hen; subst hen
      intro u hu; cases hu
  · rintro out mu' ⟨s, rfl, rfl⟩
    exact hk s

theorem run_loadCellsFrom {w : World} {ad : Addr} : ∀ (xs : List Value) (i : Nat) (acc : Array Value), (∀ j, j < xs.length → w.cell? (ad.add (i + j)) = xs[j]?) → (loadCellsFrom ad i xs.length acc).run P w = .ok (acc ++ xs.toArray) w
  | [], i, acc, _ => by simp [loadCellsFrom]
  | x :: xs, i, acc, h => by
    have h0 := h 0 (by simp)
    simp only [Nat.add_zero, List.getElem?_cons_zero] at h0
    simp only [List.length_cons, loadCellsFrom, Sem.run_bind, run_load_cell h0, Result.andThen_ok]
    rw [run_loadCellsFrom xs (i + 1) (acc.push x) fun j hj => by
      have := h (j + 1) (by simpa using hj)
      rw [show i + 1 + j = i + (j + 1) by omega]; simpa using this]
    congr 1
    simp
/-- A struct behind a pointer. -/
theorem op_load_pa {t : TypeId} {x : Operand} {sz : Nat} {cells : List AVal} [ht : AggT P t sz] (hx : ev e x = .ptr 0 cells) (hs : cells.length = sz) (hf : ∀ u ∈ cells, flat0 u = true) (hcx : canonO x = true) :
    EvalOp P G n e h (.load t x) ty (.agg cells) := fun a w st _ _ _ _ => by
  have h1 := st.rel x hcx
  rw [hx] at h1; simp only [Rel] at h1
  obtain ⟨b, off, h2, _, _, h3⟩ := h1
  obtain ⟨xs, h4, h5⟩ := relF_list h3
  have hl := relL_length h4
  have h6 := @run_isAgg_agg P t sz ⟨ht.ok, ht.sz⟩ w
  obtain ⟨i, h7, h8⟩ := @AggT.size P t sz ⟨ht.ok, ht.sz⟩
  have hrun : (loadCells ⟨b, off, none⟩ sz).run P w = .ok xs.toArray w := by
    have := run_loadCellsFrom (P := P) (w := w) (ad := ⟨b, off, none⟩) xs 0 #[] (fun j hj => by rw [Nat.zero_add, addr_add]; exact (h5 j (by omega)).symm)
    unfold loadCells
    rw [← hs, ← hl]
    simpa using this
  refine ⟨.agg xs.toArray, w, ?_, Same.refl w, by simp only [Rel]; exact ⟨xs, rfl, RelL.flat hf h4⟩⟩
  simp only [execOp, Instr.loadAt, h2, Nat.add_zero, Instr.sureAddr, loadVar, Sem.run_bind, Sem.run_pure, Result.andThen_ok, h6, if_true, sizeOf, typeInfo, run_program, h7, h8, hrun]
theorem E_load_pa {t : TypeId} {x : Operand} {sz : Nat} {cells : List AVal} [AggT P t sz] (hx : ev e x = .ptr 0 cells := by rfl) (hs : cells.length = sz := by rfl) (hf : cells.all flat0 = true := by rfl) (hcx : canonO x = true := by rfl) :
    EvalOp P G n e h (.load t x) ty (.agg cells) := op_load_pa hx hs (fun u hu => List.all_eq_true.1 hf u hu) hcx

/-- A call that marks a picture's lights, or a list's. -/
theorem VL_callMP {x y : Operand} {fo : Operand} {ts : Array TypeId} {f : FuncId} {a b k k' : Int} {q m : Nat} {s : Value} {cs cs' : List AVal}
    (hf : ev e fo = .fn f []) [CallT P f] (hx : ev e x = .agg [I64 a, I64 b, .orow q s]) (hy : ev e y = .v (.int .i64 k)) (hq : h q = some (.arr s m cs)) (hc : CtM P f [.agg [I64 a, I64 b, .orow 900 s], I64 k] [.arr s m cs] (fun o mu' => o = I64 k' ∧ mu' = [.arr s m cs']))
    (hp : ∀ u ∈ cs, plainA u = true) (hp' : ∀ u ∈ cs', plainA u = true) (hcx : canonO x = true) (hcy : canonO y = true) (hcf : canonO fo = true) (hd : Nat.blt d n = true)
    (hk : VL P G n ops rest Q (upd e d (I64 k')) (upd h q (some (.arr s m cs')))) :
    VL P G n ops (⟨some d, .call { callee := .value fo, args := #[x, y], argTypes := ts }, ty, pos, after, none⟩ :: rest) Q e h := by
  refine VL_callW (q := q) (xs := [x, y]) hf hq ?_ hc hp hp' (show Fresh2 (I64 k') from trivial) (by simp [hcx, hcy]) hcf hd hk
  simp only [List.map_cons, List.map_nil, List.append_nil, hx, hy]
  exact lend_cons (lend_agg (lend_cons lend_v (lend_cons lend_v (lend_cons lend_rowraw lend_nil)))) (lend_cons lend_v lend_nil)
theorem VL_callML {x y : Operand} {fo : Operand} {ts : Array TypeId} {f : FuncId} {k k' : Int} {q m : Nat} {s : Value} {cs cs' : List AVal}
    (hf : ev e fo = .fn f []) [CallT P f] (hx : ev e x = .orow q s) (hy : ev e y = .v (.int .i64 k)) (hq : h q = some (.arr s m cs)) (hc : CtM P f [.orow 900 s, I64 k] [.arr s m cs] (fun o mu' => o = I64 k' ∧ mu' = [.arr s m cs']))
    (hp : ∀ u ∈ cs, plainA u = true) (hp' : ∀ u ∈ cs', plainA u = true) (hcx : canonO x = true) (hcy : canonO y = true) (hcf : canonO fo = true) (hd : Nat.blt d n = true)
    (hk : VL P G n ops rest Q (upd e d (I64 k')) (upd h q (some (.arr s m cs')))) :
    VL P G n ops (⟨some d, .call { callee := .value fo, args := #[x, y], argTypes := ts }, ty, pos, after, none⟩ :: rest) Q e h := by
  refine VL_callW (q := q) (xs := [x, y]) hf hq ?_ hc hp hp' (show Fresh2 (I64 k') from trivial) (by simp [hcx, hcy]) hcf hd hk
  simp only [List.map_cons, List.map_nil, List.append_nil, hx, hy]
  exact lend_cons lend_rowraw (lend_cons lend_v lend_nil)
theorem ale_nil {u v : Value} {fr : Nat} {us : List AVal} : ALe (.tup (.agg [.v u, .v v, .v (.slice none 0 0)] :: us)) (.tup (.agg [.v u, .v v, .sl fr 0 []] :: us)) := by
  intro X B C w x hx
  simp only [Rel, RelL] at hx ⊢
  obtain ⟨arr, rfl, x0, r0, rfl, ⟨arr', rfl, x1, r1, rfl, h1, x2, r2, rfl, h2, x3, r3, rfl, h3, rfl⟩, hr⟩ := hx
  refine ⟨_, rfl, _, _, rfl, ⟨_, rfl, _, _, rfl, h1, _, _, rfl, h2, _, _, rfl, ?_, rfl⟩, hr⟩
  have := c0_other h3 (by intro k b; simp)
  subst this
  exact ⟨none, 0, rfl, .inl ⟨trivial, trivial⟩⟩

/-- A literal of no element that is to be handed back: entry 900. -/
theorem VL_lit9 {t el bytes sz : Nat} {z : Value} [hs : SliceT P t el] [hel : ElemT P el sz bytes z] (hd : Nat.blt d n = true)
    (hk : ∀ s, VL P G n ops rest Q (upd e d (.orow 900 s)) (upd h 900 (some (.row s el sz 0 [])))) : VL P G n ops (⟨some d, .buildSlice t 0 #[], ty, pos, after, none⟩ :: rest) Q e h := fun a w st => by
  obtain ⟨i, hi1, hi2, hi3, hi4⟩ := hel.ok
  have hr : (execOp a.eval ⟨some d, .buildSlice t 0 #[], ty, pos, after, none⟩).run P w = .ok (.value (.slice (some ⟨w.heap.size, 0, none⟩) 0 0)) (w.alloc (.cells #[] el)) := by
    simp [execOp, Instr.buildSlice, run_underlying hs.ok, sizeOf, typeInfo, hi1, Instr.fill, newRow, Array.range_zero']
  have hen : ∀ b, (Ent.row (.slice (some ⟨w.heap.size, 0, none⟩) 0 0) el sz 0 []).blk = some b → w.heap.size ≤ b := fun b hb => by
    simp [Ent.blk, Value.ownBlock] at hb; omega
  refine wpl_value rfl hr rfl (hk _ _ _ (St.put (St.newEnt (w1 := w.alloc (.cells #[] el)) st 900 _ rfl rfl rfl (by simp) (fun b hb => Below.heap_alloc w _ b hb) hen ?_) d (by simpa using hd) _ _ (by simp [Rel])))
  exact ⟨[], World.ownsRow_made w #[] 0 (Nat.zero_le _) (Nat.zero_le _) (by simp), by simp [RelL]⟩
end
end Go.Av
/-
What is lent, reckoned; the rules of the walk under short names, their side conditions found by themselves.
-/
namespace Go.Av
open Go.RowKit

def AllL (p : AVal → Prop) : List AVal → Prop
  | [] => True
  | u :: us => p u ∧ AllL p us

/-- What a callee is told of what the caller holds. -/
def lendN : Nat → Hp → AVal → AVal
  | 0, _, _ => .any
  | k + 1, h, u => match u with
    | .sl _ m cs => .sl 0 m cs
    | .agg cs => .agg (cs.map (lendN k h))
    | .own i b o => match h i with
      | some (.box _ cs) => .ptr o (cs.map (lendN k h))
      | _ => .own i b o
    | .orow i s => match h i with
      | some (.row _ _ _ m cs) => .sl 0 m cs
      | some (.arr _ m cs) => .sl 0 m cs
      | _ => .orow i s
    | .fn f cs => .fn f (cs.map (lendN k h))
    | .tup _ => .any
    | u => u
/-- The boxes and rows are those that the heap tells. -/
def lendP : Nat → Hp → AVal → Prop
  | 0, _, _ => True
  | k + 1, h, u => match u with
    | .agg cs => AllL (lendP k h) cs
    | .own i b _ => match h i with
      | some (.box b' cs) => b' = b ∧ AllL (lendP k h) cs
      | _ => True
    | .orow i s => match h i with
      | some (.row s' _ _ _ _) => s' = s
      | some (.arr s' _ _) => s' = s
      | _ => True
    | .fn _ cs => AllL (lendP k h) cs
    | _ => True

section
variable {P : Program} {G : Glob} {n : Nat} {h : Hp}
theorem lend_row' {i ety sz m : Nat} {s : Value} {cs : List AVal} (hi : h i = some (.row s ety sz m cs)) : Lend G h (fun _ => False) (.orow i s) (.sl 0 m cs) := fun n e a w st _ _ x hr B C => by
  simp only [Rel] at hr
  obtain ⟨rfl, _⟩ := hr
  exact rel_row_sl (st.own i _ hi) (X' := fun _ => False) (fun _ hb => hb.elim) (fun _ _ hf => hf) (fun _ _ hf => by cases hf) (fun _ _ hf => by cases hf)
theorem lend_arr' {i m : Nat} {s : Value} {cs : List AVal} (hi : h i = some (.arr s m cs)) : Lend G h (fun _ => False) (.orow i s) (.sl 0 m cs) := fun n e a w st _ _ x hr B C => by
  simp only [Rel] at hr ⊢
  obtain ⟨rfl, _⟩ := hr
  obtain ⟨ad, cap, h3, h4⟩ := st.own i _ hi
  refine ⟨ad, cap, h3, ?_⟩
  rcases h4 with ⟨h5, h6⟩ | ⟨b, off, cur, ty', hm0, hadr, hg, hle, hrel⟩
  · exact .inl ⟨h5, h6⟩
  · subst hadr
    subst h3
    refine .inr ⟨b, off, rfl, (Array.getElem?_eq_some_iff.1 hg).1, fun hf => hf, fun hf => (by cases hf), fun hf => (by cases hf), fun _ => ⟨_, _, hg⟩, ?_⟩
    refine relF_of_list (RelL.mono (WLe.shrink w fun _ hb => hb.elim) hrel).lower fun j hj => ?_
    rw [cell_of_own hg, List.getElem?_take, if_pos (by omega), List.getElem?_drop]
    simp
theorem lendL_map {M : Nat → Prop} {p : AVal → Prop} {g : AVal → AVal} (hg : ∀ u, p u → Lend G h M u (g u)) : ∀ {us : List AVal}, AllL p us → LendL G h M us (us.map g)
  | [], _ => rfl
  | u :: _, hp => ⟨_, _, rfl, hg u hp.1, lendL_map hg hp.2⟩
theorem lendN_sound : ∀ (k : Nat) (u : AVal), lendP k h u → Lend G h (fun _ => False) u (lendN k h u)
  | 0, u, _ => lend_any
  | k + 1, u, hp => by
    cases u with
    | sl fr m cs => exact lend_sl (fun _ hf => hf.elim)
    | agg cs => exact lend_agg (lendL_map (lendN_sound k) hp)
    | fn f cs => exact lend_fn (lendL_map (lendN_sound k) hp)
    | tup xs => exact lend_any
    | any => exact lend_any
    | v x => exact lend_v
    | ptr o cs => exact lend_ptr (fun _ hf => hf.elim)
    | own i b o =>
      simp only [lendN, lendP] at hp ⊢
      cases hi : h i with
      | none => exact lend_ownraw
      | some en =>
        cases en with
        | box b' cs =>
          simp only [hi] at hp
          obtain ⟨rfl, hp⟩ := hp
          exact lend_box hi (fun hf => hf) (lendL_map (lendN_sound k) hp)
        | row s ty sz m cs => exact lend_ownraw
        | arr s m cs => exact lend_ownraw
    | orow i s =>
      simp only [lendN, lendP] at hp ⊢
      cases hi : h i with
      | none => exact lend_rowraw
      | some en =>
        cases en with
        | box b' cs => exact lend_rowraw
        | row s' ty sz m cs => simp only [hi] at hp; subst hp; exact lend_row' hi
        | arr s' m cs => simp only [hi] at hp; subst hp; exact lend_arr' hi
theorem lendAll {k : Nat} {us ins : List AVal} (hi : us.map (lendN k h) = ins) (hp : AllL (lendP k h) us) : LendL G h (fun _ => False) us ins := hi ▸ lendL_map (lendN_sound k) hp
end
section
variable {P : Program} {G : Glob} {n : Nat} {Q : Post} {e : Env} {h : Hp} {ops : Array Oper} {rest : List Oper} {d : Nat} {ty : TypeId} {pos : String} {after : Array Edge} {K : Env → Prop} {k : Nat} {listed : Array Bool}
theorem xaa {x : Operand} {u : AVal} {K : AVal → Prop} (hk : K u) (hc : canonO x = true := by rfl) (hu : ev e x = u := by (conv => lhs; whnf) <;> rfl) : OpThen P G n e h (.move x) ty K := op_then (E_move (hc := hc) (hu := hu)) hk
theorem xab {x : Operand} {u : AVal} {K : AVal → Prop} (hk : K u) (hc : canonO x = true := by rfl) (hu : ev e x = u := by (conv => lhs; whnf) <;> rfl) : OpThen P G n e h (.assign x) ty K := op_then (E_assign (hc := hc) (hu := hu)) hk
theorem xac {t : TypeId} {x : Operand} {o : Nat} {xs : List Nat} [OneT P t] {K : AVal → Prop} (hk : K (.v (.float .f32 (xs.getD o 0)))) (hx : ev e x = .ptr o (fl xs) := by rfl) (hl : o < xs.length := by omega) (hcx : canonO x = true := by rfl) : OpThen P G n e h (.load t x) ty K := op_then (E_load_f (hx := hx) (hl := hl) (hcx := hcx)) hk
theorem xad {t : TypeId} {x : Operand} {i b o : Nat} {cells : List AVal} {u : AVal} [OneT P t] {K : AVal → Prop} (hk : K u) (hx : ev e x = .own i b o := by rfl) (hi : h i = some (.box b cells) := by rfl) (hu : cells[o]? = some u := by rfl) (hcx : canonO x = true := by rfl) : OpThen P G n e h (.load t x) ty K := op_then (E_load_o (hx := hx) (hi := hi) (hu := hu) (hcx := hcx)) hk
theorem xae {t : TypeId} {x : Operand} {o : Nat} {cells : List AVal} {u : AVal} [OneT P t] {K : AVal → Prop} (hk : K u) (hx : ev e x = .ptr o cells := by rfl) (hu : cells[o]? = some u := by rfl) (hcx : canonO x = true := by rfl) (hf : flat0 u = true := by rfl) : OpThen P G n e h (.load t x) ty K := op_then (E_load_p (hx := hx) (hu := hu) (hcx := hcx) (hf := hf)) hk
theorem xaf {t : TypeId} {x : Operand} {sz : Nat} {cells : List AVal} [AggT P t sz] {K : AVal → Prop} (hk : K (.agg cells)) (hx : ev e x = .ptr 0 cells := by rfl) (hs : cells.length = sz := by rfl) (hf : cells.all flat0 = true := by rfl) (hcx : canonO x = true := by rfl) : OpThen P G n e h (.load t x) ty K := op_then (E_load_pa (hx := hx) (hs := hs) (hf := hf) (hcx := hcx)) hk
theorem xag {t : TypeId} {x : Operand} {i b sz : Nat} {cells : List AVal} [AggT P t sz] {K : AVal → Prop} (hk : K (.agg cells)) (hx : ev e x = .own i b 0 := by rfl) (hi : h i = some (.box b cells) := by rfl) (hs : cells.length = sz := by rfl) (hcx : canonO x = true := by rfl) : OpThen P G n e h (.load t x) ty K := op_then (E_load_oa (hx := hx) (hi := hi) (hs := hs) (hcx := hcx)) hk
theorem xah {t : TypeId} {x : Operand} {o : Nat} {xs : List Int} [OneT P t] {K : AVal → Prop} (hk : K (.v (.int .i64 (xs.getD o 0)))) (hx : ev e x = .ptr o (il xs) := by rfl) (hl : o < xs.length := by omega) (hcx : canonO x = true := by rfl) : OpThen P G n e h (.load t x) ty K := op_then (E_load_i (hx := hx) (hl := hl) (hcx := hcx)) hk
theorem xai {t : TypeId} {x : Operand} {i b o ety sz m : Nat} {s : Value} {cells : List AVal} {u : AVal} [OneT P t] {K : AVal → Prop} (hk : K u) (hx : ev e x = .own i b o := by rfl) (hi : h i = some (.row s ety sz m cells) := by rfl) (hs : s.ownBlock = some b := by rfl) (hu : cells[o]? = some u := by rfl) (hcx : canonO x = true := by rfl) : OpThen P G n e h (.load t x) ty K := op_then (E_load_r (hx := hx) (hi := hi) (hs := hs) (hu := hu) (hcx := hcx)) hk
theorem xaj {s k off : Nat} {x : Operand} {o : Nat} {cells : List AVal} [FieldT P s k off] {K : AVal → Prop} (hk : K (.ptr (o + off) cells)) (hx : ev e x = .ptr o cells := by rfl) (hcx : canonO x = true := by rfl) : OpThen P G n e h (.fieldAddr s x k) ty K := op_then (E_field_p (hx := hx) (hcx := hcx)) hk
theorem xak {s k off : Nat} {x : Operand} {i b o : Nat} [FieldT P s k off] {K : AVal → Prop} (hk : K (.own i b (o + off))) (hx : ev e x = .own i b o := by rfl) (hcx : canonO x = true := by rfl) : OpThen P G n e h (.fieldAddr s x k) ty K := op_then (E_field_o (hx := hx) (hcx := hcx)) hk
theorem xal {t el : Nat} {x ix : Operand} {fr m : Nat} {i : Nat} {cells : List AVal} [SliceT P t el] [SizeT P el 1] {K : AVal → Prop} (hk : K (.ptr i cells)) (hx : ev e x = .sl fr m cells := by rfl) (hi : ev e ix = .v (.int .i64 (i : Int)) := by rfl) (h0 : i < m := by omega) (hcx : canonO x = true := by rfl) (hci : canonO ix = true := by rfl) : OpThen P G n e h (.indexAddr t x ix) ty K := op_then (E_index1 (hx := hx) (hi := hi) (h0 := h0) (hcx := hcx) (hci := hci)) hk
theorem xam {t el : Nat} {x ix : Operand} {fr m : Nat} {i : Int} {cells : List AVal} [SliceT P t el] [SizeT P el 1] {K : AVal → Prop} (hk : K (.ptr i.toNat cells)) (hx : ev e x = .sl fr m cells := by rfl) (hi : ev e ix = .v (.int .i64 i) := by rfl) (h0 : 0 ≤ i ∧ i < m := by omega) (hcx : canonO x = true := by rfl) (hci : canonO ix = true := by rfl) : OpThen P G n e h (.indexAddr t x ix) ty K := op_then (E_index1' (hx := hx) (hi := hi) (h0 := h0) (hcx := hcx) (hci := hci)) hk
theorem xan {t el sz : Nat} {x ix : Operand} {fr m : Nat} {i : Int} {cells : List AVal} [SliceT P t el] [SizeT P el sz] {K : AVal → Prop} (hk : K (.ptr (i.toNat * sz) cells)) (hx : ev e x = .sl fr m cells := by rfl) (hi : ev e ix = .v (.int .i64 i) := by rfl) (h0 : 0 ≤ i ∧ i < m := by omega) (hcx : canonO x = true := by rfl) (hci : canonO ix = true := by rfl) : OpThen P G n e h (.indexAddr t x ix) ty K := op_then (E_index (hx := hx) (hi := hi) (h0 := h0) (hcx := hcx) (hci := hci)) hk
theorem xao {t el : Nat} {x : Operand} {fr m : Nat} {cells : List AVal} [SliceT P t el] {K : AVal → Prop} (hk : K (.v (.int .i64 m))) (hx : ev e x = .sl fr m cells := by rfl) (hcx : canonO x = true := by rfl) : OpThen P G n e h (.call { callee := .builtin .len, args := #[x], argTypes := #[t] }) ty K := op_then (E_len (hx := hx) (hcx := hcx)) hk
theorem xap {t el : Nat} {x : Operand} [SliceT P t el] {K : AVal → Prop} (hk : K (.v (.int .i64 0))) (hx : ev e x = .v (.slice none 0 0) := by rfl) (hcx : canonO x = true := by rfl) : OpThen P G n e h (.call { callee := .builtin .len, args := #[x], argTypes := #[t] }) ty K := op_then (E_len_nil (hx := hx) (hcx := hcx)) hk
theorem xaq {t el : Nat} {x : Operand} {i ety sz m : Nat} {s : Value} {cells : List AVal} [SliceT P t el] {K : AVal → Prop} (hk : K (.v (.int .i64 m))) (hx : ev e x = .orow i s := by rfl) (hi : h i = some (.row s ety sz m cells) := by rfl) (hcx : canonO x = true := by rfl) : OpThen P G n e h (.call { callee := .builtin .len, args := #[x], argTypes := #[t] }) ty K := op_then (E_len_o (hx := hx) (hi := hi) (hcx := hcx)) hk
theorem xar {t el : Nat} {x : Operand} {i m : Nat} {s : Value} {cells : List AVal} [SliceT P t el] {K : AVal → Prop} (hk : K (.v (.int .i64 m))) (hx : ev e x = .orow i s := by rfl) (hi : h i = some (.arr s m cells) := by rfl) (hcx : canonO x = true := by rfl) : OpThen P G n e h (.call { callee := .builtin .len, args := #[x], argTypes := #[t] }) ty K := op_then (E_len_a (hx := hx) (hi := hi) (hcx := hcx)) hk
theorem xas {x : Operand} {o : Nat} {cells : List AVal} {K : AVal → Prop} (hk : K (.ptr o cells)) (hx : ev e x = .ptr o cells := by rfl) (hcx : canonO x = true := by rfl) : OpThen P G n e h (.nilCheck x) ty K := op_then (E_nilCheck_p (hx := hx) (hcx := hcx)) hk
theorem xat {x : Operand} {i b o : Nat} {K : AVal → Prop} (hk : K (.own i b o)) (hx : ev e x = .own i b o := by rfl) (hcx : canonO x = true := by rfl) : OpThen P G n e h (.nilCheck x) ty K := op_then (E_nilCheck_o (hx := hx) (hcx := hcx)) hk
theorem xau {xt yt : TypeId} {x y : Operand} {k : IntKind} {p q : Int} {K : AVal → Prop} (hk : K (.v (.bool true))) (hx : ev e x = .v (.int k p) := by rfl) (hy : ev e y = .v (.int k q) := by rfl) (hcx : canonO x = true := by rfl) (hcy : canonO y = true := by rfl) (hd : p < q := by omega) : OpThen P G n e h (.binOp .lss xt x y yt) ty K := op_then (E_lss_t (hx := hx) (hy := hy) (hcx := hcx) (hcy := hcy) (hd := hd)) hk
theorem xav {xt yt : TypeId} {x y : Operand} {k : IntKind} {p q : Int} {K : AVal → Prop} (hk : K (.v (.bool false))) (hx : ev e x = .v (.int k p) := by rfl) (hy : ev e y = .v (.int k q) := by rfl) (hcx : canonO x = true := by rfl) (hcy : canonO y = true := by rfl) (hd : ¬ (p < q) := by omega) : OpThen P G n e h (.binOp .lss xt x y yt) ty K := op_then (E_lss_f (hx := hx) (hy := hy) (hcx := hcx) (hcy := hcy) (hd := hd)) hk
theorem xaw {xt yt : TypeId} {x y : Operand} {k : IntKind} {p q : Int} {K : AVal → Prop} (hk : K (.v (.bool (decide (p < q))))) (hx : ev e x = .v (.int k p) := by rfl) (hy : ev e y = .v (.int k q) := by rfl) (hcx : canonO x = true := by rfl) (hcy : canonO y = true := by rfl) : OpThen P G n e h (.binOp .lss xt x y yt) ty K := op_then (E_lss (hx := hx) (hy := hy) (hcx := hcx) (hcy := hcy)) hk
theorem xax {xt yt : TypeId} {x y : Operand} {k : IntKind} {p q : Int} {K : AVal → Prop} (hk : K (.v (.bool true))) (hx : ev e x = .v (.int k p) := by rfl) (hy : ev e y = .v (.int k q) := by rfl) (hcx : canonO x = true := by rfl) (hcy : canonO y = true := by rfl) (hd : p ≤ q := by omega) : OpThen P G n e h (.binOp .leq xt x y yt) ty K := op_then (E_leq_t (hx := hx) (hy := hy) (hcx := hcx) (hcy := hcy) (hd := hd)) hk
theorem xay {xt yt : TypeId} {x y : Operand} {k : IntKind} {p q : Int} {K : AVal → Prop} (hk : K (.v (.bool false))) (hx : ev e x = .v (.int k p) := by rfl) (hy : ev e y = .v (.int k q) := by rfl) (hcx : canonO x = true := by rfl) (hcy : canonO y = true := by rfl) (hd : ¬ (p ≤ q) := by omega) : OpThen P G n e h (.binOp .leq xt x y yt) ty K := op_then (E_leq_f (hx := hx) (hy := hy) (hcx := hcx) (hcy := hcy) (hd := hd)) hk
theorem xaz {xt yt : TypeId} {x y : Operand} {k : IntKind} {p q : Int} {K : AVal → Prop} (hk : K (.v (.bool (decide (p ≤ q))))) (hx : ev e x = .v (.int k p) := by rfl) (hy : ev e y = .v (.int k q) := by rfl) (hcx : canonO x = true := by rfl) (hcy : canonO y = true := by rfl) : OpThen P G n e h (.binOp .leq xt x y yt) ty K := op_then (E_leq (hx := hx) (hy := hy) (hcx := hcx) (hcy := hcy)) hk
theorem xba {xt yt : TypeId} {x y : Operand} {k : IntKind} {p q : Int} {K : AVal → Prop} (hk : K (.v (.bool true))) (hx : ev e x = .v (.int k p) := by rfl) (hy : ev e y = .v (.int k q) := by rfl) (hcx : canonO x = true := by rfl) (hcy : canonO y = true := by rfl) (hd : q < p := by omega) : OpThen P G n e h (.binOp .gtr xt x y yt) ty K := op_then (E_gtr_t (hx := hx) (hy := hy) (hcx := hcx) (hcy := hcy) (hd := hd)) hk
theorem xbb {xt yt : TypeId} {x y : Operand} {k : IntKind} {p q : Int} {K : AVal → Prop} (hk : K (.v (.bool false))) (hx : ev e x = .v (.int k p) := by rfl) (hy : ev e y = .v (.int k q) := by rfl) (hcx : canonO x = true := by rfl) (hcy : canonO y = true := by rfl) (hd : ¬ (q < p) := by omega) : OpThen P G n e h (.binOp .gtr xt x y yt) ty K := op_then (E_gtr_f (hx := hx) (hy := hy) (hcx := hcx) (hcy := hcy) (hd := hd)) hk
theorem xbc {xt yt : TypeId} {x y : Operand} {k : IntKind} {p q : Int} {K : AVal → Prop} (hk : K (.v (.bool (decide (q < p))))) (hx : ev e x = .v (.int k p) := by rfl) (hy : ev e y = .v (.int k q) := by rfl) (hcx : canonO x = true := by rfl) (hcy : canonO y = true := by rfl) : OpThen P G n e h (.binOp .gtr xt x y yt) ty K := op_then (E_gtr (hx := hx) (hy := hy) (hcx := hcx) (hcy := hcy)) hk
theorem xbd {xt yt : TypeId} {x y : Operand} {k : IntKind} {p q : Int} {K : AVal → Prop} (hk : K (.v (.bool true))) (hx : ev e x = .v (.int k p) := by rfl) (hy : ev e y = .v (.int k q) := by rfl) (hcx : canonO x = true := by rfl) (hcy : canonO y = true := by rfl) (hd : q ≤ p := by omega) : OpThen P G n e h (.binOp .geq xt x y yt) ty K := op_then (E_geq_t (hx := hx) (hy := hy) (hcx := hcx) (hcy := hcy) (hd := hd)) hk
theorem xbe {xt yt : TypeId} {x y : Operand} {k : IntKind} {p q : Int} {K : AVal → Prop} (hk : K (.v (.bool false))) (hx : ev e x = .v (.int k p) := by rfl) (hy : ev e y = .v (.int k q) := by rfl) (hcx : canonO x = true := by rfl) (hcy : canonO y = true := by rfl) (hd : ¬ (q ≤ p) := by omega) : OpThen P G n e h (.binOp .geq xt x y yt) ty K := op_then (E_geq_f (hx := hx) (hy := hy) (hcx := hcx) (hcy := hcy) (hd := hd)) hk
theorem xbf {xt yt : TypeId} {x y : Operand} {k : IntKind} {p q : Int} {K : AVal → Prop} (hk : K (.v (.bool (decide (q ≤ p))))) (hx : ev e x = .v (.int k p) := by rfl) (hy : ev e y = .v (.int k q) := by rfl) (hcx : canonO x = true := by rfl) (hcy : canonO y = true := by rfl) : OpThen P G n e h (.binOp .geq xt x y yt) ty K := op_then (E_geq (hx := hx) (hy := hy) (hcx := hcx) (hcy := hcy)) hk
theorem xbg {xt yt : TypeId} {x y : Operand} {k : IntKind} {p q : Int} {K : AVal → Prop} (hk : K (.v (.bool true))) (hx : ev e x = .v (.int k p) := by rfl) (hy : ev e y = .v (.int k q) := by rfl) (hcx : canonO x = true := by rfl) (hcy : canonO y = true := by rfl) (hd : p = q := by omega) : OpThen P G n e h (.binOp .eql xt x y yt) ty K := op_then (E_eql_t (hx := hx) (hy := hy) (hcx := hcx) (hcy := hcy) (hd := hd)) hk
theorem xbh {xt yt : TypeId} {x y : Operand} {k : IntKind} {p q : Int} {K : AVal → Prop} (hk : K (.v (.bool false))) (hx : ev e x = .v (.int k p) := by rfl) (hy : ev e y = .v (.int k q) := by rfl) (hcx : canonO x = true := by rfl) (hcy : canonO y = true := by rfl) (hd : ¬ (p = q) := by omega) : OpThen P G n e h (.binOp .eql xt x y yt) ty K := op_then (E_eql_f (hx := hx) (hy := hy) (hcx := hcx) (hcy := hcy) (hd := hd)) hk
theorem xbi {xt yt : TypeId} {x y : Operand} {k : IntKind} {p q : Int} {K : AVal → Prop} (hk : K (.v (.bool (decide (p = q))))) (hx : ev e x = .v (.int k p) := by rfl) (hy : ev e y = .v (.int k q) := by rfl) (hcx : canonO x = true := by rfl) (hcy : canonO y = true := by rfl) : OpThen P G n e h (.binOp .eql xt x y yt) ty K := op_then (E_eql (hx := hx) (hy := hy) (hcx := hcx) (hcy := hcy)) hk
theorem xbj {xt yt : TypeId} {x y : Operand} {k : IntKind} {p q : Int} {K : AVal → Prop} (hk : K (.v (.bool true))) (hx : ev e x = .v (.int k p) := by rfl) (hy : ev e y = .v (.int k q) := by rfl) (hcx : canonO x = true := by rfl) (hcy : canonO y = true := by rfl) (hd : p ≠ q := by omega) : OpThen P G n e h (.binOp .neq xt x y yt) ty K := op_then (E_neq_t (hx := hx) (hy := hy) (hcx := hcx) (hcy := hcy) (hd := hd)) hk
theorem xbk {xt yt : TypeId} {x y : Operand} {k : IntKind} {p q : Int} {K : AVal → Prop} (hk : K (.v (.bool false))) (hx : ev e x = .v (.int k p) := by rfl) (hy : ev e y = .v (.int k q) := by rfl) (hcx : canonO x = true := by rfl) (hcy : canonO y = true := by rfl) (hd : ¬ (p ≠ q) := by omega) : OpThen P G n e h (.binOp .neq xt x y yt) ty K := op_then (E_neq_f (hx := hx) (hy := hy) (hcx := hcx) (hcy := hcy) (hd := hd)) hk
theorem xbl {xt yt : TypeId} {x y : Operand} {k : IntKind} {p q : Int} {K : AVal → Prop} (hk : K (.v (.bool (decide (p ≠ q))))) (hx : ev e x = .v (.int k p) := by rfl) (hy : ev e y = .v (.int k q) := by rfl) (hcx : canonO x = true := by rfl) (hcy : canonO y = true := by rfl) : OpThen P G n e h (.binOp .neq xt x y yt) ty K := op_then (E_neq (hx := hx) (hy := hy) (hcx := hcx) (hcy := hcy)) hk
theorem xbm {xt yt : TypeId} {x y : Operand} {p q : Int} {K : AVal → Prop} (hk : K (.v (.int .i64 (p + q)))) (hx : ev e x = .v (.int .i64 p) := by rfl) (hy : ev e y = .v (.int .i64 q) := by rfl) (hcx : canonO x = true := by rfl) (hcy : canonO y = true := by rfl) (h1 : -9223372036854775808 ≤ p + q ∧ p + q ≤ 9223372036854775807 := by omega) : OpThen P G n e h (.binOp .add xt x y yt) ty K := op_then (E_addi (hx := hx) (hy := hy) (hcx := hcx) (hcy := hcy) (h1 := h1)) hk
theorem xbn {xt yt : TypeId} {x y : Operand} {k : IntKind} {p q : Int} {K : AVal → Prop} (hk : K (.v (.int k (k.wrap (p + q))))) (hx : ev e x = .v (.int k p) := by rfl) (hy : ev e y = .v (.int k q) := by rfl) (hcx : canonO x = true := by rfl) (hcy : canonO y = true := by rfl) : OpThen P G n e h (.binOp .add xt x y yt) ty K := op_then (E_add (hx := hx) (hy := hy) (hcx := hcx) (hcy := hcy)) hk
theorem xbo {xt yt : TypeId} {x y : Operand} {p q : Int} {K : AVal → Prop} (hk : K (.v (.int .i64 (p - q)))) (hx : ev e x = .v (.int .i64 p) := by rfl) (hy : ev e y = .v (.int .i64 q) := by rfl) (hcx : canonO x = true := by rfl) (hcy : canonO y = true := by rfl) (h1 : -9223372036854775808 ≤ p - q ∧ p - q ≤ 9223372036854775807 := by omega) : OpThen P G n e h (.binOp .sub xt x y yt) ty K := op_then (E_subi (hx := hx) (hy := hy) (hcx := hcx) (hcy := hcy) (h1 := h1)) hk
theorem xbp {xt yt : TypeId} {x y : Operand} {k : IntKind} {p q : Int} {K : AVal → Prop} (hk : K (.v (.int k (k.wrap (p - q))))) (hx : ev e x = .v (.int k p) := by rfl) (hy : ev e y = .v (.int k q) := by rfl) (hcx : canonO x = true := by rfl) (hcy : canonO y = true := by rfl) : OpThen P G n e h (.binOp .sub xt x y yt) ty K := op_then (E_sub (hx := hx) (hy := hy) (hcx := hcx) (hcy := hcy)) hk
theorem xbq {xt yt : TypeId} {x y : Operand} {p q : Int} {K : AVal → Prop} (hk : K (.v (.int .i64 (p * q)))) (hx : ev e x = .v (.int .i64 p) := by rfl) (hy : ev e y = .v (.int .i64 q) := by rfl) (hcx : canonO x = true := by rfl) (hcy : canonO y = true := by rfl) (h1 : -9223372036854775808 ≤ p * q ∧ p * q ≤ 9223372036854775807 := by omega) : OpThen P G n e h (.binOp .mul xt x y yt) ty K := op_then (E_muli (hx := hx) (hy := hy) (hcx := hcx) (hcy := hcy) (h1 := h1)) hk
theorem xbr {xt yt : TypeId} {x y : Operand} {k : IntKind} {p q : Int} {K : AVal → Prop} (hk : K (.v (.int k (k.wrap (p * q))))) (hx : ev e x = .v (.int k p) := by rfl) (hy : ev e y = .v (.int k q) := by rfl) (hcx : canonO x = true := by rfl) (hcy : canonO y = true := by rfl) : OpThen P G n e h (.binOp .mul xt x y yt) ty K := op_then (E_mul (hx := hx) (hy := hy) (hcx := hcx) (hcy := hcy)) hk
theorem xbs {xt yt : TypeId} {x y : Operand} {p q : Int} {K : AVal → Prop} (hk : K (.v (.int .i64 (p / q)))) (hx : ev e x = .v (.int .i64 p) := by rfl) (hy : ev e y = .v (.int .i64 q) := by rfl) (hcx : canonO x = true := by rfl) (hcy : canonO y = true := by rfl) (h0 : 0 ≤ p ∧ 0 < q ∧ p ≤ 9223372036854775807 := by omega) : OpThen P G n e h (.binOp .quo xt x y yt) ty K := op_then (E_quoi (hx := hx) (hy := hy) (hcx := hcx) (hcy := hcy) (h0 := h0)) hk
theorem xbt {xt yt : TypeId} {x y : Operand} {p q : Int} {K : AVal → Prop} (hk : K (.v (.int .i64 (p % q)))) (hx : ev e x = .v (.int .i64 p) := by rfl) (hy : ev e y = .v (.int .i64 q) := by rfl) (hcx : canonO x = true := by rfl) (hcy : canonO y = true := by rfl) (h0 : 0 ≤ p ∧ 0 < q := by omega) : OpThen P G n e h (.binOp .rem xt x y yt) ty K := op_then (E_remi (hx := hx) (hy := hy) (hcx := hcx) (hcy := hcy) (h0 := h0)) hk
theorem xbu {c x y : Operand} {u : AVal} {K : AVal → Prop} (hk : K u) (hb : ev e c = .v (.bool true) := by rfl) (hc : canonO c = true := by rfl) (hx : canonO x = true := by rfl) (hu : ev e x = u := by (conv => lhs; whnf) <;> rfl) : OpThen P G n e h (.pick c x y) ty K := op_then (E_pick_true (hb := hb) (hc := hc) (hx := hx) (hu := hu)) hk
theorem xbv {c x y : Operand} {u : AVal} {K : AVal → Prop} (hk : K u) (hb : ev e c = .v (.bool false) := by rfl) (hc : canonO c = true := by rfl) (hy : canonO y = true := by rfl) (hu : ev e y = u := by (conv => lhs; whnf) <;> rfl) : OpThen P G n e h (.pick c x y) ty K := op_then (E_pick_false (hb := hb) (hc := hc) (hy := hy) (hu := hu)) hk
theorem xbw {c x y : Operand} {t p q : Bool} {K : AVal → Prop} (hk : K (.v (.bool (bif t then p else q)))) (hb : ev e c = .v (.bool t) := by rfl) (hp : ev e x = .v (.bool p) := by rfl) (hq : ev e y = .v (.bool q) := by rfl) (hc : canonO c = true := by rfl) (hx : canonO x = true := by rfl) (hy : canonO y = true := by rfl) : OpThen P G n e h (.pick c x y) ty K := op_then (E_pick (hb := hb) (hp := hp) (hq := hq) (hc := hc) (hx := hx) (hy := hy)) hk
theorem xbx {t : TypeId} {x : Operand} {p : Bool} {K : AVal → Prop} (hk : K (.v (.bool (!p)))) (hx : ev e x = .v (.bool p) := by rfl) (hcx : canonO x = true := by rfl) : OpThen P G n e h (.unOp .not t x) ty K := op_then (E_not (hx := hx) (hcx := hcx)) hk
theorem xby {x : Operand} {i : Nat} {us : List AVal} {u : AVal} {K : AVal → Prop} (hk : K u) (hx : ev e x = .tup us := by rfl) (hi : us[i]? = some u := by rfl) (hcx : canonO x = true := by rfl) : OpThen P G n e h (.extract x i) ty K := op_then (E_extract (hx := hx) (hi := hi) (hcx := hcx)) hk
theorem xbz {xt yt : TypeId} {x y : Operand} {k : FloatKind} {p q : Nat} {K : AVal → Prop} (hk : K (.v (.float k (fop .add k p q)))) (hx : ev e x = .v (.float k p) := by rfl) (hy : ev e y = .v (.float k q) := by rfl) (hcx : canonO x = true := by rfl) (hcy : canonO y = true := by rfl) : OpThen P G n e h (.binOp .add xt x y yt) ty K := op_then (E_fadd (hx := hx) (hy := hy) (hcx := hcx) (hcy := hcy)) hk
theorem xca {xt yt : TypeId} {x y : Operand} {k : FloatKind} {p q : Nat} {K : AVal → Prop} (hk : K (.v (.float k (fop .sub k p q)))) (hx : ev e x = .v (.float k p) := by rfl) (hy : ev e y = .v (.float k q) := by rfl) (hcx : canonO x = true := by rfl) (hcy : canonO y = true := by rfl) : OpThen P G n e h (.binOp .sub xt x y yt) ty K := op_then (E_fsub (hx := hx) (hy := hy) (hcx := hcx) (hcy := hcy)) hk
theorem xcb {xt yt : TypeId} {x y : Operand} {k : FloatKind} {p q : Nat} {K : AVal → Prop} (hk : K (.v (.float k (fop .mul k p q)))) (hx : ev e x = .v (.float k p) := by rfl) (hy : ev e y = .v (.float k q) := by rfl) (hcx : canonO x = true := by rfl) (hcy : canonO y = true := by rfl) : OpThen P G n e h (.binOp .mul xt x y yt) ty K := op_then (E_fmul (hx := hx) (hy := hy) (hcx := hcx) (hcy := hcy)) hk
theorem xcc {xt yt : TypeId} {x y : Operand} {k : FloatKind} {p q : Nat} {K : AVal → Prop} (hk : K (.v (.float k (fop .quo k p q)))) (hx : ev e x = .v (.float k p) := by rfl) (hy : ev e y = .v (.float k q) := by rfl) (hcx : canonO x = true := by rfl) (hcy : canonO y = true := by rfl) : OpThen P G n e h (.binOp .quo xt x y yt) ty K := op_then (E_fquo (hx := hx) (hy := hy) (hcx := hcx) (hcy := hcy)) hk
theorem xcd {xt yt : TypeId} {x y : Operand} {k : FloatKind} {p q : Nat} {K : AVal → Prop} (hk : K (.v (.bool (fcmp .lss k p q)))) (hx : ev e x = .v (.float k p) := by rfl) (hy : ev e y = .v (.float k q) := by rfl) (hcx : canonO x = true := by rfl) (hcy : canonO y = true := by rfl) : OpThen P G n e h (.binOp .lss xt x y yt) ty K := op_then (E_flss (hx := hx) (hy := hy) (hcx := hcx) (hcy := hcy)) hk
theorem xce {xt yt : TypeId} {x y : Operand} {k : FloatKind} {p q : Nat} {K : AVal → Prop} (hk : K (.v (.bool (fcmp .leq k p q)))) (hx : ev e x = .v (.float k p) := by rfl) (hy : ev e y = .v (.float k q) := by rfl) (hcx : canonO x = true := by rfl) (hcy : canonO y = true := by rfl) : OpThen P G n e h (.binOp .leq xt x y yt) ty K := op_then (E_fleq (hx := hx) (hy := hy) (hcx := hcx) (hcy := hcy)) hk
theorem xcf {xt yt : TypeId} {x y : Operand} {k : FloatKind} {p q : Nat} {K : AVal → Prop} (hk : K (.v (.bool (fcmp .gtr k p q)))) (hx : ev e x = .v (.float k p) := by rfl) (hy : ev e y = .v (.float k q) := by rfl) (hcx : canonO x = true := by rfl) (hcy : canonO y = true := by rfl) : OpThen P G n e h (.binOp .gtr xt x y yt) ty K := op_then (E_fgtr (hx := hx) (hy := hy) (hcx := hcx) (hcy := hcy)) hk
theorem xcg {xt yt : TypeId} {x y : Operand} {k : FloatKind} {p q : Nat} {K : AVal → Prop} (hk : K (.v (.bool (fcmp .geq k p q)))) (hx : ev e x = .v (.float k p) := by rfl) (hy : ev e y = .v (.float k q) := by rfl) (hcx : canonO x = true := by rfl) (hcy : canonO y = true := by rfl) : OpThen P G n e h (.binOp .geq xt x y yt) ty K := op_then (E_fgeq (hx := hx) (hy := hy) (hcx := hcx) (hcy := hcy)) hk
theorem xch {xt yt : TypeId} {x y : Operand} {k : FloatKind} {p q : Nat} {K : AVal → Prop} (hk : K (.v (.bool (fcmp .eql k p q)))) (hx : ev e x = .v (.float k p) := by rfl) (hy : ev e y = .v (.float k q) := by rfl) (hcx : canonO x = true := by rfl) (hcy : canonO y = true := by rfl) : OpThen P G n e h (.binOp .eql xt x y yt) ty K := op_then (E_feql (hx := hx) (hy := hy) (hcx := hcx) (hcy := hcy)) hk
theorem xci {xt yt : TypeId} {x y : Operand} {k : FloatKind} {p q : Nat} {K : AVal → Prop} (hk : K (.v (.bool (fcmp .neq k p q)))) (hx : ev e x = .v (.float k p) := by rfl) (hy : ev e y = .v (.float k q) := by rfl) (hcx : canonO x = true := by rfl) (hcy : canonO y = true := by rfl) : OpThen P G n e h (.binOp .neq xt x y yt) ty K := op_then (E_fneq (hx := hx) (hy := hy) (hcx := hcx) (hcy := hcy)) hk
theorem xcj {t : TypeId} {x : Operand} {k : FloatKind} {p : Nat} {K : AVal → Prop} (hk : K (.v (.float k (fneg k p)))) (hx : ev e x = .v (.float k p) := by rfl) (hcx : canonO x = true := by rfl) : OpThen P G n e h (.unOp .neg t x) ty K := op_then (E_fneg (hx := hx) (hcx := hcx)) hk
theorem xck {t : TypeId} {x : Operand} {p : Int} {K : AVal → Prop} (hk : K (.v (.int .i64 (-p)))) (hx : ev e x = .v (.int .i64 p) := by rfl) (hcx : canonO x = true := by rfl) (hb : -9223372036854775807 ≤ p ∧ p ≤ 9223372036854775807 := by omega) : OpThen P G n e h (.unOp .neg t x) ty K := op_then (E_ineg (hx := hx) (hcx := hcx) (hb := hb)) hk
theorem xcl {xt yt : TypeId} {x y : Operand} {p q : Bool} [BoolT P xt] {K : AVal → Prop} (hk : K (.v (.bool (p == q)))) (hx : ev e x = .v (.bool p) := by rfl) (hy : ev e y = .v (.bool q) := by rfl) (hcx : canonO x = true := by rfl) (hcy : canonO y = true := by rfl) : OpThen P G n e h (.binOp .eql xt x y yt) ty K := op_then (E_beql (hx := hx) (hy := hy) (hcx := hcx) (hcy := hcy)) hk
theorem xcm {xt yt : TypeId} {x y : Operand} {p q : Bool} [BoolT P xt] {K : AVal → Prop} (hk : K (.v (.bool (p != q)))) (hx : ev e x = .v (.bool p) := by rfl) (hy : ev e y = .v (.bool q) := by rfl) (hcx : canonO x = true := by rfl) (hcy : canonO y = true := by rfl) : OpThen P G n e h (.binOp .neq xt x y yt) ty K := op_then (E_bneq (hx := hx) (hy := hy) (hcx := hcx) (hcy := hcy)) hk
theorem xcn {s d : TypeId} {x : Operand} {p : Nat} [FloatT P s .f32] [FloatT P d .f64] {K : AVal → Prop} (hk : K (.v (.float .f64 (widen p)))) (hx : ev e x = .v (.float .f32 p) := by rfl) (hcx : canonO x = true := by rfl) : OpThen P G n e h (.convert s d x) ty K := op_then (E_widen (hx := hx) (hcx := hcx)) hk
theorem xco {s d : TypeId} {x : Operand} {p : Nat} [FloatT P s .f64] [FloatT P d .f32] {K : AVal → Prop} (hk : K (.v (.float .f32 (narrow p)))) (hx : ev e x = .v (.float .f64 p) := by rfl) (hcx : canonO x = true := by rfl) (hf : fits32 p = true := by assumption) : OpThen P G n e h (.convert s d x) ty K := op_then (E_narrow (hx := hx) (hcx := hcx) (hf := hf)) hk
theorem xcp {s d : TypeId} {x : Operand} {k : FloatKind} {p : Nat} [FloatT P s k] [FloatT P d k] {K : AVal → Prop} (hk : K (.v (.float k p))) (hx : ev e x = .v (.float k p) := by rfl) (hcx : canonO x = true := by rfl) : OpThen P G n e h (.convert s d x) ty K := op_then (E_ftof (hx := hx) (hcx := hcx)) hk
theorem xcq {s d : TypeId} {x : Operand} {q : IntKind} {k : FloatKind} {p : Int} [IntT P s q] [FloatT P d k] {K : AVal → Prop} (hk : K (.v (.float k (floatOfInt k p)))) (hx : ev e x = .v (.int q p) := by rfl) (hcx : canonO x = true := by rfl) : OpThen P G n e h (.convert s d x) ty K := op_then (E_itof (hx := hx) (hcx := hcx)) hk
theorem xcr {s d : TypeId} {x : Operand} {q : IntKind} {p : Int} [IntT P s q] [IntT P d .i64] {K : AVal → Prop} (hk : K (.v (.int .i64 p))) (hx : ev e x = .v (.int q p) := by rfl) (hcx : canonO x = true := by rfl) (hb : -9223372036854775808 ≤ p ∧ p ≤ 9223372036854775807 := by omega) : OpThen P G n e h (.convert s d x) ty K := op_then (E_itoi64 (hx := hx) (hcx := hcx) (hb := hb)) hk
theorem xcs {s d : TypeId} {x : Operand} {q k : IntKind} {p : Int} [IntT P s q] [IntT P d k] {K : AVal → Prop} (hk : K (.v (.int k (k.wrap p)))) (hx : ev e x = .v (.int q p) := by rfl) (hcx : canonO x = true := by rfl) : OpThen P G n e h (.convert s d x) ty K := op_then (E_itoi (hx := hx) (hcx := hcx)) hk
theorem xct {f : FuncId} {caps : List Operand} {K : AVal → Prop} (hk : K (.fn f (caps.map (ev e)))) (hc : caps.all canonO = true := by rfl) : OpThen P G n e h (.makeFunc (.func f) #[] caps.toArray) ty K := op_then (E_makeFunc (hc := hc)) hk
theorem xcu {t k : Nat} {zs : List Value} {ps : List (Nat × Operand)} {cells : List AVal} [BuildT P t k] [ZeroT P t zs] {K : AVal → Prop} (hk : K (.agg cells)) (hlen : zs.length = k := by rfl) (hps : okParts k e ps = true := by rfl) (hc : built e (zs.map AVal.v) ps = cells := by (conv => lhs; whnf) <;> rfl) : OpThen P G n e h (.build t ps.toArray) ty K := op_then (E_build (hlen := hlen) (hps := hps) (hc := hc)) hk
theorem ra {d g j : Nat} {want : Bool} {op : Op} {ty : TypeId} {pos : String} {after : Array Edge} (hk : VL P G n ops (⟨some d, op, ty, pos, after, none⟩ :: rest) Q e h) (hj : (ops[g]?).bind (·.dst) = some j := by rfl) (hv : e j = .v (.bool want) := by rfl) : VL P G n ops (⟨some d, op, ty, pos, after, some (g, want)⟩ :: rest) Q e h := VL_yes (hj := hj) (hv := hv) (hk := hk)
theorem rb {d g j : Nat} {want t : Bool} {op : Op} {ty : TypeId} {pos : String} {after : Array Edge} (hk : VL P G n ops rest Q (upd e d (.v undef)) h) (hj : (ops[g]?).bind (·.dst) = some j := by rfl) (hv : e j = .v (.bool t) := by rfl) (ht : (t == want) = false := by rfl) (hd : Nat.blt d n = true := by rfl) : VL P G n ops (⟨some d, op, ty, pos, after, some (g, want)⟩ :: rest) Q e h := VL_no (hj := hj) (hv := hv) (ht := ht) (hd := hd) (hk := hk)
theorem rc {d g j : Nat} {want : Bool} {op : Op} {ty : TypeId} {pos : String} {after : Array Edge} (hk : VL P G n ops rest Q (upd e d (.v undef)) h) (hj : (ops[g]?).bind (·.dst) = some j := by rfl) (hv : e j = .v undef := by rfl) (hd : Nat.blt d n = true := by rfl) : VL P G n ops (⟨some d, op, ty, pos, after, some (g, want)⟩ :: rest) Q e h := VL_undef (hj := hj) (hv := hv) (hd := hd) (hk := hk)
theorem rd {o : Oper} {g j : Nat} {want t b : Bool} (h1 : VL P G n ops (o :: rest) Q (upd e j (.v (.bool b))) h) (hg : o.guard = some (g, want) := by rfl) (hj : (ops[g]?).bind (·.dst) = some j := by rfl) (hv : e j = .v (.bool t) := by rfl) (ht : t = b := by assumption) : VL P G n ops (o :: rest) Q e h := VL_known (hg := hg) (hj := hj) (hv := hv) (ht := ht) (h1 := h1)
theorem re {P : Program} {G : Glob} {n : Nat} {Q : Post} {e : Env} {h : Hp} {c : Operand} {x y : Code} (ht : V P G n x Q e h) (hc : ev e c = .v (.bool true) := by rfl) (hcc : canonO c = true := by rfl) : V P G n (.cond c x y) Q e h := V_cond_true (hc := hc) (hcc := hcc) (ht := ht)
theorem rf {P : Program} {G : Glob} {n : Nat} {Q : Post} {e : Env} {h : Hp} {c : Operand} {x y : Code} (hf : V P G n y Q e h) (hc : ev e c = .v (.bool false) := by rfl) (hcc : canonO c = true := by rfl) : V P G n (.cond c x y) Q e h := V_cond_false (hc := hc) (hcc := hcc) (hf := hf)
theorem rg {P : Program} {G : Glob} {n : Nat} {Q : Post} {e : Env} {h : Hp} {c : Operand} {x y : Code} {t : Bool} (ht : t = true → V P G n x Q e h) (hf : t = false → V P G n y Q e h) (hc : ev e c = .v (.bool t) := by rfl) (hcc : canonO c = true := by rfl) : V P G n (.cond c x y) Q e h := V_cond (hc := hc) (hcc := hcc) (ht := ht) (hf := hf)
theorem rh {el : TypeId} {x : Operand} {cells : List AVal} (hk : ∀ b, VL P G n ops rest Q (upd e d (.own d b 0)) (upd h d (some (.box b cells)))) (hx : ev e x = .agg cells := by rfl) (hcx : canonO x = true := by rfl) (hd : Nat.blt d n = true := by rfl) : VL P G n ops (⟨some d, .box el x, ty, pos, after, none⟩ :: rest) Q e h := VL_box_agg (hx := hx) (hcx := hcx) (hd := hd) (hk := hk)
theorem ri {el : TypeId} {x : Operand} {u : AVal} (hk : ∀ b, VL P G n ops rest Q (upd e d (.own d b 0)) (upd h d (some (.box b [u])))) (hx : ev e x = u := by (conv => lhs; whnf) <;> rfl) (hu : cellA u = true := by rfl) (hcx : canonO x = true := by rfl) (hd : Nat.blt d n = true := by rfl) : VL P G n ops (⟨some d, .box el x, ty, pos, after, none⟩ :: rest) Q e h := VL_box_one (hx := hx) (hu := hu) (hcx := hcx) (hd := hd) (hk := hk)
theorem rj {el : TypeId} {zs : List Value} [ZeroT P el zs] (hk : ∀ b, VL P G n ops rest Q (upd e d (.own d b 0)) (upd h d (some (.box b (zs.map AVal.v))))) (hd : Nat.blt d n = true := by rfl) : VL P G n ops (⟨some d, .alloc el, ty, pos, after, none⟩ :: rest) Q e h := VL_alloc (hd := hd) (hk := hk)
theorem rk {t : TypeId} {p x : Operand} {i b off : Nat} {cells : List AVal} {u : AVal} [SizeT P t 1] (hk : VL P G n ops rest Q e (upd h i (some (.box b (cells.set off u))))) (hp : ev e p = .own i b off := by rfl) (hi : h i = some (.box b cells) := by rfl) (hl : Nat.blt off cells.length = true := by rfl) (hx : ev e x = u := by (conv => lhs; whnf) <;> rfl) (hu : cellA u = true := by rfl) (hcp : canonO p = true := by rfl) (hcx : canonO x = true := by rfl) : VL P G n ops (⟨none, .store t p x, ty, pos, after, none⟩ :: rest) Q e h := VL_store (hp := hp) (hi := hi) (hl := hl) (hx := hx) (hu := hu) (hcp := hcp) (hcx := hcx) (hk := hk)
theorem rl {t : TypeId} {p x : Operand} {i b sz : Nat} {cells cells' : List AVal} [AggT P t sz] (hk : VL P G n ops rest Q e (upd h i (some (.box b cells')))) (hp : ev e p = .own i b 0 := by rfl) (hi : h i = some (.box b cells) := by rfl) (hl : cells.length = sz := by rfl) (hx : ev e x = .agg cells' := by rfl) (hl' : cells'.length = sz := by rfl) (hu : cells'.all cellA = true := by rfl) (hcp : canonO p = true := by rfl) (hcx : canonO x = true := by rfl) : VL P G n ops (⟨none, .store t p x, ty, pos, after, none⟩ :: rest) Q e h := VL_store_agg (hp := hp) (hi := hi) (hl := hl) (hx := hx) (hl' := hl') (hu := hu) (hcp := hcp) (hcx := hcx) (hk := hk)
theorem rm {P : Program} {G : Glob} {n : Nat} {Q : Post} {e : Env} {h : Hp} {ops : Array Oper} {rest : List Oper} {d : Nat} {ty : TypeId} {pos : String} {after : Array Edge} {t el bytes : Nat} {z : Value} {arr : Array (Nat × Operand)} {xs : List Operand} {us : List AVal} {m : Nat} [SliceT P t el] [ElemT P el 1 bytes z] (hk : VL P G n ops rest Q (upd e d (.sl 2 m us)) h) (hxs : arr.toList.map (·.2) = xs := by rfl) (harr : (lits xs 0).toArray = arr := by rfl) (hz1 : z.oneCell' = true := by rfl) (hm : xs.length = m := by rfl) (hm0 : Nat.ble m 16777216 = true := by rfl) (hus : xs.map (ev e) = us := by rfl) (hu : us.all cellA = true := by rfl) (hfl : us.all flat0 = true := by rfl) (hc : xs.all canonO = true := by rfl) (hd : Nat.blt d n = true := by rfl) : VL P G n ops (⟨some d, .buildSlice t m arr, ty, pos, after, none⟩ :: rest) Q e h := VL_lit2 (hxs := hxs) (harr := harr) (hz1 := hz1) (hm := hm) (hm0 := hm0) (hus := hus) (hu := hu) (hfl := hfl) (hc := hc) (hd := hd) (hk := hk)
theorem rn {t el bytes sz : Nat} {z : Value} [SliceT P t el] [ElemT P el sz bytes z] (hk : ∀ s, VL P G n ops rest Q (upd e d (.orow d s)) (upd h d (some (.row s el sz 0 [])))) (hd : Nat.blt d n = true := by rfl) : VL P G n ops (⟨some d, .buildSlice t 0 #[], ty, pos, after, none⟩ :: rest) Q e h := VL_lit0 (hd := hd) (hk := hk)
theorem ro {t el : Nat} {x ix : Operand} {j ety m i : Nat} {s : Value} {cells : List AVal} [SliceT P t el] [SizeT P el 1] (hk : ∀ b, s.ownBlock = some b → VL P G n ops rest Q (upd e d (.own j b i)) h) (hx : ev e x = .orow j s := by rfl) (hj : h j = some (.row s ety 1 m cells) := by rfl) (hi : ev e ix = .v (.int .i64 (i : Int)) := by rfl) (h0 : i < m := by omega) (hcx : canonO x = true := by rfl) (hci : canonO ix = true := by rfl) (hd : Nat.blt d n = true := by rfl) : VL P G n ops (⟨some d, .indexAddr t x ix, ty, pos, after, none⟩ :: rest) Q e h := VL_index_r1 (hx := hx) (hj := hj) (hi := hi) (h0 := h0) (hcx := hcx) (hci := hci) (hd := hd) (hk := hk)
theorem rp {t el sz : Nat} {x ix : Operand} {j ety m : Nat} {s : Value} {i : Int} {cells : List AVal} [SliceT P t el] [SizeT P el sz] (hk : ∀ b, s.ownBlock = some b → VL P G n ops rest Q (upd e d (.own j b (i.toNat * sz))) h) (hx : ev e x = .orow j s := by rfl) (hj : h j = some (.row s ety sz m cells) := by rfl) (hi : ev e ix = .v (.int .i64 i) := by rfl) (h0 : 0 ≤ i ∧ i < m := by omega) (hcx : canonO x = true := by rfl) (hci : canonO ix = true := by rfl) (hd : Nat.blt d n = true := by rfl) : VL P G n ops (⟨some d, .indexAddr t x ix, ty, pos, after, none⟩ :: rest) Q e h := VL_index_r (hx := hx) (hj := hj) (hi := hi) (h0 := h0) (hcx := hcx) (hci := hci) (hd := hd) (hk := hk)
theorem rq {t el : Nat} {x ix : Operand} {j m : Nat} {s : Value} {i : Nat} {cells : List AVal} [SliceT P t el] [SizeT P el 1] (hk : ∀ b o cap, s = .slice (some ⟨b, o, none⟩) m cap → VL P G n ops rest Q (upd e d (.own j b (o + i))) h) (hx : ev e x = .orow j s := by rfl) (hj : h j = some (.arr s m cells) := by rfl) (hi : ev e ix = .v (.int .i64 (i : Int)) := by rfl) (h0 : i < m := by omega) (hcx : canonO x = true := by rfl) (hci : canonO ix = true := by rfl) (hd : Nat.blt d n = true := by rfl) : VL P G n ops (⟨some d, .indexAddr t x ix, ty, pos, after, none⟩ :: rest) Q e h := VL_index_a1 (hx := hx) (hj := hj) (hi := hi) (h0 := h0) (hcx := hcx) (hci := hci) (hd := hd) (hk := hk)
theorem rr {t el bytes : Nat} {z : Value} {l c : Operand} {m : Nat} [SliceT P t el] [ElemT P el 1 bytes z] (hk : ∀ s, VL P G n ops rest Q (upd e d (.orow d s)) (upd h d (some (.row s el 1 m (List.replicate m (.v z)))))) (hl : ev e l = .v (.int .i64 (m : Int)) := by rfl) (hc : ev e c = .v (.int .i64 (m : Int)) := by rfl) (hz : canonV z = true := by rfl) (hz1 : z.oneCell' = true := by rfl) (hb : bytes * m ≤ 281474976710656 := by omega) (hm : m ≤ 9223372036854775807 := by omega) (hcl : canonO l = true := by rfl) (hcc : canonO c = true := by rfl) (hd : Nat.blt d n = true := by rfl) : VL P G n ops (⟨some d, .makeSlice t l c, ty, pos, after, none⟩ :: rest) Q e h := VL_make (hl := hl) (hc := hc) (hz := hz) (hz1 := hz1) (hb := hb) (hm := hm) (hcl := hcl) (hcc := hcc) (hd := hd) (hk := hk)
theorem rs {t : TypeId} {p x : Operand} {i b off ety sz m : Nat} {s : Value} {cells : List AVal} {u : AVal} [SizeT P t 1] (hk : VL P G n ops rest Q e (upd h i (some (.row s ety sz m (cells.set off u))))) (hp : ev e p = .own i b off := by rfl) (hi : h i = some (.row s ety sz m cells) := by rfl) (hsb : s.ownBlock = some b := by assumption) (hl : off < cells.length := by first | omega | (rw [filled_length, fl_length]; omega) | (rw [filled_length, il_length]; omega) | (rw [List.length_replicate]; omega) | (rw [fl_length]; omega) | (rw [List.length_set]; omega)) (hx : ev e x = u := by (conv => lhs; whnf) <;> rfl) (hu : cellA u = true := by rfl) (hcp : canonO p = true := by rfl) (hcx : canonO x = true := by rfl) : VL P G n ops (⟨none, .store t p x, ty, pos, after, none⟩ :: rest) Q e h := VL_store_r (hp := hp) (hi := hi) (hsb := hsb) (hl := hl) (hx := hx) (hu := hu) (hcp := hcp) (hcx := hcx) (hk := hk)
theorem rt {t : TypeId} {p x : Operand} {i b o off cap m : Nat} {s : Value} {cells : List AVal} {u : AVal} [SizeT P t 1] (hk : VL P G n ops rest Q e (upd h i (some (.arr s m (cells.set off u))))) (hp : ev e p = .own i b (o + off) := by rfl) (hi : h i = some (.arr s m cells) := by rfl) (hsb : s = .slice (some ⟨b, o, none⟩) m cap := by assumption) (hl : off < cells.length := by first | omega | (rw [filled_length, fl_length]; omega) | (rw [filled_length, il_length]; omega) | (rw [List.length_replicate]; omega) | (rw [fl_length]; omega) | (rw [List.length_set]; omega)) (hx : ev e x = u := by (conv => lhs; whnf) <;> rfl) (hu : cellA u = true := by rfl) (hcp : canonO p = true := by rfl) (hcx : canonO x = true := by rfl) : VL P G n ops (⟨none, .store t p x, ty, pos, after, none⟩ :: rest) Q e h := VL_store_a (hp := hp) (hi := hi) (hsb := hsb) (hl := hl) (hx := hx) (hu := hu) (hcp := hcp) (hcx := hcx) (hk := hk)
theorem ru {t el bytes : Nat} {z : Value} {s x : Operand} {i k' fr : Nat} {s0 : Value} {cells : List AVal} {u : AVal} [SliceT P t el] [ElemT P el 1 bytes z] (hk : ∀ s', VL P G n ops rest Q (upd e d (.orow d s')) (upd (upd h i none) d (some (.row s' el 1 (k' + 1) (cells ++ [u]))))) (hs : ev e s = .orow i s0 := by rfl) (hi : h i = some (.row s0 el 1 k' cells) := by rfl) (hx : ev e x = .sl fr 1 [u] := by rfl) (hu : cellA u = true := by rfl) (hf : flat0 u = true := by rfl) (hb0 : Nat.blt 0 bytes = true := by rfl) (hb : (k' + 1) * bytes ≤ 140737488355328 := by omega) (hcs : canonO s = true := by rfl) (hcx : canonO x = true := by rfl) (hd : Nat.blt d n = true := by rfl) : VL P G n ops (⟨some d, .call { callee := .builtin .append, args := #[s, x], argTypes := #[t, t] }, ty, pos, after, none⟩ :: rest) Q e h := VL_append1 (hs := hs) (hi := hi) (hx := hx) (hu := hu) (hf := hf) (hb0 := hb0) (hb := hb) (hcs := hcs) (hcx := hcx) (hd := hd) (hk := hk)
theorem rv {op : Op} {K : Env → Prop} {g j : Nat} {want t : Bool} (hk : VQ P G n h ops K rest (upd e d (.v undef))) (hj : (ops[g]?).bind (·.dst) = some j := by rfl) (hv : e j = .v (.bool t) := by rfl) (ht : (t == want) = false := by rfl) (hd : Nat.blt d n = true := by rfl) : VQ P G n h ops K (⟨some d, op, ty, pos, after, some (g, want)⟩ :: rest) e := VQ_no (hj := hj) (hv := hv) (ht := ht) (hd := hd) (hk := hk)
theorem rw {op : Op} {K : Env → Prop} {g j : Nat} {want : Bool} (hk : VQ P G n h ops K rest (upd e d (.v undef))) (hj : (ops[g]?).bind (·.dst) = some j := by rfl) (hv : e j = .v undef := by rfl) (hd : Nat.blt d n = true := by rfl) : VQ P G n h ops K (⟨some d, op, ty, pos, after, some (g, want)⟩ :: rest) e := VQ_undef (hj := hj) (hv := hv) (hd := hd) (hk := hk)
theorem rx {o : Oper} {K : Env → Prop} {g j : Nat} {want t b : Bool} (h1 : VQ P G n h ops K (o :: rest) (upd e j (.v (.bool b)))) (_hg : o.guard = some (g, want) := by rfl) (_hj : (ops[g]?).bind (·.dst) = some j := by rfl) (hv : e j = .v (.bool t) := by rfl) (ht : t = b := by assumption) : VQ P G n h ops K (o :: rest) e := VQ_known (_hg := _hg) (_hj := _hj) (hv := hv) (ht := ht) (h1 := h1)
theorem sa {op : Op} {g j : Nat} {want t : Bool} (hk : VT P G n h ops K rest (k + 1) (listed.setIfInBounds k true) (upd e d (.v undef))) (hj : (ops[g]?).bind (·.dst) = some j := by rfl) (hv : e j = .v (.bool t) := by rfl) (ht : (t == want) = false := by rfl) (hd : Nat.blt d n = true := by rfl) : VT P G n h ops K (⟨some d, op, ty, pos, after, some (g, want)⟩ :: rest) k listed e := VT_no (hj := hj) (hv := hv) (ht := ht) (hd := hd) (hk := hk)
theorem sb {op : Op} {g j : Nat} {want : Bool} (hk : VT P G n h ops K rest (k + 1) (listed.setIfInBounds k true) (upd e d (.v undef))) (hj : (ops[g]?).bind (·.dst) = some j := by rfl) (hv : e j = .v undef := by rfl) (hd : Nat.blt d n = true := by rfl) : VT P G n h ops K (⟨some d, op, ty, pos, after, some (g, want)⟩ :: rest) k listed e := VT_undef (hj := hj) (hv := hv) (hd := hd) (hk := hk)
theorem sc {o : Oper} {g j : Nat} {want t b : Bool} (h1 : VT P G n h ops K (o :: rest) k listed (upd e j (.v (.bool b)))) (_hg : o.guard = some (g, want) := by rfl) (_hj : (ops[g]?).bind (·.dst) = some j := by rfl) (hv : e j = .v (.bool t) := by rfl) (ht : t = b := by assumption) : VT P G n h ops K (o :: rest) k listed e := VT_known (_hg := _hg) (_hj := _hj) (hv := hv) (ht := ht) (h1 := h1)
theorem sd {t el bytes : Nat} {z : Value} {arr : Array (Nat × Operand)} {xs : List Operand} {us : List AVal} {m : Nat} [SliceT P t el] [ElemT P el 1 bytes z] (hk : VT P G n h ops K rest (k + 1) (listed.setIfInBounds k true) (upd e d (.sl 2 m us))) (hxs : arr.toList.map (·.2) = xs := by rfl) (harr : (lits xs 0).toArray = arr := by rfl) (hz1 : z.oneCell' = true := by rfl) (hm : xs.length = m := by rfl) (hm0 : Nat.ble m 16777216 = true := by rfl) (hus : xs.map (ev e) = us := by rfl) (hu : us.all cellA = true := by rfl) (hc : xs.all canonO = true := by rfl) (hso : soloAt .any ops listed k = true := by kernel_rfl) (hd : Nat.blt d n = true := by rfl) : VT P G n h ops K (⟨some d, .buildSlice t m arr, ty, pos, after, none⟩ :: rest) k listed e := VT_lit2 (hxs := hxs) (harr := harr) (hz1 := hz1) (hm := hm) (hm0 := hm0) (hus := hus) (hu := hu) (hc := hc) (hso := hso) (hd := hd) (hk := hk)
theorem ta {P : Program} {G : Glob} {n : Nat} {Q : Post} {e : Env} {h : Hp} {ops : Array Oper} {rest : List Oper} {d : Nat} {op : Op} {ty : TypeId} {pos : String} {after : Array Edge} (hk : OpThen P G n e h op ty fun u => VL P G n ops rest Q (upd e d u) h) (hd : Nat.blt d n = true := by rfl) : VL P G n ops (⟨some d, op, ty, pos, after, none⟩ :: rest) Q e h := VL_stepE (hd := hd) (hk := hk)
theorem tb {P : Program} {G : Glob} {n d : Nat} {e : Env} {h : Hp} {ops : Array Oper} {rest : List Oper} {op : Op} {ty : TypeId} {pos : String} {after : Array Edge} {K : Env → Prop} (hk : OpThen P G n e h op ty fun u => VQ P G n h ops K rest (upd e d u)) (hd : Nat.blt d n = true := by rfl) : VQ P G n h ops K (⟨some d, op, ty, pos, after, none⟩ :: rest) e := VQ_opE (hd := hd) (hk := hk)
theorem tc {P : Program} {G : Glob} {n d : Nat} {e : Env} {h : Hp} {ops : Array Oper} {rest : List Oper} {op : Op} {ty : TypeId} {pos : String} {after : Array Edge} {K : Env → Prop} {g j : Nat} {want : Bool} (hk : OpThen P G n e h op ty fun u => VQ P G n h ops K rest (upd e d u)) (hj : (ops[g]?).bind (·.dst) = some j := by rfl) (hv : e j = .v (.bool want) := by rfl) (hd : Nat.blt d n = true := by rfl) : VQ P G n h ops K (⟨some d, op, ty, pos, after, some (g, want)⟩ :: rest) e := VQ_yesE (hj := hj) (hv := hv) (hd := hd) (hk := hk)
theorem td {op : Op} (hk : OpThen P G n e h op ty fun u => VT P G n h ops K rest (k + 1) (listed.setIfInBounds k true) (upd e d u)) (hd : Nat.blt d n = true := by rfl) : VT P G n h ops K (⟨some d, op, ty, pos, after, none⟩ :: rest) k listed e := VT_opE (hd := hd) (hk := hk)
theorem te {op : Op} {g j : Nat} {want : Bool} (hk : OpThen P G n e h op ty fun u => VT P G n h ops K rest (k + 1) (listed.setIfInBounds k true) (upd e d u)) (hj : (ops[g]?).bind (·.dst) = some j := by rfl) (hv : e j = .v (.bool want) := by rfl) (hd : Nat.blt d n = true := by rfl) : VT P G n h ops K (⟨some d, op, ty, pos, after, some (g, want)⟩ :: rest) k listed e := VT_yesE (hj := hj) (hv := hv) (hd := hd) (hk := hk)
theorem ua {o : Oper} {K : Env → Prop} {g j : Nat} {want t : Bool} (h1 : t = true → VQ P G n h ops K (o :: rest) (upd e j (.v (.bool true)))) (h0 : t = false → VQ P G n h ops K (o :: rest) (upd e j (.v (.bool false)))) (_hg : o.guard = some (g, want) := by rfl) (_hj : (ops[g]?).bind (·.dst) = some j := by rfl) (hv : e j = .v (.bool t) := by rfl) : VQ P G n h ops K (o :: rest) e := VQ_split (_hg := _hg) (_hj := _hj) (hv := hv) (h1 := h1) (h0 := h0)
theorem ub {o : Oper} {g j : Nat} {want t : Bool} (h1 : t = true → VT P G n h ops K (o :: rest) k listed (upd e j (.v (.bool true)))) (h0 : t = false → VT P G n h ops K (o :: rest) k listed (upd e j (.v (.bool false)))) (_hg : o.guard = some (g, want) := by rfl) (_hj : (ops[g]?).bind (·.dst) = some j := by rfl) (hv : e j = .v (.bool t) := by rfl) : VT P G n h ops K (o :: rest) k listed e := VT_split (_hg := _hg) (_hj := _hj) (hv := hv) (h1 := h1) (h0 := h0)
theorem uc {o : Oper} {g j : Nat} {want t : Bool} (h1 : t = true → VL P G n ops (o :: rest) Q (upd e j (.v (.bool true))) h) (h0 : t = false → VL P G n ops (o :: rest) Q (upd e j (.v (.bool false))) h) (hg : o.guard = some (g, want) := by rfl) (hj : (ops[g]?).bind (·.dst) = some j := by rfl) (hv : e j = .v (.bool t) := by rfl) : VL P G n ops (o :: rest) Q e h := VL_split (hg := hg) (hj := hj) (hv := hv) (h1 := h1) (h0 := h0)
theorem ka {fo : Operand} {xs : List Operand} {ts : Array TypeId} {f : FuncId} {caps ins : List AVal} {u : AVal} [CallT P f] (hc : Ct P f ins (· = u)) (hk : VL P G n ops rest Q (upd e d u) h)
    (hf : ev e fo = .fn f caps := by rfl) (hi : (xs.map (ev e) ++ caps).map (lendN 6 h) = ins := by rfl) (hp : AllL (lendP 6 h) (xs.map (ev e) ++ caps) := by repeat' (first | exact trivial | exact rfl | constructor)) (hfr : Fresh2 u := by first | trivial | exact fresh_sl _ _ | exact fresh_pic _ _ _ _ | exact fresh_picT _ _ _ _ _ | exact fresh_curve _ _ _ _) (hcan : xs.all canonO = true := by rfl) (hcf : canonO fo = true := by rfl) (hd : Nat.blt d n = true := by rfl) :
    VL P G n ops (⟨some d, .call { callee := .value fo, args := xs.toArray, argTypes := ts }, ty, pos, after, none⟩ :: rest) Q e h := VL_callL hf (lendAll hi hp) hc (fun _ ho => ho ▸ hfr) hcan hcf hd (fun _ ho => ho ▸ hk)
theorem kb {fo : Operand} {xs : List Operand} {ts : Array TypeId} {f : FuncId} {caps ins : List AVal} {u : AVal} [CallT P f] (hc : Ct P f ins (· = u)) (hk : VL P G n ops rest Q (upd e d (fl2 outf u)) h)
    (hf : ev e fo = .fn f caps := by rfl) (hins : callIns e xs caps = ins := by rfl) (hcan : xs.all canonO = true := by rfl) (hcf : canonO fo = true := by rfl) (hd : Nat.blt d n = true := by rfl) :
    VL P G n ops (⟨some d, .call { callee := .value fo, args := xs.toArray, argTypes := ts }, ty, pos, after, none⟩ :: rest) Q e h := VL_call hf hins hc hcan hcf hd (fun _ ho => ho ▸ hk)
theorem kz {fo : Operand} {xs : List Operand} {ts : Array TypeId} {f : FuncId} {caps ins : List AVal} {u : AVal} [CallT P f] (hc : Ct P f ins (· = u)) (hk : VL P G n ops rest Q (upd e d (fl2 outf u)) h)
    (hf : ev e fo = .fn f caps := by rfl) (hins : (callIns e xs caps).map (fl1 fun _ => 0) = ins := by rfl) (hcan : xs.all canonO = true := by rfl) (hcf : canonO fo = true := by rfl) (hd : Nat.blt d n = true := by rfl) :
    VL P G n ops (⟨some d, .call { callee := .value fo, args := xs.toArray, argTypes := ts }, ty, pos, after, none⟩ :: rest) Q e h := VL_callZ hf hins hc hcan hcf hd (fun _ ho => ho ▸ hk)
theorem kc {fo : Operand} {xs : List Operand} {ts : Array TypeId} {f : FuncId} {caps ins : List AVal} {u : AVal} [CallT P f] (hc : Ct P f ins (· = u)) (hk : VQ P G n h ops K rest (upd e d u))
    (hf : ev e fo = .fn f caps := by rfl) (hi : (xs.map (ev e) ++ caps).map (lendN 6 h) = ins := by rfl) (hp : AllL (lendP 6 h) (xs.map (ev e) ++ caps) := by repeat' (first | exact trivial | exact rfl | constructor)) (hu : plainT u = true := by rfl) (hcan : xs.all canonO = true := by rfl) (hcf : canonO fo = true := by rfl) (hd : Nat.blt d n = true := by rfl) :
    VQ P G n h ops K (⟨some d, .call { callee := .value fo, args := xs.toArray, argTypes := ts }, ty, pos, after, none⟩ :: rest) e := VQ_call hf (lendAll hi hp) hc hu hcan hcf hd hk
theorem kd {fo : Operand} {xs : List Operand} {ts : Array TypeId} {f : FuncId} {caps ins : List AVal} {u : AVal} {g j : Nat} {want : Bool} [CallT P f] (hc : Ct P f ins (· = u)) (hk : VQ P G n h ops K rest (upd e d u))
    (hj : (ops[g]?).bind (·.dst) = some j := by rfl) (hv : e j = .v (.bool want) := by rfl) (hf : ev e fo = .fn f caps := by rfl) (hi : (xs.map (ev e) ++ caps).map (lendN 6 h) = ins := by rfl) (hp : AllL (lendP 6 h) (xs.map (ev e) ++ caps) := by repeat' (first | exact trivial | exact rfl | constructor)) (hu : plainT u = true := by rfl) (hcan : xs.all canonO = true := by rfl) (hcf : canonO fo = true := by rfl) (hd : Nat.blt d n = true := by rfl) :
    VQ P G n h ops K (⟨some d, .call { callee := .value fo, args := xs.toArray, argTypes := ts }, ty, pos, after, some (g, want)⟩ :: rest) e := VQ_call_yes hj hv hf (lendAll hi hp) hc hu hcan hcf hd hk
theorem ke {fo : Operand} {xs : List Operand} {ts : Array TypeId} {f : FuncId} {caps ins : List AVal} {u : AVal} [CallT P f] (hc : Ct P f ins (· = u)) (hk : VQ P G n h ops K rest (upd e d u))
    (hf : ev e fo = .fn f caps := by rfl) (hi : (xs.map (ev e) ++ caps).map (lendN 6 h) = ins := by rfl) (hp : AllL (lendP 6 h) (xs.map (ev e) ++ caps) := by repeat' (first | exact trivial | exact rfl | constructor)) (hu : Fresh2 u := by first | trivial | exact fresh_sl _ _ | exact fresh_pic _ _ _ _ | exact fresh_picT _ _ _ _ _ | exact fresh_curve _ _ _ _) (hs : soloB ops (ops.size - (rest.length + 1)) = true := by kernel_rfl) (hcan : xs.all canonO = true := by rfl) (hcf : canonO fo = true := by rfl) (hd : Nat.blt d n = true := by rfl) :
    VQ P G n h ops K (⟨some d, .call { callee := .value fo, args := xs.toArray, argTypes := ts }, ty, pos, after, none⟩ :: rest) e := VQ_callF hf (lendAll hi hp) hc hu hs hcan hcf hd hk
theorem kf {fo : Operand} {xs : List Operand} {ts : Array TypeId} {f : FuncId} {caps ins : List AVal} {u : AVal} [CallT P f] (hc : Ct P f ins (· = u)) (hk : VT P G n h ops K rest (k + 1) (listed.setIfInBounds k true) (upd e d u))
    (hf : ev e fo = .fn f caps := by rfl) (hi : (xs.map (ev e) ++ caps).map (lendN 6 h) = ins := by rfl) (hp : AllL (lendP 6 h) (xs.map (ev e) ++ caps) := by repeat' (first | exact trivial | exact rfl | constructor)) (hu : plainT u = true := by rfl) (hcan : xs.all canonO = true := by rfl) (hcf : canonO fo = true := by rfl) (hd : Nat.blt d n = true := by rfl) :
    VT P G n h ops K (⟨some d, .call { callee := .value fo, args := xs.toArray, argTypes := ts }, ty, pos, after, none⟩ :: rest) k listed e := VT_call hf (lendAll hi hp) hc hu hcan hcf hd hk
/-- the same, where the function's own catches are told by a hypothesis. -/
theorem kg {fo : Operand} {xs : List Operand} {ts : Array TypeId} {f : FuncId} {caps us : List AVal} {u : AVal} [CallT P f] (hcl : ∀ G h, LendL G h (fun _ => False) caps caps) (hc : Ct P f (us ++ caps) (· = u)) (hk : VT P G n h ops K rest (k + 1) (listed.setIfInBounds k true) (upd e d u))
    (hf : ev e fo = .fn f caps := by rfl) (hi : xs.map (ev e) = us := by rfl) (hv : us.all (fun u => match u with | .v _ => true | _ => false) = true := by rfl) (hu : plainT u = true := by rfl) (hcan : xs.all canonO = true := by rfl) (hcf : canonO fo = true := by rfl) (hd : Nat.blt d n = true := by rfl) :
    VT P G n h ops K (⟨some d, .call { callee := .value fo, args := xs.toArray, argTypes := ts }, ty, pos, after, none⟩ :: rest) k listed e := VT_call hf (by
      subst hi
      have : ∀ (us : List AVal), us.all (fun u => match u with | .v _ => true | _ => false) = true → LendL G h (fun _ => False) (us ++ caps) (us ++ caps) := by
        intro us
        induction us with
        | nil => intro _; exact hcl G h
        | cons u us ih =>
          intro hv
          simp only [List.all_cons, Bool.and_eq_true] at hv
          refine lend_cons ?_ (ih hv.2)
          cases u <;> first | exact lend_v | (exact absurd hv.1 (by simp))
      exact this _ hv) hc hu hcan hcf hd hk

end
section
variable {P : Program} {G : Glob} {n : Nat} {Q : Post} {e : Env} {h : Hp} {ops : Array Oper} {rest : List Oper} {d : Nat} {ty : TypeId} {pos : String} {after : Array Edge}
theorem oa {fo : Operand} {xs : List Operand} {ts : Array TypeId} {f : FuncId} {caps ins : List AVal} {a b : Int} {m : Nat} {cs : List AVal} [CallT P f] (hc : Ct P f ins (· = .agg [I64 a, I64 b, .sl 2 m cs])) (hp : ∀ u ∈ cs, plainA u = true)
    (hk : ∀ s, VL P G n ops rest Q (upd e d (.agg [I64 a, I64 b, .orow d s])) (upd h d (some (.arr s m cs)))) (hf : ev e fo = .fn f caps := by rfl) (hi : (xs.map (ev e) ++ caps).map (lendN 6 h) = ins := by rfl) (hq : AllL (lendP 6 h) (xs.map (ev e) ++ caps) := by repeat' (first | exact trivial | exact rfl | constructor)) (hne : m = cs.length := by first | rfl | simp [fl] | simp [il]) (hcan : xs.all canonO = true := by rfl) (hcf : canonO fo = true := by rfl) (hd : Nat.blt d n = true := by rfl) :
    VL P G n ops (⟨some d, .call { callee := .value fo, args := xs.toArray, argTypes := ts }, ty, pos, after, none⟩ :: rest) Q e h := VL_callOP hf (lendAll hi hq) hc hne hp hcan hcf hd hk
theorem ob {fo : Operand} {xs : List Operand} {ts : Array TypeId} {f : FuncId} {caps ins : List AVal} {a b : Int} {us : List Value} {m : Nat} {cs : List AVal} [CallT P f] (hc : Ct P f ins (· = .tup (.agg [I64 a, I64 b, .sl 2 m cs] :: us.map AVal.v))) (hp : ∀ u ∈ cs, plainA u = true)
    (hk : ∀ s, VL P G n ops rest Q (upd e d (.tup (.agg [I64 a, I64 b, .orow d s] :: us.map AVal.v))) (upd h d (some (.arr s m cs)))) (hf : ev e fo = .fn f caps := by rfl) (hi : (xs.map (ev e) ++ caps).map (lendN 6 h) = ins := by rfl) (hq : AllL (lendP 6 h) (xs.map (ev e) ++ caps) := by repeat' (first | exact trivial | exact rfl | constructor)) (hne : m = cs.length := by first | rfl | simp [fl] | simp [il]) (hcan : xs.all canonO = true := by rfl) (hcf : canonO fo = true := by rfl) (hd : Nat.blt d n = true := by rfl) :
    VL P G n ops (⟨some d, .call { callee := .value fo, args := xs.toArray, argTypes := ts }, ty, pos, after, none⟩ :: rest) Q e h := VL_callOPT hf (lendAll hi hq) hc hne hp hcan hcf hd hk
theorem oc {fo : Operand} {xs : List Operand} {ts : Array TypeId} {f : FuncId} {caps ins : List AVal}  {m : Nat} {cs : List AVal} [CallT P f] (hc : Ct P f ins (· = .sl 2 m cs)) (hp : ∀ u ∈ cs, plainA u = true)
    (hk : ∀ s, VL P G n ops rest Q (upd e d (.orow d s)) (upd h d (some (.arr s m cs)))) (hf : ev e fo = .fn f caps := by rfl) (hi : (xs.map (ev e) ++ caps).map (lendN 6 h) = ins := by rfl) (hq : AllL (lendP 6 h) (xs.map (ev e) ++ caps) := by repeat' (first | exact trivial | exact rfl | constructor)) (hne : m = cs.length := by first | rfl | simp [fl] | simp [il]) (hcan : xs.all canonO = true := by rfl) (hcf : canonO fo = true := by rfl) (hd : Nat.blt d n = true := by rfl) :
    VL P G n ops (⟨some d, .call { callee := .value fo, args := xs.toArray, argTypes := ts }, ty, pos, after, none⟩ :: rest) Q e h := VL_callOS hf (lendAll hi hq) hc hne hp hcan hcf hd hk
theorem od {fo : Operand} {xs : List Operand} {ts : Array TypeId} {f : FuncId} {caps ins : List AVal} {us : List Value} {m : Nat} {cs : List AVal} [CallT P f] (hc : Ct P f ins (· = .tup (.sl 2 m cs :: us.map AVal.v))) (hp : ∀ u ∈ cs, plainA u = true)
    (hk : ∀ s, VL P G n ops rest Q (upd e d (.tup (.orow d s :: us.map AVal.v))) (upd h d (some (.arr s m cs)))) (hf : ev e fo = .fn f caps := by rfl) (hi : (xs.map (ev e) ++ caps).map (lendN 6 h) = ins := by rfl) (hq : AllL (lendP 6 h) (xs.map (ev e) ++ caps) := by repeat' (first | exact trivial | exact rfl | constructor)) (hne : m = cs.length := by first | rfl | simp [fl] | simp [il]) (hcan : xs.all canonO = true := by rfl) (hcf : canonO fo = true := by rfl) (hd : Nat.blt d n = true := by rfl) :
    VL P G n ops (⟨some d, .call { callee := .value fo, args := xs.toArray, argTypes := ts }, ty, pos, after, none⟩ :: rest) Q e h := VL_callOT hf (lendAll hi hq) hc hne hp hcan hcf hd hk
theorem oe {fo : Operand} {xs : List Operand} {ts : Array TypeId} {f : FuncId} {caps ins : List AVal} {a b : Int} {ety : Nat} [CallT P f] (hc : CtM P f ins [] (fun out mu' => ∃ s, out = .agg [I64 a, I64 b, .orow 900 s] ∧ mu' = [.row s ety 1 0 []]))
    (hk : ∀ s, VL P G n ops rest Q (upd e d (.agg [I64 a, I64 b, .orow d s])) (upd h d (some (.row s ety 1 0 [])))) (hf : ev e fo = .fn f caps := by rfl) (hi : (xs.map (ev e) ++ caps).map (lendN 6 h) = ins := by rfl) (hq : AllL (lendP 6 h) (xs.map (ev e) ++ caps) := by repeat' (first | exact trivial | exact rfl | constructor)) (hcan : xs.all canonO = true := by rfl) (hcf : canonO fo = true := by rfl) (hd : Nat.blt d n = true := by rfl) :
    VL P G n ops (⟨some d, .call { callee := .value fo, args := xs.toArray, argTypes := ts }, ty, pos, after, none⟩ :: rest) Q e h := VL_callB hf (lendAll hi hq) hc hcan hcf hd hk
end
end Go.Av
