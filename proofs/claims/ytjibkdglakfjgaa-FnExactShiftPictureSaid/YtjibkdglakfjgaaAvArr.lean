/-
More of the logic. No program in sight.
-/
import Derived.Test.YtjibkdglakfjgaaAvLoose
/-
Own arrays: their addresses; giving them away.
-/
namespace Go.Av
open Go.RowKit

section
variable {P : Program} {G : Glob} {n : Nat} {Q : Post} {e : Env} {h : Hp} {a : Act} {w : World} {ty : TypeId}

theorem V_arr_open {c : Code} {i m : Nat} {s : Value} {cells : List AVal} (hi : h i = some (.arr s m cells)) (hm : 0 < m) (hk : ∀ b o cap, s = .slice (some ⟨b, o, none⟩) m cap → V P G n c Q e h) : V P G n c Q e h := fun a w st => by
  obtain ⟨ad, cap, h3, h4⟩ := st.own i _ hi
  rcases h4 with ⟨h5, _⟩ | ⟨b, off, cur, ty', h5, h6, h7, _⟩
  · omega
  · exact hk b off cap (by rw [h3, h6]) a w st
theorem op_index_a {t el : Nat} {x ix : Operand} {j m b o cap i : Nat} {s : Value} [SliceT P t el] [SizeT P el 1] (hx : ev e x = .orow j s) (hi : ev e ix = .v (.int .i64 (i : Int))) (hs : s = .slice (some ⟨b, o, none⟩) m cap) (h0 : i < m) (hcx : canonO x = true) (hci : canonO ix = true) :
    EvalOp P G n e h (.indexAddr t x ix) ty (.own j b (o + i)) := fun a w st _ _ _ _ => by
  have h1 := st.rel x hcx
  have h2 := st.rel ix hci
  rw [hx] at h1; rw [hi] at h2; simp only [Rel] at h1 h2
  refine ⟨.pointer (some ⟨b, o + i, none⟩), w, ?_, Same.refl w, by simp only [Rel]⟩
  have := run_indexAt (P := P) (t := t) (el := el) (sz := 1) b o m cap i (by omega) (by omega) w
  simp only [execOp, h1.1, hs, c0_int h2, this, Sem.run_bind, Result.andThen_ok, Sem.run_pure, Int.toNat_natCast, Nat.mul_one]
theorem xia {t el : Nat} {x ix : Operand} {j m b o cap i : Nat} {s : Value} [SliceT P t el] [SizeT P el 1] {K : AVal → Prop} (hk : K (.own j b (o + i))) (hx : ev e x = .orow j s := by rfl) (hi : ev e ix = .v (.int .i64 (i : Int)) := by rfl) (hs : s = .slice (some ⟨b, o, none⟩) m cap := by assumption) (h0 : i < m := by omega) (hcx : canonO x = true := by rfl) (hci : canonO ix = true := by rfl) :
    OpThen P G n e h (.indexAddr t x ix) ty K := op_then (op_index_a hx hi hs h0 hcx hci) hk

theorem St.giveA (st : St G n e h a w) (hG : ∀ b, ¬ G.ms b) {i m : Nat} {s : Value} {cells : List AVal} (hi : h i = some (.arr s m cells)) :
    St G n e (upd h i none) a w ∧ Rel (Xs G (upd h i none)) G.B G.w0.heap.size w (.sl 2 m cells) s := by
  have hle : HpLe h (upd h i none) := fun k en hk => by
    by_cases hki : k = i
    · subst hki; rw [upd_same] at hk; cases hk
    · rw [upd_other _ _ _ hki] at hk; exact hk
  refine ⟨st.weaken (EnvLe.refl e) hle, ?_⟩
  have hX : ∀ b, Xs G (upd h i none) b → Xs G h b := by
    rintro b (hx | hx | ⟨k, ek, hk, hb⟩)
    · exact .inl hx
    · exact .inr (.inl hx)
    · exact .inr (.inr ⟨k, ek, hle k ek hk, hb⟩)
  obtain ⟨ad, cap, h3, h4⟩ := st.own i _ hi
  simp only [Rel]
  refine ⟨ad, cap, h3, ?_⟩
  rcases h4 with ⟨h5, h6⟩ | ⟨b, off, cur, ty', hm0, hadr, hg, hlen, hrel⟩
  · exact .inl ⟨h5, h6⟩
  · have hbk : (Ent.arr s m cells).blk = some b := by subst h3; subst hadr; simp [Ent.blk, Value.ownBlock, hm0]
    subst hadr
    refine .inr ⟨b, off, rfl, (Array.getElem?_eq_some_iff.1 hg).1, ?_, fun hf => (by cases hf), fun _ => ((st.old i _ b hi hbk).2).resolve_left (hG b), fun _ => ⟨_, _, hg⟩, ?_⟩
    · rintro (hx | hx | ⟨k, ek, hk, hkb⟩)
      · exact (st.old i _ b hi hbk).1 hx
      · exact hG b hx
      · have := st.apart k i ek _ b (hle k ek hk) hi hkb hbk
        subst this; rw [upd_same] at hk; cases hk
    · refine relF_of_list (RelL.mono (WLe.shrink w hX) hrel).lower fun j hj => ?_
      rw [cell_of_own hg, List.getElem?_take, if_pos (by omega), List.getElem?_drop]
      simp
theorem St.giveA_cell (st : St G n e h a w) (hG : ∀ b, ¬ G.ms b) {j k i m b : Nat} {s : Value} {cells cs : List AVal} (hj : h j = some (.box b cs)) (hk : cs[k]? = some (.orow i s)) (hi : h i = some (.arr s m cells)) :
    St G n e (upd (upd h i none) j (some (.box b (cs.set k (.sl 2 m cells))))) a w := by
  obtain ⟨st', hr⟩ := st.giveA hG hi
  have hji : j ≠ i := fun hh => by subst hh; rw [hj] at hi; cases hi
  have hj' : upd h i none j = some (.box b cs) := by rw [upd_other _ _ _ hji]; exact hj
  obtain ⟨cur, ty, h1, h2⟩ := st'.own j _ hj'
  have hiff := xs_upd_same (G := G) (en := .box b (cs.set k (.sl 2 m cells))) hj' rfl
  refine St.setEnt (w1 := w) st' j _ rfl rfl rfl (Nat.le_refl _) (fun _ _ _ => rfl) (fun b' hb' => .inl ⟨_, hj', hb'⟩) ?_
  have hw : WLe (Xs G (upd h i none)) (Xs G (upd (upd h i none) j (some (.box b (cs.set k (.sl 2 m cells)))))) w w := WLe.shrink w fun b hb => (hiff b).1 hb
  refine ⟨cur, ty, h1, ?_⟩
  obtain ⟨y, hy1, hy2⟩ := relL_get h2 hk
  simp only [Rel] at hy2
  have hset : cur.toList = cur.toList.set k s := by
    apply List.ext_getElem?
    intro q
    by_cases hq : q = k
    · subst hq
      have hlt := (List.getElem?_eq_some_iff.1 hy1).1
      rw [List.getElem?_set_self hlt, hy1, hy2.1]
    · rw [List.getElem?_set_ne (Ne.symm hq)]
  rw [hset]
  exact relL_set k (RelL.mono hw h2) (Rel.mono hw hr)
theorem V_giveA_cell {c : Code} (hG : ∀ b, ¬ G.ms b) {j k i m b : Nat} {s : Value} {cells cs : List AVal} (hj : h j = some (.box b cs)) (hk : cs[k]? = some (.orow i s)) (hi : h i = some (.arr s m cells))
    (hv : V P G n c Q e (upd (upd h i none) j (some (.box b (cs.set k (.sl 2 m cells)))))) : V P G n c Q e h := fun a w st => hv a w (st.giveA_cell hG hj hk hi)
end
end Go.Av
