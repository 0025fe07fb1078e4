/-
More of the logic. No program in sight.
-/
import Derived.Test.YtjibkdglakfjgaaAvShort
/-
More of the logic.
-/
namespace Go.Av
open Go.RowKit

section
variable {P : Program} {G : Glob} {n : Nat} {Q : Post} {e : Env} {h : Hp} {ops : Array Oper} {rest : List Oper} {d : Nat} {ty : TypeId} {pos : String} {after : Array Edge}
/-- An own row that lies in a box's cell is to be handed back: it is entry t from now on. -/
theorem St.mv_cellT (t : Nat) {a : Act} {w : World} (st : St G n e h a w) {j q i b ety sz m : Nat} {s : Value} {cells cs : List AVal} (hj : h j = some (.box b cs)) (hq : cs[q]? = some (.orow i s)) (hi : h i = some (.row s ety sz m cells)) (hj9 : Nat.beq j t = false) :
    St G n e (upd (upd (upd h i none) t (some (.row s ety sz m cells))) j (some (.box b (cs.set q (.orow t s))))) a w := by
  have hji : j ≠ i := fun hh => by subst hh; rw [hj] at hi; cases hi
  have hj9' : j ≠ t := fun hh => by subst hh; simp at hj9
  have hsub : ∀ b', Xs G (upd (upd h i none) t (some (.row s ety sz m cells))) b' → Xs G h b' := by
    rintro b' (hx | hx | ⟨k, ek, hk, hbk⟩)
    · exact .inl hx
    · exact .inr (.inl hx)
    · by_cases hk9 : k = t
      · subst hk9; rw [upd_same] at hk; obtain rfl := Option.some.inj hk; exact .inr (.inr ⟨i, _, hi, hbk⟩)
      · rw [upd_other _ _ _ hk9] at hk
        by_cases hki : k = i
        · subst hki; rw [upd_same] at hk; cases hk
        · rw [upd_other _ _ _ hki] at hk; exact .inr (.inr ⟨k, ek, hk, hbk⟩)
  have st' := St.replEnt (w1 := w) st t i (.row s ety sz m cells) rfl rfl rfl (Nat.le_refl _) (fun _ _ _ => rfl) (fun b' hb' => .inl ⟨_, hi, hb'⟩) (EntOk.mono (WLe.shrink w hsub) (fun _ _ => rfl) (st.own i _ hi))
  have hj' : upd (upd h i none) t (some (.row s ety sz m cells)) j = some (.box b cs) := by rw [upd_other _ _ _ hj9', upd_other _ _ _ hji]; exact hj
  obtain ⟨cur, ty', h1, h2⟩ := st'.own j _ hj'
  have hiff := xs_upd_same (G := G) (en := .box b (cs.set q (.orow t s))) hj' rfl
  refine St.setEnt (w1 := w) st' j _ rfl rfl rfl (Nat.le_refl _) (fun _ _ _ => rfl) (fun b' hb' => .inl ⟨_, hj', hb'⟩) ?_
  refine ⟨cur, ty', h1, ?_⟩
  obtain ⟨y, hy1, hy2⟩ := relL_get h2 hq
  simp only [Rel] at hy2
  have hset : cur.toList = cur.toList.set q s := by
    apply List.ext_getElem?
    intro r
    by_cases hr : r = q
    · subst hr
      have hlt := (List.getElem?_eq_some_iff.1 hy1).1
      rw [List.getElem?_set_self hlt, hy1, hy2.1]
    · rw [List.getElem?_set_ne (Ne.symm hr)]
  rw [hset]
  exact relL_set q (RelL.mono (WLe.shrink w fun b hb => (hiff b).1 hb) h2) (by simp only [Rel]; exact ⟨trivial, hy2.2⟩)
theorem V_mv_cellT (t : Nat) {c : Code} {j q i b ety sz m : Nat} {s : Value} {cells cs : List AVal} (hj : h j = some (.box b cs)) (hq : cs[q]? = some (.orow i s)) (hi : h i = some (.row s ety sz m cells)) (hj9 : Nat.beq j t = false)
    (hk : V P G n c Q e (upd (upd (upd h i none) t (some (.row s ety sz m cells))) j (some (.box b (cs.set q (.orow t s)))))) : V P G n c Q e h := fun a w st => hk a w (st.mv_cellT t hj hq hi hj9)


/-- A region whose operations all yield: in the text's order. -/
theorem V_drawQ {id : Nat} {l : List Oper} (h0 : l.all (fun o => o.dst.isSome) = true) (hm : P.follows .mixedOrders = true) (hB : Region.lexB .any l.toArray = true) (hd : dstApart l = true)
    (hv : VQ P G n h l.toArray (fun e' => Q .normal e' h) l (clearD l e)) : V P G n (.region id l.toArray true) Q e h := have _ := h0; V_draw hm hB hd hv

def headS (ops : Array Oper) (len : Nat) (tl : List Nat) : Bool :=
  let l0 := Array.replicate ops.size false
  let L := (List.range len).foldl (fun a i => a.setIfInBounds i true) l0
  Region.noSelect ops && dstAp ops && preB .any ops L len 0 l0 && lastB .any ops L (List.range len) && seqT .any ops tl L && (len + tl.length == ops.size)

/-- A region whose last operations come in one order, and write. -/
theorem V_drawS {id : Nat} {l hd tlo : List Oper} (len : Nat) (tl : List Nat) (hm : P.follows .mixedOrders = true) (hB : headS l.toArray len tl = true) (hhd : l.take len = hd) (htl : tl.map (l.toArray[·]?) = tlo.map some)
    (hv : VT P G n h l.toArray (fun e' => VL P G n l.toArray tlo Q e' h) hd 0 (Array.replicate l.toArray.size false) (clearD l e)) : V P G n (.region id l.toArray true) Q e h := fun a w st => by
  simp only [headS, Bool.and_eq_true, beq_iff_eq] at hB
  obtain ⟨⟨⟨⟨⟨hsel, hdst⟩, hpre⟩, hlast⟩, hseq⟩, hsz⟩ := hB
  refine wp_region_any hm ?_
  have st0 : St G n (clearD l e) h a { w with drawn := w.drawn + 1 } := (st.same (Same.drew w)).weaken (fun t => by
    unfold clearD
    cases hc : (l.filterMap (·.dst)).contains t
    · exact ALe.rfl' rfl
    · exact ALe.any _) (HpLe.refl h)
  have hlen : hd.length = len := by rw [← hhd, List.length_take]; simp at hsz; omega
  have hB1 : AnyB P G n h .any l.toArray ((List.range len).foldl (fun a i => a.setIfInBounds i true) (Array.replicate l.toArray.size false)) (fun e' => VL P G n l.toArray tlo Q e' h) hd.length (Array.replicate l.toArray.size false) (clearD l e) := by
    refine anyB_lex (ord := List.range len) hlast hsel (dstAp_spec hdst) hd 0 _ _ ?_ ?_ ?_ ?_ (by rw [hlen]; exact hpre) hv
    · intro j oj hj hl ed hed hb
      rw [Array.getD_eq_getD_getElem?, Array.getElem?_replicate] at hl
      split at hl <;> cases hl
    · intro j o hj
      rw [← hhd, List.getElem?_take] at hj
      split at hj
      · simpa using hj
      · cases hj
    · intro j hj
      rw [hlen] at hj
      simpa using hj
    · intro j oj d hj hun hd
      unfold clearD
      have : (l.filterMap (·.dst)).contains d = true := by
        simp only [List.contains_iff_mem, List.mem_filterMap]
        exact ⟨oj, List.mem_of_getElem? (by simpa using hj), hd⟩
      rw [this]; rfl
  rw [hlen] at hB1
  rw [← hsz] at hB1 ⊢
  refine wpAny_of_B (K := fun e' => VL P G n l.toArray tlo Q e' h) (g := tl.length) ?_ len _ _ _ _ hB1 st0
  intro a' w' e' st' hvl
  have hseq' := hseq
  rw [← hsz] at hseq'
  exact wpAny_of_seqT tl tlo _ _ _ htl hseq' (hvl a' w' st')
/-- .. three of them. -/
theorem V_draw3 {id : Nat} {l hd : List Oper} {o1 o2 o3 : Oper} (len : Nat) (hm : P.follows .mixedOrders = true) (hB : headS l.toArray len [len, len + 1, len + 2] = true) (hhd : l.take len = hd) (h1 : l[len]? = some o1) (h2 : l[len + 1]? = some o2) (h3 : l[len + 2]? = some o3)
    (hv : VT P G n h l.toArray (fun e' => VL P G n l.toArray [o1, o2, o3] Q e' h) hd 0 (Array.replicate l.toArray.size false) (clearD l e)) : V P G n (.region id l.toArray true) Q e h :=
  V_drawS len _ hm hB hhd (by simp [h1, h2, h3]) hv
theorem V_draw1 {id : Nat} {l hd : List Oper} {o1 : Oper} (len : Nat) (hm : P.follows .mixedOrders = true) (hB : headS l.toArray len [len] = true) (hhd : l.take len = hd) (h1 : l[len]? = some o1)
    (hv : VT P G n h l.toArray (fun e' => VL P G n l.toArray [o1] Q e' h) hd 0 (Array.replicate l.toArray.size false) (clearD l e)) : V P G n (.region id l.toArray true) Q e h :=
  V_drawS len _ hm hB hhd (by simp [h1]) hv
theorem V_draw2 {id : Nat} {l hd : List Oper} {o1 o2 : Oper} (len : Nat) (hm : P.follows .mixedOrders = true) (hB : headS l.toArray len [len, len + 1] = true) (hhd : l.take len = hd) (h1 : l[len]? = some o1) (h2 : l[len + 1]? = some o2)
    (hv : VT P G n h l.toArray (fun e' => VL P G n l.toArray [o1, o2] Q e' h) hd 0 (Array.replicate l.toArray.size false) (clearD l e)) : V P G n (.region id l.toArray true) Q e h :=
  V_drawS len _ hm hB hhd (by simp [h1, h2]) hv
end
end Go.Av
