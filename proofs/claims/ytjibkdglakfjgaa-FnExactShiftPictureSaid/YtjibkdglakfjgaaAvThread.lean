/-
More of the logic. No program in sight.
-/
import Derived.Test.YtjibkdglakfjgaaAvArr
/-
Regions that draw their order, in which one operation makes memory whenever it comes, and others wait for it alone.
-/
namespace Go.Av
open Go.RowKit

/-- It waits for the operation iI. -/
def dep (iI : Nat) (o : Oper) : Prop := ∃ ed ∈ o.after, Region.binds .any ed = true ∧ ed.on = iI
section
variable {P : Program} {G : Glob} {n : Nat} {ops : Array Oper} {L : Array Bool} {ord : List Nat} {iI dI : Nat} {K : Env → Prop} {h : Hp} {π : Type} {U : π → AVal} {E : π → Ent} {Q : Post}
def EV3 (P : Program) (G : Glob) (n : Nat) (h : Hp) (iI dI : Nat) {π : Type} (U : π → AVal) (E : π → Ent) (o : Oper) (u : AVal) (e : Env) : Prop := (¬ dep iI o → EvQ P G n h o u e) ∧ ∀ p, EvQ P G n (upd h dI (some (E p))) o u (upd e dI (U p))
theorem law3 : EvLaw (EV3 P G n h iI dI U E) (EX2 G n h dI U E) n ops dI where
  anti := fun o u e e' he hv => ⟨fun hd => (hv.1 hd).anti he, fun p => (hv.2 p).anti (envLe_upd he _ _)⟩
  antiX := fun u e e' he hv => ⟨hv.1.anti he, fun p => (hv.2 p).anti (envLe_upd he _ _)⟩
  undefX := fun e => ⟨exU_undef, fun p => exU_undef⟩
  swap := fun oi oj ui uj di e hdi hdn hne hap hsj hx hv => ⟨fun hd => EvQ.swap hdi hdn hap hsj hx.1 (hv.1 hd), fun p => EvQ.swap hdi hdn hap hsj (hx.2 p) (by rw [upd_comm _ _ _ (Ne.symm hne)]; exact hv.2 p)⟩
theorem wanted3 {e : Env} {o : Oper} {u : AVal} {b : Bool} (hk : o.guard = none ∨ dI ∉ o.looksAt ops) (hw : Wanted ops e o b) : Wanted ops (upd e dI u) o b := by
  rcases hk with hk | hk
  · rcases hw with h1 | ⟨g, want, j, h1, _⟩
    · exact .inl h1
    · rw [hk] at h1; cases h1
  · exact hw.other' hk

theorem wpG3 {Q' : Exit → Act → World → Prop} {g iI : Nat} {oI : Oper} (hI : ops[iI]? = some oI) (hgI : oI.guard = none) (hdI : oI.dst = some dI) (hafI : oI.after = #[])
    (hfl : ∀ e a w, St G n e h a w → ∃ x w' p, (execOp a.eval oI).run P w = .ok (.value x) w' ∧ St G n (upd e dI (U p)) (upd h dI (some (E p))) (a.put (some dI) x) w')
    (hlook : ∀ (i : Nat) (o : Oper), i ∈ ord → ops[i]? = some o → i ≠ iI ∧ (o.guard = none ∨ dI ∉ o.looksAt ops) ∧ o.dst ≠ some dI)
    (hK1 : ∀ p a w e, St G n (upd e dI (U p)) (upd h dI (some (E p))) a w → K e → wpAny P .any ops Q' g L a w)
    (hK0 : ∀ a w e, St G n e h a w → K e → wpAny P .any ops Q' (g + 1) (L.setIfInBounds iI false) a w) :
    ∀ (fuel : Nat) (listed : Array Bool) (e : Env), listed.getD iI false = true → AnyG (EV3 P G n h iI dI U E) n .any ops L ord K fuel listed e →
      (∀ p a w, St G n (upd e dI (U p)) (upd h dI (some (E p))) a w → wpAny P .any ops Q' (fuel + g) listed a w) ∧
      (∀ a w, St G n e h a w → wpAny P .any ops Q' (fuel + (g + 1)) (listed.setIfInBounds iI false) a w)
  | 0, listed, e, _, ha => by
    obtain ⟨h1, h2⟩ := ha
    rw [Nat.zero_add, Nat.zero_add, h1]
    exact ⟨fun p a w st => hK1 p a w e st h2, fun a w st => hK0 a w e st h2⟩
  | fuel + 1, listed, e, hl, ha => by
    have hl' : ∀ i, i ≠ iI → (listed.setIfInBounds i true).getD iI false = true := fun i hi => by rw [getD_set_ne false hi]; exact hl
    have mode1 : ∀ p a w, St G n (upd e dI (U p)) (upd h dI (some (E p))) a w → wpAny P .any ops Q' (fuel + 1 + g) listed a w := by
      intro p a w st
      rw [show fuel + 1 + g = (fuel + g) + 1 by omega]
      refine ⟨fun h0 => absurd h0 ha.1, fun i hi => ?_⟩
      obtain ⟨hio, o, ho, d, hd, hdn, hq⟩ := ha.2 i hi
      obtain ⟨k1, k2, k3⟩ := hlook i o hio ho
      have hdd : d ≠ dI := fun hh => k3 (by rw [hd, hh])
      unfold wpOp
      simp only [ho]
      rcases hq with ⟨hwa, u, hev, hn⟩ | ⟨hwa, hn⟩
      · rw [if_pos (wanted_of st (wanted3 k2 hwa))]
        refine .inl ((hev.2 p).wp st fun x w' hm hx => ?_)
        refine (wpG3 hI hgI hdI hafI hfl hlook hK1 hK0 fuel _ _ (hl' i k1) hn).1 p _ _ ?_
        rw [hd, upd_comm _ _ _ hdd]
        exact St.put (st.ext hm) d hdn u x hx
      · rw [if_neg (by rw [wanted_of st (wanted3 k2 hwa)]; simp)]
        refine (wpG3 hI hgI hdI hafI hfl hlook hK1 hK0 fuel _ _ (hl' i k1) hn).1 p _ _ ?_
        rw [hd, upd_comm _ _ _ hdd]
        exact st.put d hdn _ _ (by simp [Rel, c0, undef])
    refine ⟨mode1, fun a w st => ?_⟩
    rw [show fuel + 1 + (g + 1) = (fuel + 1 + g) + 1 by omega]
    have hlt : iI < listed.size := by
      rcases Nat.lt_or_ge iI listed.size with h' | h'
      · exact h'
      · simp [Array.getElem?_eq_none h'] at hl
    have hIr : iI ∈ Region.ready .any ops (listed.setIfInBounds iI false) := mem_ready.2 ⟨by simp [hlt], oI, hI, fun ed hed => by rw [hafI] at hed; simp at hed⟩
    refine ⟨fun h0 => (by rw [h0] at hIr; cases hIr), fun i hi => ?_⟩
    by_cases hii : i = iI
    · subst hii
      unfold wpOp
      simp only [hI]
      rw [if_pos (by simp [Region.wanted, hgI])]
      refine .inl ?_
      obtain ⟨x, w', p, hr, st'⟩ := hfl e a w st
      unfold Oper.wp
      rw [hr]
      show wpAny P .any ops Q' (fuel + 1 + g) ((listed.setIfInBounds i false).setIfInBounds i true) (a.put oI.dst x) w'
      rw [set_on hl, hdI]
      exact mode1 p _ _ st'
    · have hi' := ready_mono hi hii
      rw [set_on hl] at hi'
      obtain ⟨hio, o, ho, d, hd, hdn, hq⟩ := ha.2 i hi'
      have nodep : dep iI o → False := fun ⟨ed, hed, hb, hon⟩ => by
        obtain ⟨_, o', ho', hall⟩ := mem_ready.1 hi
        obtain rfl : o' = o := by rw [ho] at ho'; exact (Option.some.inj ho').symm
        have h1 := hall ed hed hb
        rw [hon] at h1
        simp [hlt] at h1
      unfold wpOp
      simp only [ho]
      rw [Array.setIfInBounds_comm _ _ (Ne.symm hii)]
      rw [show fuel + 1 + g = fuel + (g + 1) by omega]
      rcases hq with ⟨hwa, u, hev, hn⟩ | ⟨hwa, hn⟩
      · rw [if_pos (wanted_of st hwa)]
        refine .inl ((hev.1 (fun hdep => nodep hdep)).wp st fun x w' hm hx => ?_)
        refine (wpG3 hI hgI hdI hafI hfl hlook hK1 hK0 fuel _ _ (hl' i hii) hn).2 _ _ ?_
        rw [hd]
        exact St.put (st.ext hm) d hdn u x hx
      · rw [if_neg (by rw [wanted_of st hwa]; simp)]
        refine (wpG3 hI hgI hdI hafI hfl hlook hK1 hK0 fuel _ _ (hl' i hii) hn).2 _ _ ?_
        rw [hd]
        exact st.put d hdn _ _ (by simp [Rel, c0, undef])
def looseB3 (ops : Array Oper) (iI : Nat) (dI : Nat) (ord tk tl : List Nat) : Bool :=
  let l0 := (Array.replicate ops.size false).setIfInBounds iI true
  let L := setAll l0 ord
  Region.noSelect ops && dstAp ops && ((ops[iI]?).map fun o => o.after.isEmpty && o.guard.isNone).getD false && preG .any ops L ord l0 && lastB .any ops L ord &&
  takeB ops tk L && takeB ops tk (L.setIfInBounds iI false) && seqT .any ops tl (setAll L tk) && seqT .any ops (iI :: tl) (setAll (L.setIfInBounds iI false) tk) &&
  (ord.length + tk.length + tl.length + 1 == ops.size) && L.getD iI false && l0.getD iI false &&
  ord.all (fun j => j != iI && ((ops[j]?).map fun o => (o.guard.isNone || !(o.looksAt ops).contains dI) && o.dst != some dI).getD false)

theorem V_loose3 {id : Nat} [NoPanic Q] {e : Env} {l tlo : List Oper} {oI : Oper} (iI : Nat) (ord tk tl : List Nat) (hm : P.follows .mixedOrders = true) (hI : l[iI]? = some oI) (hdI : oI.dst = some dI) (hB : looseB3 l.toArray iI dI ord tk tl = true)
    (hfl : ∀ e a w, St G n e h a w → ∃ x w' p, (execOp a.eval oI).run P w = .ok (.value x) w' ∧ St G n (upd e dI (U p)) (upd h dI (some (E p))) (a.put (some dI) x) w')
    (htl : tl.map (l.toArray[·]?) = tlo.map some)
    (hv : VG (EV3 P G n h iI dI U E) (EX2 G n h dI U E) n l.toArray (TK P G n h l.toArray dI U E (fun e' => ∀ p, VL P G n l.toArray tlo Q (upd e' dI (U p)) (upd h dI (some (E p)))) tk) ord ((Array.replicate l.toArray.size false).setIfInBounds iI true) (clearD l e)) :
    V P G n (.region id l.toArray true) Q e h := fun a w st => by
  simp only [looseB3, Bool.and_eq_true, beq_iff_eq] at hB
  obtain ⟨⟨⟨⟨⟨⟨⟨⟨⟨⟨⟨⟨hsel, hdst⟩, haft⟩, hpre⟩, hlast⟩, htk1⟩, htk0⟩, hseq1⟩, hseq0⟩, hsz⟩, hLI⟩, hl0I⟩, hlook⟩ := hB
  have hI' : l.toArray[iI]? = some oI := by simpa using hI
  rw [hI'] at haft
  simp only [Option.map_some, Option.getD_some, Bool.and_eq_true, Array.isEmpty_iff, Option.isNone_iff_eq_none] at haft
  refine wp_region_any hm ?_
  have st0 : St G n (clearD l e) h a { w with drawn := w.drawn + 1 } := (st.same (Same.drew w)).weaken (fun t => by
    unfold clearD
    cases hc : (l.filterMap (·.dst)).contains t
    · exact ALe.rfl' rfl
    · exact ALe.any _) (HpLe.refl h)
  have hlk : ∀ (i : Nat) (o : Oper), i ∈ ord → l.toArray[i]? = some o → i ≠ iI ∧ (o.guard = none ∨ dI ∉ o.looksAt l.toArray) ∧ o.dst ≠ some dI := by
    intro i o hi ho
    have h1 := List.all_eq_true.1 hlook i hi
    rw [ho] at h1
    simp only [Option.map_some, Option.getD_some, Bool.and_eq_true, bne_iff_ne, ne_eq, Bool.not_eq_true', Bool.or_eq_true, Option.isNone_iff_eq_none] at h1
    exact ⟨h1.1, h1.2.1.imp (fun hh => hh) fun hc hm => by simp at hc; exact hc hm, h1.2.2⟩
  have hG1 : AnyG (EV3 P G n h iI dI U E) n .any l.toArray (setAll ((Array.replicate l.toArray.size false).setIfInBounds iI true) ord) ord (TK P G n h l.toArray dI U E (fun e' => ∀ p, VL P G n l.toArray tlo Q (upd e' dI (U p)) (upd h dI (some (E p)))) tk) ord.length ((Array.replicate l.toArray.size false).setIfInBounds iI true) (clearD l e) := by
    refine anyG_lex law3 hlast hsel (dstAp_spec hdst) (fun i o d hi ho hd hh => (hlk i o hi ho).2.2 (by rw [hd, hh])) ord _ _ ?_ (fun i hi => hi) ?_ hpre hv
    · intro j oj hj hl ed hed hb
      by_cases hmj : iI = j
      · subst hmj
        obtain rfl : oI = oj := by rw [hI'] at hj; exact Option.some.inj hj
        rw [haft.1] at hed
        simp at hed
      · rw [getD_set_ne false hmj, Array.getD_eq_getD_getElem?, Array.getElem?_replicate] at hl
        split at hl <;> cases hl
    · intro j oj d hj hun hd
      unfold clearD
      have : (l.filterMap (·.dst)).contains d = true := by
        simp only [List.contains_iff_mem, List.mem_filterMap]
        exact ⟨oj, List.mem_of_getElem? (by simpa using hj), hd⟩
      rw [this]; rfl
  have hrep : ((Array.replicate l.toArray.size false).setIfInBounds iI true).setIfInBounds iI false = Array.replicate l.toArray.size false := by
    refine set_back ?_
    have : iI < l.toArray.size := (Array.getElem?_eq_some_iff.1 hI').1
    simp at this
    simp [this]
  have key := (wpG3 (Q' := lift G n Q) (g := tl.length + tk.length) hI' haft.2 hdI haft.1 hfl hlk ?_ ?_ ord.length _ _ hl0I hG1).2 a _ st0
  · rw [hrep] at key
    rw [show l.toArray.size = ord.length + (tl.length + tk.length + 1) by omega]
    rw [show l.toArray.size = ord.length + (tl.length + tk.length + 1) by omega] at key
    exact key
  · intro p a' w' e' st' hk
    exact take1 hsel tk _ _ htk1 hk (fun p a w e'' st'' hvl => wpAny_of_seqT tl tlo _ _ _ htl hseq1 (hvl p a w st'')) p a' w' st'
  · intro a' w' e' st' hk
    rw [show tl.length + tk.length + 1 = (tl.length + 1) + tk.length by omega]
    refine take0 hsel tk _ _ htk0 hk (fun a w e'' st'' hvl => ?_) a' w' st'
    simp only [seqT, Bool.and_eq_true, beq_iff_eq] at hseq0
    refine ⟨fun h1 => (by rw [hseq0.1] at h1; cases h1), fun j hj => ?_⟩
    rw [hseq0.1] at hj
    simp only [List.mem_singleton] at hj
    subst hj
    unfold wpOp
    simp only [hI']
    rw [if_pos (by simp [Region.wanted, haft.2])]
    refine .inl ?_
    obtain ⟨x, w2, p, hr, st2⟩ := hfl _ _ _ st''
    unfold Oper.wp
    rw [hr]
    show wpAny P .any l.toArray (lift G n Q) tl.length _ (a.put oI.dst x) w2
    rw [hdI]
    exact wpAny_of_seqT tl tlo _ _ _ htl hseq0.2 (hvl p _ _ st2)


variable {e : Env} {listed : Array Bool} {rest : List Nat} {i d : Nat} {ty : TypeId} {pos : String} {after : Array Edge}
def noCall : Op → Bool
  | .call _ => false
  | _ => true
theorem VH_opE {op : Op} (hk : OpThen P G n e h op ty fun u => (∀ p, OpThen P G n (upd e dI (U p)) (upd h dI (some (E p))) op ty (u = ·)) ∧ VG (EV3 P G n h iI dI U E) (EX2 G n h dI U E) n ops K rest (listed.setIfInBounds i true) (upd e d u))
    (ho : ops[i]? = some ⟨some d, op, ty, pos, after, none⟩ := by rfl) (_hnc : noCall op = true := by rfl) (hd : Nat.blt d n = true := by rfl) : VG (EV3 P G n h iI dI U E) (EX2 G n h dI U E) n ops K (i :: rest) listed e := by
  obtain ⟨u, h1, h2, h3⟩ := hk
  have h4 : ∀ p, EvalOp P G n (upd e dI (U p)) (upd h dI (some (E p))) op ty u := fun p => by
    obtain ⟨u', h5, rfl⟩ := h2 p
    exact h5
  exact ⟨_, ho, d, rfl, by simpa using hd, .inl ⟨.inl ⟨rfl, rfl⟩, u, ⟨fun _ => evQ_of_op h1, fun p => evQ_of_op (h4 p)⟩, .inl ⟨exU_of_op h1, fun p => exU_of_op (h4 p)⟩, h3⟩⟩
theorem VH_nil (hk : K e) : VG (EV3 P G n h iI dI U E) (EX2 G n h dI U E) n ops K [] listed e := hk

theorem run_app0 {t ty' el : TypeId} {i : TypeInfo} {z : Value} (ht : P.underlying t = some (.slice el)) (hi : P.info? el = some i) (hz : i.zero = some z) (hzs : z.cells.size = i.size)
    {g : Nat} {w : World} {ad : Addr} {m c : Nat} {news : List Value} (hm : 0 < m) (hl : news.length = m * i.size) (hnews : ∀ j u, news[j]? = some u → w.cell? (ad.add j) = some u) (h63 : m ≤ 9223372036854775807) (hbytes : m * i.bytes ≤ 140737488355328) :
    ∃ v' w', (Builtin.append_ #[t, t] ty' #[.slice (some ⟨g, 0, none⟩) 0 0, .slice (some ad) m c]).run P w = .ok v' w' ∧ w'.ownsRow 0 el i.size v' m news ∧ Mod (fun _ => False) w w' ∧ (∀ b, v'.ownBlock = some b → w.heap.size ≤ b) := by
  have hge := grownCap_ge w (0 + m)
  have hcm := fun old => grownCap_le_maxLen w (0 + m) old el (by unfold maxLen; omega)
  have hr := run_append_grow (P := P) w t ty' el i z ht hi hz ⟨g, 0, none⟩ 0 0 [] (by simp) (by simp) ad m c news hl hnews (by omega) (by omega) (growslice_fits (by omega) (by simpa using hbytes))
  refine ⟨_, _, hr, ⟨hl, .inr ⟨w.heap.size, _, _, by rw [Nat.zero_add], Nat.zero_le _, heap_alloc_new w.drew _, by have := hge 0 el; omega, hcm _, ?_, ?_⟩⟩, ⟨rfl, rfl, rfl, by simp, fun b hb _ => Below.heap_alloc w.drew _ b hb⟩, fun b hb => ?_⟩
  · have hg := hge 0 el
    simp only [Array.size_append, List.size_toArray, size_zeroCells, hzs, hl, List.length_nil]
    generalize grownCap w (0 + m) 0 el = gc at hg ⊢
    have e1 : 0 + m * i.size + (gc - (0 + m)) * i.size = gc * i.size := by
      rw [Nat.zero_add, Nat.zero_add, ← Nat.add_mul]
      congr 1
      omega
    first | exact e1 | simpa using e1
  · simp only [Array.toList_append, List.nil_append]
    rw [← hl]
    exact List.take_left
  · simp [Value.ownBlock] at hb; omega

theorem evQ_app0 {t el bytes : Nat} {z : Value} {s x : Operand} {q b fr m : Nat} {xs : List Nat} {gd : Option (Nat × Bool)} [hst : SliceT P t el] [hel : ElemT P el 1 bytes z] (hs : ev e s = .orow q (.slice (some ⟨b, 0, none⟩) 0 0)) (hx : ev e x = .sl fr m (fl xs)) (hm : m = xs.length) (h0 : 0 < m)
    (hb0 : Nat.blt 0 bytes = true) (hb : m * bytes ≤ 140737488355328) (hcs : canonO s = true) (hcx : canonO x = true) :
    EvQ P G n h ⟨some d, .call { callee := .builtin .append, args := #[s, x], argTypes := #[t, t] }, ty, pos, after, gd⟩ (.sl 2 m (fl xs)) e := fun a w st => by
  have h1 := st.rel s hcs
  have h2 := st.rel x hcx
  rw [hs] at h1; rw [hx] at h2; simp only [Rel] at h1
  obtain ⟨ad, cap, raws, hxv, hnr, hread⟩ := news_of_sl h2 h0
  obtain ⟨inf, hi1, hi2, hi3, hi4⟩ := hel.ok
  have hlr : raws.length = m * 1 := by rw [relL_length hnr, fl_length, hm, Nat.mul_one]
  have hm1 : m ≤ m * bytes := Nat.le_mul_of_pos_right _ (by simpa using hb0)
  obtain ⟨v', w', hr, ho, hmod, hblk⟩ := run_app0 (P := P) (ty' := ty) (g := b) (c := cap) hst.ok hi1 hi4 (by rw [hi2]; exact hel.szz) h0 (by rw [hi2]; exact hlr) hread (by omega) (by rw [hi3]; exact hb)
  rw [hi2] at ho
  have hrun : (execOp a.eval ⟨some d, .call { callee := .builtin .append, args := #[s, x], argTypes := #[t, t] }, ty, pos, after, gd⟩).run P w = .ok (.value v') w' := by
    simp only [execOp, resolve, invoke, builtin, Sem.run_bind, Sem.run_pure, Result.andThen_ok, List.map_toArray, List.map_cons, List.map_nil, h1.1, hxv, hr]
  refine .inl ⟨v', w', hrun, hmod, ?_⟩
  have hraw : RelL (Xs G h) 0 0 w' (fl xs) raws := RelL.plain (plain_fl xs) hnr
  exact rel_row_sl (X := Xs G h) (B := 0) (C := 0) (ety := el) (sz := 1) ⟨raws, ho, hraw⟩ (X' := Xs G h) (B' := G.B) (C' := G.w0.heap.size) (fun b hb => hb) (fun b hb hx => by have := st.xlt hx; have := hblk b hb; omega) (fun b hb hf => by cases hf) (fun b hb _ => Nat.le_trans st.mod.size (hblk b hb))
theorem VH_app {t el bytes : Nat} {z : Value} {s x : Operand} {fr m iE : Nat} {xs : List Nat} {U : Nat → AVal} {E : Nat → Ent} (hx : ev e x = .sl fr m (fl xs)) (hm : m = xs.length) (h0 : 0 < m) (hb : m ≤ 1048576)
    (hk : VG (EV3 P G n h iI dI U E) (EX2 G n h dI U E) n ops K rest (listed.setIfInBounds i true) (upd e d (.sl 2 m (fl xs))))
    (ho : ops[i]? = some ⟨some d, .call { callee := .builtin .append, args := #[s, x], argTypes := #[t, t] }, ty, pos, after, none⟩ := by rfl)
    (hst : SliceT P t el := by infer_instance) (hel : ElemT P el 1 bytes z := by infer_instance) (hdep : after.toList.any (fun ed => Region.binds .any ed && ed.on == iI) = true := by rfl) (hb2 : Nat.ble bytes 100000000 = true := by rfl)
    (hs : ∀ b, ev (upd e dI (U b)) s = .orow iE (.slice (some ⟨b, 0, none⟩) 0 0) := by intro _; rfl) (hx2 : ∀ b, ev (upd e dI (U b)) x = ev e x := by intro _; rfl) (hb0 : Nat.blt 0 bytes = true := by rfl)
    (hso : soloAt .any ops listed i = true := by kernel_rfl) (hcs : canonO s = true := by rfl) (hcx : canonO x = true := by rfl) (hd : Nat.blt d n = true := by rfl) : VG (EV3 P G n h iI dI U E) (EX2 G n h dI U E) n ops K (i :: rest) listed e :=
  ⟨_, ho, d, rfl, by simpa using hd, .inl ⟨.inl ⟨rfl, rfl⟩, _, ⟨fun hd => absurd (by
      obtain ⟨ed, he, h2⟩ := List.any_eq_true.1 hdep
      simp only [Bool.and_eq_true, beq_iff_eq] at h2
      exact ⟨ed, by simpa using he, h2⟩) hd, fun p => evQ_app0 (hst := hst) (hel := hel) (hs p) (by rw [hx2 p]; exact hx) hm h0 hb0 (Nat.le_trans (Nat.mul_le_mul hb (Nat.le_of_ble_eq_true hb2)) (by decide)) hcs hcx⟩, .inr hso, hk⟩⟩

theorem fl_lit0b {t el bytes sz : Nat} {z : Value} [hs : SliceT P t el] [hel : ElemT P el sz bytes z] {ty : TypeId} {pos : String} {after : Array Edge} (hd : dI < n) : ∀ e a w, St G n e h a w → ∃ x w', ∃ b : Nat, (execOp a.eval ⟨some dI, .buildSlice t 0 #[], ty, pos, after, none⟩).run P w = .ok (.value x) w' ∧ St G n (upd e dI (.orow dI (.slice (some ⟨b, 0, none⟩) 0 0))) (upd h dI (some (.row (.slice (some ⟨b, 0, none⟩) 0 0) el sz 0 []))) (a.put (some dI) x) w' := fun e a w st => by
  obtain ⟨i, hi1, hi2, hi3, hi4⟩ := hel.ok
  have hen : ∀ b, (Ent.row (.slice (some ⟨w.heap.size, 0, none⟩) 0 0) el sz 0 []).blk = some b → w.heap.size ≤ b := fun b hb => by
    simp [Ent.blk, Value.ownBlock] at hb; omega
  refine ⟨_, w.alloc (.cells #[] el), w.heap.size, ?_, St.put (St.newEnt (w1 := w.alloc (.cells #[] el)) st dI _ rfl rfl rfl (by simp) (fun b hb => Below.heap_alloc w _ b hb) hen ?_) dI hd _ (.slice (some ⟨w.heap.size, 0, none⟩) 0 0) (by simp [Rel])⟩
  · simp [execOp, Instr.buildSlice, run_underlying hs.ok, sizeOf, typeInfo, hi1, Instr.fill, newRow, Array.range_zero']
  · exact ⟨[], World.ownsRow_made w #[] 0 (Nat.zero_le _) (Nat.zero_le _) (by simp), by simp [RelL]⟩
/-- A literal of no element among the operations, to which another of them appends. -/
theorem V_looseM {id : Nat} [NoPanic Q] {l : List Oper} {o1 : Oper} {t el bytes sz : Nat} {z : Value} [SliceT P t el] [ElemT P el sz bytes z] (iI : Nat) (ord : List Nat) (k1 : Nat) (hm : P.follows .mixedOrders = true) (hI : l[iI]? = some ⟨some dI, .buildSlice t 0 #[], ty, pos, after, none⟩) (hd : Nat.blt dI n = true) (hB : looseB3 l.toArray iI dI ord [] [k1] = true)
    (h1 : l[k1]? = some o1)
    (hv : VG (EV3 P G n h iI dI (fun b : Nat => .orow dI (.slice (some ⟨b, 0, none⟩) 0 0)) (fun b => .row (.slice (some ⟨b, 0, none⟩) 0 0) el sz 0 [])) (EX2 G n h dI (fun b : Nat => .orow dI (.slice (some ⟨b, 0, none⟩) 0 0)) (fun b => .row (.slice (some ⟨b, 0, none⟩) 0 0) el sz 0 [])) n l.toArray (fun e' => ∀ b, VL P G n l.toArray [o1] Q (upd e' dI (.orow dI (.slice (some ⟨b, 0, none⟩) 0 0))) (upd h dI (some (.row (.slice (some ⟨b, 0, none⟩) 0 0) el sz 0 [])))) ord ((Array.replicate l.toArray.size false).setIfInBounds iI true) (clearD l e)) :
    V P G n (.region id l.toArray true) Q e h :=
  V_loose3 iI ord [] [k1] hm hI rfl hB (fl_lit0b (by simpa using hd)) (by simp [h1]) hv
end
end Go.Av
