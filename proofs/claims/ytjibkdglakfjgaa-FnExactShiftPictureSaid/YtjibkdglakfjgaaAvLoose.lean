/-
More of the logic. No program in sight.
-/
import Derived.Test.YtjibkdglakfjgaaAvLate
/-
Regions that draw their order, in which one operation makes memory whenever it comes.
-/
namespace Go.Av
open Go.RowKit

section
variable {P : Program} {G : Glob} {n : Nat} {ops : Array Oper} {md : Region.Mode} {L : Array Bool} {ord : List Nat} {dI : Nat} {K : Env → Prop}

def qG (EV : Oper → AVal → Env → Prop) (n : Nat) (ops : Array Oper) (o : Oper) (K : Env → Prop) (e : Env) : Prop :=
  ∃ d, o.dst = some d ∧ d < n ∧ ((Wanted ops e o true ∧ ∃ u, EV o u e ∧ K (upd e d u)) ∨ (Wanted ops e o false ∧ K (upd e d (.v undef))))
def AnyG (EV : Oper → AVal → Env → Prop) (n : Nat) (md : Region.Mode) (ops : Array Oper) (L : Array Bool) (ord : List Nat) (K : Env → Prop) : Nat → Array Bool → Env → Prop
  | 0, listed, e => listed = L ∧ K e
  | fuel + 1, listed, e => Region.ready md ops listed ≠ [] ∧ ∀ i ∈ Region.ready md ops listed, i ∈ ord ∧ ∃ o, ops[i]? = some o ∧ qG EV n ops o (AnyG EV n md ops L ord K fuel (listed.setIfInBounds i true)) e

structure EvLaw (EV : Oper → AVal → Env → Prop) (EX : AVal → Env → Prop) (n : Nat) (ops : Array Oper) (dI : Nat) : Prop where
  anti : ∀ o u e e', EnvLe e' e → EV o u e → EV o u e'
  antiX : ∀ u e e', EnvLe e' e → EX u e → EX u e'
  undefX : ∀ e, EX (.v undef) e
  swap : ∀ (oi oj : Oper) (ui uj : AVal) (di : Nat) (e : Env), oi.dst = some di → di < n → di ≠ dI → oi.apart ops oj = true → (∀ cs b, oj.op ≠ .select cs b) → EX ui e → EV oj uj (upd e di ui) → EV oj uj e

variable {EV : Oper → AVal → Env → Prop} {EX : AVal → Env → Prop}

def YG (EV : Oper → AVal → Env → Prop) (EX : AVal → Env → Prop) (ops : Array Oper) (o : Oper) (u : AVal) (e : Env) : Prop :=
  (Wanted ops e o true ∧ EV o u e ∧ EX u e) ∨ (Wanted ops e o false ∧ u = .v undef)

theorem anyG_first (law : EvLaw EV EX n ops dI) {i : Nat} {oi : Oper} {ui : AVal} {di : Nat} (hL : lastB md ops L ord = true) (hio : i ∈ ord) (hi : ops[i]? = some oi) (hdi : oi.dst = some di) (hdn : di < n) (hne0 : di ≠ dI) (hsel : ∀ (j : Nat) (o : Oper) cs b, ops[j]? = some o → o.op ≠ .select cs b)
    (hdst : ∀ (j k : Nat) (oj ok : Oper) d, ops[j]? = some oj → ops[k]? = some ok → oj.dst = some d → ok.dst = some d → j = k) :
    ∀ (fuel : Nat) (listed : Array Bool) (e : Env), Closed md ops listed →
      (∀ j oj d, ops[j]? = some oj → listed.getD j true = false → oj.dst = some d → e d = .any) →
      (∀ j oj, ops[j]? = some oj → j ≠ i → listed.getD j true = false → (∀ ed ∈ oj.after, Region.binds md ed = true → ed.on ≠ i) → oi.apart ops oj = true) →
      i ∈ Region.ready md ops listed → YG EV EX ops oi ui e →
      AnyG EV n md ops L ord K fuel (listed.setIfInBounds i true) (upd e di ui) → AnyG EV n md ops L ord K (fuel + 1) listed e := by
  intro fuel
  have here : ∀ (fuel : Nat) (listed : Array Bool) (e : Env), YG EV EX ops oi ui e → AnyG EV n md ops L ord K fuel (listed.setIfInBounds i true) (upd e di ui) → i ∈ ord ∧ ∃ o, ops[i]? = some o ∧ qG EV n ops o (AnyG EV n md ops L ord K fuel (listed.setIfInBounds i true)) e := by
    intro fuel listed e hy H
    refine ⟨hio, oi, hi, di, hdi, hdn, ?_⟩
    rcases hy with ⟨h1, h2, _⟩ | ⟨h1, rfl⟩
    · exact .inl ⟨h1, ui, h2, H⟩
    · exact .inr ⟨h1, H⟩
  induction fuel with
  | zero =>
    intro listed e hcl _ _ hr hy H
    refine ⟨fun h => (by rw [h] at hr; cases hr), fun j hj => ?_⟩
    have := last_only hL hio hcl H.1 hr hj
    subst this
    exact here 0 listed e hy H
  | succ fuel ih =>
    intro listed e hcl hany hfree hr hy H
    refine ⟨fun h => (by rw [h] at hr; cases hr), fun j hj => ?_⟩
    by_cases hji : j = i
    · subst hji; exact here _ listed e hy H
    · obtain ⟨hjo, oj, hoj, dj, hdj, hdjn, hq⟩ := H.2 j (ready_mono hj hji)
      obtain ⟨hjun, oj', hoj', hall⟩ := mem_ready.1 hj
      obtain rfl : oj' = oj := by rw [hoj] at hoj'; exact (Option.some.inj hoj').symm
      have hnot : ∀ ed ∈ oj'.after, Region.binds md ed = true → ed.on ≠ i := fun ed he hb heq => by
        have h1 := hall ed he hb
        have h0 := (mem_ready.1 hr).1
        rw [heq] at h1
        rcases Nat.lt_or_ge i listed.size with h' | h'
        · simp [h'] at h0 h1; rw [h0] at h1; cases h1
        · simp [Array.getElem?_eq_none h'] at h1
      have hap := hfree j oj' hoj hji hjun hnot
      obtain ⟨a1, a2, a3⟩ := Oper.apart_spec hap
      have hne : di ≠ dj := fun hh => a2 di hdi (by rw [hdj, hh])
      have hanyj : e dj = .any := hany j oj' dj hoj hjun hdj
      have hle : ∀ uj, EnvLe (upd e dj uj) e := fun uj t => by
        by_cases ht : t = dj
        · subst ht; rw [hanyj]; exact ALe.any _
        · rw [upd_other _ _ _ ht]; exact ALe.rfl' rfl
      have hyj : ∀ uj, YG EV EX ops oi ui (upd e dj uj) := fun uj => by
        rcases hy with ⟨h1, h2, h3⟩ | ⟨h1, h2⟩
        · exact .inl ⟨h1.other' (a3 dj hdj), law.anti _ _ _ _ (hle uj) h2, law.antiX _ _ _ (hle uj) h3⟩
        · exact .inr ⟨h1.other' (a3 dj hdj), h2⟩
      have hex : EX ui e := by
        rcases hy with ⟨_, _, h3⟩ | ⟨_, rfl⟩
        · exact h3
        · exact law.undefX e
      have hfree' : ∀ k ok, ops[k]? = some ok → k ≠ i → (listed.setIfInBounds j true).getD k true = false →
          (∀ ed ∈ ok.after, Region.binds md ed = true → ed.on ≠ i) → oi.apart ops ok = true := fun k ok hk hki hun hno => by
        refine hfree k ok hk hki ?_ hno
        by_cases hjk : j = k
        · subst hjk; exact hjun
        · rw [getD_set_ne true hjk] at hun; exact hun
      have hnext : ∀ uj, AnyG EV n md ops L ord K fuel ((listed.setIfInBounds i true).setIfInBounds j true) (upd (upd e di ui) dj uj) → AnyG EV n md ops L ord K (fuel + 1) (listed.setIfInBounds j true) (upd e dj uj) := fun uj hn => by
        refine ih (listed.setIfInBounds j true) (upd e dj uj) (hcl.set hj) ?_ hfree' (ready_mono hr (Ne.symm hji)) (hyj uj) ?_
        · intro k ok d hk hun hd
          by_cases hkj : j = k
          · subst hkj
            exfalso
            have hlt : j < listed.size := by
              rcases Nat.lt_or_ge j listed.size with h' | h'
              · exact h'
              · simp [Array.getElem?_eq_none h'] at hjun
            simp [hlt] at hun
          · rw [getD_set_ne true hkj] at hun
            by_cases hdd : d = dj
            · subst hdd
              exact absurd (hdst j k oj' ok d hoj hk hdj hd) hkj
            · rw [upd_other _ _ _ hdd]; exact hany k ok d hk hun hd
        · rw [Array.setIfInBounds_comm _ _ hji]
          rw [upd_comm _ _ _ (Ne.symm hne)]
          exact hn
      refine ⟨hjo, oj', hoj, dj, hdj, hdjn, ?_⟩
      rcases hq with ⟨hwa, uj, hev, hn⟩ | ⟨hwa, hn⟩
      · exact .inl ⟨hwa.other (a1 di hdi), uj, law.swap oi oj' ui uj di e hdi hdn hne0 hap (fun cs b => hsel j oj' cs b hoj) hex hev, hnext uj hn⟩
      · exact .inr ⟨hwa.other (a1 di hdi), hnext _ hn⟩

/-- The walk in an order that is told. -/
def VG (EV : Oper → AVal → Env → Prop) (EX : AVal → Env → Prop) (n : Nat) (ops : Array Oper) (K : Env → Prop) : List Nat → Array Bool → Env → Prop
  | [], _, e => K e
  | i :: rest, listed, e => ∃ o, ops[i]? = some o ∧ ∃ d, o.dst = some d ∧ d < n ∧
      ((Wanted ops e o true ∧ ∃ u, EV o u e ∧ (EX u e ∨ soloAt .any ops listed i = true) ∧ VG EV EX n ops K rest (listed.setIfInBounds i true) (upd e d u)) ∨ (Wanted ops e o false ∧ VG EV EX n ops K rest (listed.setIfInBounds i true) (upd e d (.v undef))))
def preG (md : Region.Mode) (ops : Array Oper) (L : Array Bool) : List Nat → Array Bool → Bool
  | [], listed => listed == L
  | i :: rest, listed => (Region.ready md ops listed).contains i && Region.free md ops listed i && preG md ops L rest (listed.setIfInBounds i true)

theorem anyG_lex (law : EvLaw EV EX n ops dI) (hL : lastB .any ops L ord = true) (hs : Region.noSelect ops = true) (hdst : ∀ (j k : Nat) (oj ok : Oper) d, ops[j]? = some oj → ops[k]? = some ok → oj.dst = some d → ok.dst = some d → j = k)
    (hnd : ∀ (i : Nat) (o : Oper) (d : Nat), i ∈ ord → ops[i]? = some o → o.dst = some d → d ≠ dI) :
    ∀ (os : List Nat) (listed : Array Bool) (e : Env), Closed .any ops listed → (∀ i ∈ os, i ∈ ord) → (∀ j oj d, ops[j]? = some oj → listed.getD j true = false → oj.dst = some d → e d = .any) →
      preG .any ops L os listed = true → VG EV EX n ops K os listed e → AnyG EV n .any ops L ord K os.length listed e
  | [], _, _, _, _, _, hB, hv => ⟨by simpa [preG] using hB, hv⟩
  | i :: os, listed, e, hcl, hos, hany, hB, hv => by
    simp only [preG, Bool.and_eq_true] at hB
    obtain ⟨⟨hr, hf⟩, hB'⟩ := hB
    have hr' : i ∈ Region.ready .any ops listed := by simpa using hr
    obtain ⟨o, h0, d, hd, hdn, hq⟩ := hv
    have hio := hos i (by simp)
    have hk1 := mem_ready.1 hr'
    have hany' : ∀ u, ∀ j oj d', ops[j]? = some oj → (listed.setIfInBounds i true).getD j true = false → oj.dst = some d' → upd e d u d' = .any := by
      intro u j oj d' hj hun hd'
      by_cases hkj : i = j
      · subst hkj
        exfalso
        have hlt : i < listed.size := by
          rcases Nat.lt_or_ge i listed.size with h' | h'
          · exact h'
          · have := hk1.1; simp [Array.getElem?_eq_none h'] at this
        simp [hlt] at hun
      · rw [getD_set_ne true hkj] at hun
        by_cases hdd : d' = d
        · subst hdd; exact absurd (hdst i j o oj d' h0 hj hd hd') hkj
        · rw [upd_other _ _ _ hdd]; exact hany j oj d' hj hun hd'
    have hos' : ∀ j ∈ os, j ∈ ord := fun j hj => hos j (by simp [hj])
    have hnd' := hnd i o d hio h0 hd
    rcases hq with ⟨hwa, u, hev, hex | hso, hn⟩ | ⟨hwa, hn⟩
    · exact anyG_first law hL hio h0 hd hdn hnd' (Region.noSelect_spec hs) hdst os.length listed e hcl hany (Region.free_spec h0 hf) hr' (.inl ⟨hwa, hev, hex⟩)
        (anyG_lex law hL hs hdst hnd os _ _ (hcl.set hr') hos' (hany' u) hB' hn)
    · have hsr : Region.ready .any ops listed = [i] := by
        unfold soloAt at hso
        simpa using hso
      refine ⟨fun hnil => (by rw [hsr] at hnil; cases hnil), fun j hj => ?_⟩
      rw [hsr] at hj
      simp only [List.mem_singleton] at hj
      subst hj
      exact ⟨hio, o, h0, d, hd, hdn, .inl ⟨hwa, u, hev, anyG_lex law hL hs hdst hnd os _ _ (hcl.set hr') hos' (hany' u) hB' hn⟩⟩
    · exact anyG_first law hL hio h0 hd hdn hnd' (Region.noSelect_spec hs) hdst os.length listed e hcl hany (Region.free_spec h0 hf) hr' (.inr ⟨hwa, rfl⟩)
        (anyG_lex law hL hs hdst hnd os _ _ (hcl.set hr') hos' (hany' _) hB' hn)
end

section
variable {P : Program} {G : Glob} {n : Nat} {ops : Array Oper} {L : Array Bool} {ord : List Nat} {dI : Nat} {K : Env → Prop} {h : Hp} {π : Type} {U : π → AVal} {E : π → Ent}

/-- Both before and behind the operation that makes memory. -/
def EV2 (P : Program) (G : Glob) (n : Nat) (h : Hp) (dI : Nat) {π : Type} (U : π → AVal) (E : π → Ent) (o : Oper) (u : AVal) (e : Env) : Prop := EvQ P G n h o u e ∧ ∀ p, EvQ P G n (upd h dI (some (E p))) o u (upd e dI (U p))
def EX2 (G : Glob) (n : Nat) (h : Hp) (dI : Nat) {π : Type} (U : π → AVal) (E : π → Ent) (u : AVal) (e : Env) : Prop := ExU G n h u e ∧ ∀ p, ExU G n (upd h dI (some (E p))) u (upd e dI (U p))
theorem envLe_upd {e e' : Env} (he : EnvLe e' e) (d : Nat) (u : AVal) : EnvLe (upd e' d u) (upd e d u) := fun t => by
  by_cases ht : t = d
  · subst ht; rw [upd_same, upd_same]; exact ALe.rfl' rfl
  · rw [upd_other _ _ _ ht, upd_other _ _ _ ht]; exact he t
theorem exU_undef {e : Env} : ExU G n h (.v undef) e := fun _ _ _ => ⟨undef, by simp [Rel, c0, undef]⟩
theorem law2 : EvLaw (EV2 P G n h dI U E) (EX2 G n h dI U E) n ops dI where
  anti := fun o u e e' he hv => ⟨hv.1.anti he, fun p => (hv.2 p).anti (envLe_upd he _ _)⟩
  antiX := fun u e e' he hv => ⟨hv.1.anti he, fun p => (hv.2 p).anti (envLe_upd he _ _)⟩
  undefX := fun e => ⟨exU_undef, fun p => exU_undef⟩
  swap := fun oi oj ui uj di e hdi hdn hne hap hsj hx hv => ⟨EvQ.swap hdi hdn hap hsj hx.1 hv.1, fun p => EvQ.swap hdi hdn hap hsj (hx.2 p) (by rw [upd_comm _ _ _ (Ne.symm hne)]; exact hv.2 p)⟩

theorem set_on {listed : Array Bool} {i : Nat} (h : listed.getD i false = true) : (listed.setIfInBounds i false).setIfInBounds i true = listed := by
  apply Array.ext_getElem?
  intro j
  by_cases hij : i = j
  · subst hij
    have hlt : i < listed.size := by
      rcases Nat.lt_or_ge i listed.size with h' | h'
      · exact h'
      · simp [Array.getElem?_eq_none h'] at h
    simp [hlt] at h
    simp [hlt, h]
  · rw [Array.getElem?_setIfInBounds_ne hij, Array.getElem?_setIfInBounds_ne hij]

theorem wpG {Q' : Exit → Act → World → Prop} {g iI : Nat} {oI : Oper} (hI : ops[iI]? = some oI) (hgI : oI.guard = none) (hdI : oI.dst = some dI) (hafI : oI.after = #[])
    (hfl : ∀ e a w, St G n e h a w → ∃ x w' p, (execOp a.eval oI).run P w = .ok (.value x) w' ∧ St G n (upd e dI (U p)) (upd h dI (some (E p))) (a.put (some dI) x) w')
    (hlook : ∀ (i : Nat) (o : Oper), i ∈ ord → ops[i]? = some o → i ≠ iI ∧ dI ∉ o.looksAt ops ∧ o.dst ≠ some dI)
    (hK1 : ∀ p a w e, St G n (upd e dI (U p)) (upd h dI (some (E p))) a w → K e → wpAny P .any ops Q' g L a w)
    (hK0 : ∀ a w e, St G n e h a w → K e → wpAny P .any ops Q' (g + 1) (L.setIfInBounds iI false) a w) :
    ∀ (fuel : Nat) (listed : Array Bool) (e : Env), listed.getD iI false = true → AnyG (EV2 P G n h dI U E) n .any ops L ord K fuel listed e →
      (∀ p a w, St G n (upd e dI (U p)) (upd h dI (some (E p))) a w → wpAny P .any ops Q' (fuel + g) listed a w) ∧
      (∀ a w, St G n e h a w → wpAny P .any ops Q' (fuel + (g + 1)) (listed.setIfInBounds iI false) a w)
  | 0, listed, e, _, ha => by
    obtain ⟨h1, h2⟩ := ha
    rw [Nat.zero_add, Nat.zero_add, h1]
    exact ⟨fun p a w st => hK1 p a w e st h2, fun a w st => hK0 a w e st h2⟩
  | fuel + 1, listed, e, hl, ha => by
    have hl' : ∀ i, i ≠ iI → (listed.setIfInBounds i true).getD iI false = true := fun i hi => by rw [getD_set_ne false hi]; exact hl
    have mode1 : ∀ p a w, St G n (upd e dI (U p)) (upd h dI (some (E p))) a w → wpAny P .any ops Q' (fuel + 1 + g) listed a w := by
      intro p a w st
      rw [show fuel + 1 + g = (fuel + g) + 1 by omega]
      refine ⟨fun h0 => absurd h0 ha.1, fun i hi => ?_⟩
      obtain ⟨hio, o, ho, d, hd, hdn, hq⟩ := ha.2 i hi
      obtain ⟨k1, k2, k3⟩ := hlook i o hio ho
      have hdd : d ≠ dI := fun hh => k3 (by rw [hd, hh])
      unfold wpOp
      simp only [ho]
      rcases hq with ⟨hwa, u, hev, hn⟩ | ⟨hwa, hn⟩
      · rw [if_pos (wanted_of st (hwa.other' k2))]
        refine .inl ((hev.2 p).wp st fun x w' hm hx => ?_)
        refine (wpG hI hgI hdI hafI hfl hlook hK1 hK0 fuel _ _ (hl' i k1) hn).1 p _ _ ?_
        rw [hd, upd_comm _ _ _ hdd]
        exact St.put (st.ext hm) d hdn u x hx
      · rw [if_neg (by rw [wanted_of st (hwa.other' k2)]; simp)]
        refine (wpG hI hgI hdI hafI hfl hlook hK1 hK0 fuel _ _ (hl' i k1) hn).1 p _ _ ?_
        rw [hd, upd_comm _ _ _ hdd]
        exact st.put d hdn _ _ (by simp [Rel, c0, undef])
    refine ⟨mode1, fun a w st => ?_⟩
    rw [show fuel + 1 + (g + 1) = (fuel + 1 + g) + 1 by omega]
    have hlt : iI < listed.size := by
      rcases Nat.lt_or_ge iI listed.size with h' | h'
      · exact h'
      · simp [Array.getElem?_eq_none h'] at hl
    have hIr : iI ∈ Region.ready .any ops (listed.setIfInBounds iI false) := mem_ready.2 ⟨by simp [hlt], oI, hI, fun ed hed => by rw [hafI] at hed; simp at hed⟩
    refine ⟨fun h0 => (by rw [h0] at hIr; cases hIr), fun i hi => ?_⟩
    by_cases hii : i = iI
    · subst hii
      unfold wpOp
      simp only [hI]
      rw [if_pos (by simp [Region.wanted, hgI])]
      refine .inl ?_
      obtain ⟨x, w', p, hr, st'⟩ := hfl e a w st
      unfold Oper.wp
      rw [hr]
      show wpAny P .any ops Q' (fuel + 1 + g) ((listed.setIfInBounds i false).setIfInBounds i true) (a.put oI.dst x) w'
      rw [set_on hl, hdI]
      exact mode1 p _ _ st'
    · have hi' := ready_mono hi hii
      rw [set_on hl] at hi'
      obtain ⟨hio, o, ho, d, hd, hdn, hq⟩ := ha.2 i hi'
      unfold wpOp
      simp only [ho]
      rw [Array.setIfInBounds_comm _ _ (Ne.symm hii)]
      rw [show fuel + 1 + g = fuel + (g + 1) by omega]
      rcases hq with ⟨hwa, u, hev, hn⟩ | ⟨hwa, hn⟩
      · rw [if_pos (wanted_of st hwa)]
        refine .inl (hev.1.wp st fun x w' hm hx => ?_)
        refine (wpG hI hgI hdI hafI hfl hlook hK1 hK0 fuel _ _ (hl' i hii) hn).2 _ _ ?_
        rw [hd]
        exact St.put (st.ext hm) d hdn u x hx
      · rw [if_neg (by rw [wanted_of st hwa]; simp)]
        refine (wpG hI hgI hdI hafI hfl hlook hK1 hK0 fuel _ _ (hl' i hii) hn).2 _ _ ?_
        rw [hd]
        exact st.put d hdn _ _ (by simp [Rel, c0, undef])
end
end Go.Av
namespace Go.Av
open Go.RowKit
section
variable {P : Program} {G : Glob} {n : Nat} {ops : Array Oper} {dI : Nat} {h : Hp} {π : Type} {U : π → AVal} {E : π → Ent} {Q : Post}

/-- Operations that look at no memory: they are taken at once. -/
def TK (P : Program) (G : Glob) (n : Nat) (h : Hp) (ops : Array Oper) (dI : Nat) {π : Type} (U : π → AVal) (E : π → Ent) (K : Env → Prop) : List Nat → Env → Prop
  | [], e => K e
  | i :: rest, e => ∃ o d u, ops[i]? = some o ∧ o.dst = some d ∧ d < n ∧ d ≠ dI ∧ (Inert P G n h o u e ∧ ∀ p, Inert P G n (upd h dI (some (E p))) o u (upd e dI (U p))) ∧ TK P G n h ops dI U E K rest (upd e d u)
def takeB (ops : Array Oper) : List Nat → Array Bool → Bool
  | [], _ => true
  | i :: rest, listed => (Region.ready .any ops listed).contains i && Region.free .any ops listed i && takeB ops rest (listed.setIfInBounds i true)
def setAll (listed : Array Bool) (l : List Nat) : Array Bool := l.foldl (fun a i => a.setIfInBounds i true) listed

theorem take1 [NoPanic Q] {K : Env → Prop} {g : Nat} (hs : Region.noSelect ops = true) : ∀ (tk : List Nat) (listed : Array Bool) (e : Env), takeB ops tk listed = true → TK P G n h ops dI U E K tk e →
    (∀ p a w e', St G n (upd e' dI (U p)) (upd h dI (some (E p))) a w → K e' → wpAny P .any ops (lift G n Q) g (setAll listed tk) a w) →
    ∀ p a w, St G n (upd e dI (U p)) (upd h dI (some (E p))) a w → wpAny P .any ops (lift G n Q) (g + tk.length) listed a w
  | [], listed, e, _, hk, hK, p, a, w, st => by simpa [setAll] using hK p a w e st hk
  | i :: tk, listed, e, hB, hk, hK, p, a, w, st => by
    simp only [takeB, Bool.and_eq_true] at hB
    obtain ⟨o, d, u, ho, hd, hdn, hne, hin, hk'⟩ := hk
    obtain ⟨hg, hin2⟩ := hin.2 p
    obtain ⟨v, hv1, hv2⟩ := hin2 a w st
    rw [show g + (i :: tk).length = (g + tk.length) + 1 by simp; omega]
    refine wpAny_take ho hs hB.1.2 hB.1.1 (fun c a w hq => ?_) (.inl ⟨by simp [Region.wanted, hg], hv1⟩) ?_
    · obtain ⟨e', h', _, hq⟩ := hq
      exact absurd hq (NoPanic.no c e' h')
    rw [hd]
    have st' := st.put d hdn u v hv2
    rw [upd_comm _ _ _ (Ne.symm hne)] at st'
    exact take1 hs tk _ _ hB.2 hk' (fun p a w e' st hk => by have := hK p a w e' st hk; simpa [setAll] using this) p _ _ st'
theorem take0 [NoPanic Q] {K : Env → Prop} {g : Nat} (hs : Region.noSelect ops = true) : ∀ (tk : List Nat) (listed : Array Bool) (e : Env), takeB ops tk listed = true → TK P G n h ops dI U E K tk e →
    (∀ a w e', St G n e' h a w → K e' → wpAny P .any ops (lift G n Q) g (setAll listed tk) a w) →
    ∀ a w, St G n e h a w → wpAny P .any ops (lift G n Q) (g + tk.length) listed a w
  | [], listed, e, _, hk, hK, a, w, st => by simpa [setAll] using hK a w e st hk
  | i :: tk, listed, e, hB, hk, hK, a, w, st => by
    simp only [takeB, Bool.and_eq_true] at hB
    obtain ⟨o, d, u, ho, hd, hdn, hne, hin, hk'⟩ := hk
    obtain ⟨hg, hin2⟩ := hin.1
    obtain ⟨v, hv1, hv2⟩ := hin2 a w st
    rw [show g + (i :: tk).length = (g + tk.length) + 1 by simp; omega]
    refine wpAny_take ho hs hB.1.2 hB.1.1 (fun c a w hq => ?_) (.inl ⟨by simp [Region.wanted, hg], hv1⟩) ?_
    · obtain ⟨e', h', _, hq⟩ := hq
      exact absurd hq (NoPanic.no c e' h')
    rw [hd]
    exact take0 hs tk _ _ hB.2 hk' (fun a w e' st hk => by have := hK a w e' st hk; simpa [setAll] using this) _ _ (st.put d hdn u v hv2)

def looseB (ops : Array Oper) (iI : Nat) (dI : Nat) (ord tk tl : List Nat) : Bool :=
  let l0 := (Array.replicate ops.size false).setIfInBounds iI true
  let L := setAll l0 ord
  Region.noSelect ops && dstAp ops && ((ops[iI]?).map fun o => o.after.isEmpty && o.guard.isNone).getD false && preG .any ops L ord l0 && lastB .any ops L ord &&
  takeB ops tk L && takeB ops tk (L.setIfInBounds iI false) && seqT .any ops tl (setAll L tk) && seqT .any ops (iI :: tl) (setAll (L.setIfInBounds iI false) tk) &&
  (ord.length + tk.length + tl.length + 1 == ops.size) && L.getD iI false && l0.getD iI false &&
  ord.all (fun j => j != iI && ((ops[j]?).map fun o => !(o.looksAt ops).contains dI && o.dst != some dI).getD false)

theorem V_loose {id : Nat} [NoPanic Q] {e : Env} {l tlo : List Oper} {oI : Oper} (iI : Nat) (ord tk tl : List Nat) (hm : P.follows .mixedOrders = true) (hI : l[iI]? = some oI) (hdI : oI.dst = some dI) (hB : looseB l.toArray iI dI ord tk tl = true)
    (hfl : ∀ e a w, St G n e h a w → ∃ x w' p, (execOp a.eval oI).run P w = .ok (.value x) w' ∧ St G n (upd e dI (U p)) (upd h dI (some (E p))) (a.put (some dI) x) w')
    (htl : tl.map (l.toArray[·]?) = tlo.map some)
    (hv : VG (EV2 P G n h dI U E) (EX2 G n h dI U E) n l.toArray (TK P G n h l.toArray dI U E (fun e' => ∀ p, VL P G n l.toArray tlo Q (upd e' dI (U p)) (upd h dI (some (E p)))) tk) ord ((Array.replicate l.toArray.size false).setIfInBounds iI true) (clearD l e)) :
    V P G n (.region id l.toArray true) Q e h := fun a w st => by
  simp only [looseB, Bool.and_eq_true, beq_iff_eq] at hB
  obtain ⟨⟨⟨⟨⟨⟨⟨⟨⟨⟨⟨⟨hsel, hdst⟩, haft⟩, hpre⟩, hlast⟩, htk1⟩, htk0⟩, hseq1⟩, hseq0⟩, hsz⟩, hLI⟩, hl0I⟩, hlook⟩ := hB
  have hI' : l.toArray[iI]? = some oI := by simpa using hI
  rw [hI'] at haft
  simp only [Option.map_some, Option.getD_some, Bool.and_eq_true, Array.isEmpty_iff, Option.isNone_iff_eq_none] at haft
  refine wp_region_any hm ?_
  have st0 : St G n (clearD l e) h a { w with drawn := w.drawn + 1 } := (st.same (Same.drew w)).weaken (fun t => by
    unfold clearD
    cases hc : (l.filterMap (·.dst)).contains t
    · exact ALe.rfl' rfl
    · exact ALe.any _) (HpLe.refl h)
  have hlk : ∀ (i : Nat) (o : Oper), i ∈ ord → l.toArray[i]? = some o → i ≠ iI ∧ dI ∉ o.looksAt l.toArray ∧ o.dst ≠ some dI := by
    intro i o hi ho
    have h1 := List.all_eq_true.1 hlook i hi
    rw [ho] at h1
    simp only [Option.map_some, Option.getD_some, Bool.and_eq_true, bne_iff_ne, ne_eq, Bool.not_eq_true'] at h1
    exact ⟨h1.1, fun hm => by have := h1.2.1; simp at this; exact this hm, h1.2.2⟩
  have hG1 : AnyG (EV2 P G n h dI U E) n .any l.toArray (setAll ((Array.replicate l.toArray.size false).setIfInBounds iI true) ord) ord (TK P G n h l.toArray dI U E (fun e' => ∀ p, VL P G n l.toArray tlo Q (upd e' dI (U p)) (upd h dI (some (E p)))) tk) ord.length ((Array.replicate l.toArray.size false).setIfInBounds iI true) (clearD l e) := by
    refine anyG_lex law2 hlast hsel (dstAp_spec hdst) (fun i o d hi ho hd hh => (hlk i o hi ho).2.2 (by rw [hd, hh])) ord _ _ ?_ (fun i hi => hi) ?_ hpre hv
    · intro j oj hj hl ed hed hb
      by_cases hmj : iI = j
      · subst hmj
        obtain rfl : oI = oj := by rw [hI'] at hj; exact Option.some.inj hj
        rw [haft.1] at hed
        simp at hed
      · rw [getD_set_ne false hmj, Array.getD_eq_getD_getElem?, Array.getElem?_replicate] at hl
        split at hl <;> cases hl
    · intro j oj d hj hun hd
      unfold clearD
      have : (l.filterMap (·.dst)).contains d = true := by
        simp only [List.contains_iff_mem, List.mem_filterMap]
        exact ⟨oj, List.mem_of_getElem? (by simpa using hj), hd⟩
      rw [this]; rfl
  have hrep : ((Array.replicate l.toArray.size false).setIfInBounds iI true).setIfInBounds iI false = Array.replicate l.toArray.size false := by
    refine set_back ?_
    have : iI < l.toArray.size := (Array.getElem?_eq_some_iff.1 hI').1
    simp at this
    simp [this]
  have key := (wpG (Q' := lift G n Q) (g := tl.length + tk.length) hI' haft.2 hdI haft.1 hfl hlk ?_ ?_ ord.length _ _ hl0I hG1).2 a _ st0
  · rw [hrep] at key
    rw [show l.toArray.size = ord.length + (tl.length + tk.length + 1) by omega]
    rw [show l.toArray.size = ord.length + (tl.length + tk.length + 1) by omega] at key
    exact key
  · intro p a' w' e' st' hk
    exact take1 hsel tk _ _ htk1 hk (fun p a w e'' st'' hvl => wpAny_of_seqT tl tlo _ _ _ htl hseq1 (hvl p a w st'')) p a' w' st'
  · intro a' w' e' st' hk
    rw [show tl.length + tk.length + 1 = (tl.length + 1) + tk.length by omega]
    refine take0 hsel tk _ _ htk0 hk (fun a w e'' st'' hvl => ?_) a' w' st'
    simp only [seqT, Bool.and_eq_true, beq_iff_eq] at hseq0
    refine ⟨fun h1 => (by rw [hseq0.1] at h1; cases h1), fun j hj => ?_⟩
    rw [hseq0.1] at hj
    simp only [List.mem_singleton] at hj
    subst hj
    unfold wpOp
    simp only [hI']
    rw [if_pos (by simp [Region.wanted, haft.2])]
    refine .inl ?_
    obtain ⟨x, w2, p, hr, st2⟩ := hfl _ _ _ st''
    unfold Oper.wp
    rw [hr]
    show wpAny P .any l.toArray (lift G n Q) tl.length _ (a.put oI.dst x) w2
    rw [hdI]
    exact wpAny_of_seqT tl tlo _ _ _ htl hseq0.2 (hvl p _ _ st2)

theorem fl_alloc {el : TypeId} {zs : List Value} [hz : ZeroT P el zs] {ty : TypeId} {pos : String} {after : Array Edge} (hd : dI < n) : ∀ e a w, St G n e h a w → ∃ x w' b, (execOp a.eval ⟨some dI, .alloc el, ty, pos, after, none⟩).run P w = .ok (.value x) w' ∧ St G n (upd e dI (.own dI b 0)) (upd h dI (some (.box b (zs.map AVal.v)))) (a.put (some dI) x) w' := fun e a w st => by
  obtain ⟨i, z, h1, h2, h3, h4⟩ := hz.ok
  refine ⟨_, _, w.heap.size, ?_, St.put (st.box dI el _ zs (relL_zero h4)) dI hd _ (.pointer (some ⟨w.heap.size, 0, none⟩)) (by simp [Rel])⟩
  simp [execOp, Instr.alloc, zeroValue, typeInfo, h1, h2, newVar, newRow, ← h3]
theorem fl_lit0 {t el bytes sz : Nat} {z : Value} [hs : SliceT P t el] [hel : ElemT P el sz bytes z] {ty : TypeId} {pos : String} {after : Array Edge} (hd : dI < n) : ∀ e a w, St G n e h a w → ∃ x w' s, (execOp a.eval ⟨some dI, .buildSlice t 0 #[], ty, pos, after, none⟩).run P w = .ok (.value x) w' ∧ St G n (upd e dI (.orow dI s)) (upd h dI (some (.row s el sz 0 []))) (a.put (some dI) x) w' := fun e a w st => by
  obtain ⟨i, hi1, hi2, hi3, hi4⟩ := hel.ok
  have hen : ∀ b, (Ent.row (.slice (some ⟨w.heap.size, 0, none⟩) 0 0) el sz 0 []).blk = some b → w.heap.size ≤ b := fun b hb => by
    simp [Ent.blk, Value.ownBlock] at hb; omega
  refine ⟨_, w.alloc (.cells #[] el), .slice (some ⟨w.heap.size, 0, none⟩) 0 0, ?_, St.put (St.newEnt (w1 := w.alloc (.cells #[] el)) st dI _ rfl rfl rfl (by simp) (fun b hb => Below.heap_alloc w _ b hb) hen ?_) dI hd _ (.slice (some ⟨w.heap.size, 0, none⟩) 0 0) (by simp [Rel])⟩
  · simp [execOp, Instr.buildSlice, run_underlying hs.ok, sizeOf, typeInfo, hi1, Instr.fill, newRow, Array.range_zero']
  · exact ⟨[], World.ownsRow_made w #[] 0 (Nat.zero_le _) (Nat.zero_le _) (by simp), by simp [RelL]⟩
end
end Go.Av
namespace Go.Av
open Go.RowKit
section
variable {P : Program} {G : Glob} {n : Nat} {ops : Array Oper} {dI : Nat} {h : Hp} {π : Type} {U : π → AVal} {E : π → Ent} {Q : Post} {K : Env → Prop} {e : Env} {listed : Array Bool} {rest : List Nat} {i d : Nat} {ty : TypeId} {pos : String} {after : Array Edge}

theorem VG_opE {op : Op} (hk : OpThen P G n e h op ty fun u => (∀ p, OpThen P G n (upd e dI (U p)) (upd h dI (some (E p))) op ty (u = ·)) ∧ VG (EV2 P G n h dI U E) (EX2 G n h dI U E) n ops K rest (listed.setIfInBounds i true) (upd e d u))
    (ho : ops[i]? = some ⟨some d, op, ty, pos, after, none⟩ := by rfl) (hd : Nat.blt d n = true := by rfl) : VG (EV2 P G n h dI U E) (EX2 G n h dI U E) n ops K (i :: rest) listed e := by
  obtain ⟨u, h1, h2, h3⟩ := hk
  have h4 : ∀ p, EvalOp P G n (upd e dI (U p)) (upd h dI (some (E p))) op ty u := fun p => by
    obtain ⟨u', h5, rfl⟩ := h2 p
    exact h5
  exact ⟨_, ho, d, rfl, by simpa using hd, .inl ⟨.inl ⟨rfl, rfl⟩, u, ⟨evQ_of_op h1, fun p => evQ_of_op (h4 p)⟩, .inl ⟨exU_of_op h1, fun p => exU_of_op (h4 p)⟩, h3⟩⟩
theorem VG_nil (hk : K e) : VG (EV2 P G n h dI U E) (EX2 G n h dI U E) n ops K [] listed e := hk
theorem VG_callF {fo : Operand} {xs : List Operand} {ts : Array TypeId} {u : AVal} {f : FuncId} {caps ins : List AVal} [CallT P f] (hc : Ct P f ins (· = u)) (hk : VG (EV2 P G n h dI U E) (EX2 G n h dI U E) n ops K rest (listed.setIfInBounds i true) (upd e d u))
    (ho : ops[i]? = some ⟨some d, .call { callee := .value fo, args := xs.toArray, argTypes := ts }, ty, pos, after, none⟩ := by rfl) (hf : ev e fo = .fn f caps := by rfl) (hf2 : ∀ p, ev (upd e dI (U p)) fo = .fn f caps := by intro _; rfl)
    (hi : (xs.map (ev e) ++ caps).map (lendN 6 h) = ins := by rfl) (hi2 : ∀ p, (xs.map (ev (upd e dI (U p))) ++ caps).map (lendN 6 (upd h dI (some (E p)))) = ins := by intro _; rfl)
    (hp : AllL (lendP 6 h) (xs.map (ev e) ++ caps) := by repeat' (first | exact trivial | exact rfl | constructor)) (hp2 : ∀ p, AllL (lendP 6 (upd h dI (some (E p)))) (xs.map (ev (upd e dI (U p))) ++ caps) := by intro _; repeat' (first | exact trivial | exact rfl | constructor))
    (hu : Fresh2 u := by first | trivial | exact fresh_sl _ _ | exact fresh_pic _ _ _ _ | exact fresh_picT _ _ _ _ _ | exact fresh_curve _ _ _ _) (hs : soloAt .any ops listed i = true := by kernel_rfl) (hcan : xs.all canonO = true := by rfl) (hcf : canonO fo = true := by rfl) (hd : Nat.blt d n = true := by rfl) :
    VG (EV2 P G n h dI U E) (EX2 G n h dI U E) n ops K (i :: rest) listed e :=
  ⟨_, ho, d, rfl, by simpa using hd, .inl ⟨.inl ⟨rfl, rfl⟩, u, ⟨evQ_of_call hf (lendAll hi hp) hc hu hcan hcf, fun p => evQ_of_call (hf2 p) (lendAll (hi2 p) (hp2 p)) hc hu hcan hcf⟩, .inr hs, hk⟩⟩

theorem inert_extract {x : Operand} {us : List AVal} {u : AVal} {k : Nat} (hx : ev e x = .tup us) (hi : us[k]? = some u) (hcx : canonO x = true) : Inert P G n h ⟨some d, .extract x k, ty, pos, after, none⟩ u e :=
  ⟨rfl, fun a w st => by
    have h1 := st.rel x hcx
    rw [hx] at h1; simp only [Rel] at h1
    obtain ⟨arr, h2, h3⟩ := h1
    obtain ⟨y, h4, h5⟩ := relL_get h3 hi
    refine ⟨y, fun w' => ?_, h5⟩
    simp [execOp, Instr.extract, h2, h4]⟩
theorem TK_x {x : Operand} {us : List AVal} {u : AVal} {k : Nat} (hk : TK P G n h ops dI U E K rest (upd e d u)) (ho : ops[i]? = some ⟨some d, .extract x k, ty, pos, after, none⟩ := by rfl) (hx : ev e x = .tup us := by rfl) (hx2 : ∀ p, ev (upd e dI (U p)) x = .tup us := by intro _; rfl)
    (hi : us[k]? = some u := by rfl) (hcx : canonO x = true := by rfl) (hd : Nat.blt d n = true := by rfl) (hne : Nat.beq d dI = false := by rfl) : TK P G n h ops dI U E K (i :: rest) e :=
  ⟨_, d, u, ho, rfl, by simpa using hd, fun hh => (by subst hh; simp at hne), ⟨inert_extract hx hi hcx, fun p => inert_extract (hx2 p) hi hcx⟩, hk⟩
theorem TK_nil (hk : K e) : TK P G n h ops dI U E K [] e := hk

/-- A variable for new among the operations. -/
theorem V_looseA {id : Nat} [NoPanic Q] {l : List Oper} {o1 o2 : Oper} {el : TypeId} {zs : List Value} [ZeroT P el zs] (iI : Nat) (ord tk : List Nat) (k1 k2 : Nat) (hm : P.follows .mixedOrders = true) (hI : l[iI]? = some ⟨some dI, .alloc el, ty, pos, after, none⟩) (hd : Nat.blt dI n = true) (hB : looseB l.toArray iI dI ord tk [k1, k2] = true)
    (h1 : l[k1]? = some o1) (h2 : l[k2]? = some o2)
    (hv : VG (EV2 P G n h dI (fun b => .own dI b 0) (fun b => .box b (zs.map AVal.v))) (EX2 G n h dI (fun b => .own dI b 0) (fun b => .box b (zs.map AVal.v))) n l.toArray (TK P G n h l.toArray dI (fun b => .own dI b 0) (fun b => .box b (zs.map AVal.v)) (fun e' => ∀ b, VL P G n l.toArray [o1, o2] Q (upd e' dI (.own dI b 0)) (upd h dI (some (.box b (zs.map AVal.v))))) tk) ord ((Array.replicate l.toArray.size false).setIfInBounds iI true) (clearD l e)) :
    V P G n (.region id l.toArray true) Q e h :=
  V_loose iI ord tk [k1, k2] hm hI rfl hB (fl_alloc (by simpa using hd)) (by simp [h1, h2]) hv
/-- A literal of no element among the operations. -/
theorem V_looseL {id : Nat} [NoPanic Q] {l : List Oper} {o1 o2 o3 : Oper} {t el bytes sz : Nat} {z : Value} [SliceT P t el] [ElemT P el sz bytes z] (iI : Nat) (ord : List Nat) (k1 k2 k3 : Nat) (hm : P.follows .mixedOrders = true) (hI : l[iI]? = some ⟨some dI, .buildSlice t 0 #[], ty, pos, after, none⟩) (hd : Nat.blt dI n = true) (hB : looseB l.toArray iI dI ord [] [k1, k2, k3] = true)
    (h1 : l[k1]? = some o1) (h2 : l[k2]? = some o2) (h3 : l[k3]? = some o3)
    (hv : VG (EV2 P G n h dI (fun s => .orow dI s) (fun s => .row s el sz 0 [])) (EX2 G n h dI (fun s => .orow dI s) (fun s => .row s el sz 0 [])) n l.toArray (fun e' => ∀ s, VL P G n l.toArray [o1, o2, o3] Q (upd e' dI (.orow dI s)) (upd h dI (some (.row s el sz 0 [])))) ord ((Array.replicate l.toArray.size false).setIfInBounds iI true) (clearD l e)) :
    V P G n (.region id l.toArray true) Q e h :=
  V_loose iI ord [] [k1, k2, k3] hm hI rfl hB (fl_lit0 (by simpa using hd)) (by simp [h1, h2, h3]) hv
/-- append of a whole list. -/
theorem VL_appendL {t el bytes : Nat} {z : Value} {rest : List Oper} {s x : Operand} {i k' fr m : Nat} {s0 : Value} {cells : List AVal} {xs : List Nat} [SliceT P t el] [ElemT P el 1 bytes z] (hs : ev e s = .orow i s0) (hi : h i = some (.row s0 el 1 k' cells)) (hx : ev e x = .sl fr m (fl xs)) (hm : m = xs.length) (h0 : 0 < m)
    (hb0 : Nat.blt 0 bytes = true) (hb : (k' + m) * bytes ≤ 140737488355328) (hcs : canonO s = true) (hcx : canonO x = true) (hd : Nat.blt d n = true)
    (hk : ∀ s', VL P G n ops rest Q (upd e d (.orow d s')) (upd (upd h i none) d (some (.row s' el 1 (k' + m) (cells ++ fl xs))))) :
    VL P G n ops (⟨some d, .call { callee := .builtin .append, args := #[s, x], argTypes := #[t, t] }, ty, pos, after, none⟩ :: rest) Q e h := by
  have h1 : k' + m ≤ (k' + m) * bytes := Nat.le_mul_of_pos_right _ (by simpa using hb0)
  exact VL_append hs hi hx (by rw [fl_length, hm, Nat.mul_one]) h0 (fun v hv => by simp only [fl, List.mem_map] at hv; obtain ⟨y, _, rfl⟩ := hv; rfl) (fun v hv => flat_fl v hv) hb (by omega) hcs hcx hd hk
end
end Go.Av
