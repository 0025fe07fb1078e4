/-
A program logic over the kit's walk: abstract values, contracts, rules. No program in sight.
-/
import Derived.Laws.FloatArith
import Derived.WalkKit
import Derived.Still
/-
Floats up to the bits of a not-a-number: canonical bits, and what the model's operations give on them.
-/
namespace Go.Av

/-- The canonical not-a-number of a kind. -/
def nanOf : FloatKind → Nat
  | .f32 => 2143289344
  | .f64 => 9221120237041090561

def isNan (k : FloatKind) (b : Nat) : Bool := (k.decode b).isNaN

/-- Canonical bits: all not-a-numbers are one. -/
def cn (k : FloatKind) (b : Nat) : Nat := if isNan k b then nanOf k else b

theorem isNan_nanOf (k : FloatKind) : isNan k (nanOf k) = true := by cases k <;> decide +kernel

theorem cn_of_nan {k : FloatKind} {b : Nat} (h : isNan k b = true) : cn k b = nanOf k := by simp [cn, h]
theorem cn_of_num {k : FloatKind} {b : Nat} (h : isNan k b = false) : cn k b = b := by simp [cn, h]
theorem isNan_cn (k : FloatKind) (b : Nat) : isNan k (cn k b) = isNan k b := by
  by_cases h : isNan k b = true
  · rw [cn_of_nan h, isNan_nanOf, h]
  · simp only [Bool.not_eq_true] at h; rw [cn_of_num h]
theorem cn_cn (k : FloatKind) (b : Nat) : cn k (cn k b) = cn k b := by
  by_cases h : isNan k b = true
  · rw [cn_of_nan h, cn_of_nan (isNan_nanOf k)]
  · simp only [Bool.not_eq_true] at h; rw [cn_of_num h, cn_of_num h]

theorem decode_nan {k : FloatKind} {b : Nat} (h : isNan k b = true) : ∃ s f, k.format.read b = .nan s f := by
  have h' : (k.format.read b).isNaN = true := h
  cases hd : k.format.read b with
  | nan s f => exact ⟨s, f, rfl⟩
  | _ => simp [hd, Ieee.Datum.isNaN] at h'

theorem read_not_nan {k : FloatKind} {b : Nat} (h : isNan k b = false) : ∀ s f, k.format.read b ≠ .nan s f := by
  intro s f e
  have h' : (k.format.read b).isNaN = false := h
  simp [e, Ieee.Datum.isNaN] at h'

/-- What is read of a written number or infinity is no NaN. -/
theorem read_word (f : Ieee.Format) (neg : Bool) (rung : Nat) (h : rung ≤ f.infRung) : (f.read (f.word neg rung)).isNaN = false := by
  have hl := f.infRung_lt
  have hs : 0 < f.signWeight := by omega
  have e1 : f.word neg rung % f.signWeight = rung := by
    unfold Ieee.Format.word
    split
    · rw [Nat.add_mod_left]; exact Nat.mod_eq_of_lt (by omega)
    · exact Nat.mod_eq_of_lt (by omega)
  unfold Ieee.Format.read
  simp only [e1]
  split
  · rfl
  · split
    · rfl
    · split
      · rfl
      · omega

theorem read_word_fin (f : Ieee.Format) (neg : Bool) (rung : Nat) (h : rung < f.infRung) : (f.read (f.word neg rung)).isInfinity = false := by
  have hl := f.infRung_lt
  have e1 : f.word neg rung % f.signWeight = rung := by
    unfold Ieee.Format.word
    split
    · rw [Nat.add_mod_left]; exact Nat.mod_eq_of_lt (by omega)
    · exact Nat.mod_eq_of_lt (by omega)
  unfold Ieee.Format.read
  simp only [e1, if_pos h]
  split <;> rfl

theorem cut_zero (way : Ieee.Toward) (neg : Bool) (n : Nat) : way.cut neg n 0 = n := by
  unfold Ieee.Toward.cut
  cases way <;> simp [Nat.mod_one]

/-- The digits of a float32 number. -/
theorem decode32 {b : Nat} {sg : Bool} {m : Nat} {ex : Int} (h : FloatKind.f32.decode b = .number sg m ex) : m < 2 ^ 24 ∧ -149 ≤ ex ∧ ex ≤ 104 := by
  have hb : Ieee.single.binade = 8388608 := by decide
  have hi : Ieee.single.infRung = 2139095040 := by decide
  have hl : Ieee.single.leastPlace = -149 := by decide
  have h' : Ieee.single.read b = .number sg m ex := h
  simp only [Ieee.Format.read, hb, hi, hl] at h'
  generalize b % Ieee.single.signWeight = r at h'
  split at h'
  · injection h' with _ h2 h3; subst h2; subst h3; omega
  · split at h'
    · injection h' with _ h2 h3
      have : r % 8388608 < 8388608 := Nat.mod_lt _ (by decide)
      omega
    · split at h' <;> cases h'

theorem widen_fin {b : Nat} {sg : Bool} {m : Nat} {ex : Int} (h : FloatKind.f32.decode b = .number sg m ex) :
    (FloatKind.f64.decode (FloatKind.f64.encode (.number sg m ex))).isInfinity = false := by
  obtain ⟨h1, h2, h3⟩ := decode32 h
  have hz : 0 < Ieee.double.infRung := by decide
  simp only [FloatKind.decode, FloatKind.encode, FloatKind.format, Ieee.Format.write, Ieee.Format.nearest]
  split
  · exact read_word_fin _ _ _ hz
  · rename_i hm
    have hlog : m.log2 < 24 := (Nat.log2_lt hm).2 h1
    have hpow : m < 2 ^ (m.log2 + 1) := Nat.lt_log2_self
    refine read_word_fin _ _ _ (Nat.lt_of_le_of_lt (Nat.min_le_left _ _) ?_)
    have hfb : Ieee.double.fractionBits = 52 := rfl
    have hl : Ieee.double.leastPlace = -1074 := by decide
    have hi : Ieee.double.infRung = 2047 * Ieee.double.binade := by decide
    have hb : Ieee.double.binade = 2 ^ 52 := rfl
    rw [hi, hl, hfb]
    have e1 : max (ex + (m.log2 : Int) - (52 : Nat)) (-1074) = ex + m.log2 - 52 := by omega
    rw [e1]
    have e2 : (ex + (m.log2 : Int) - 52 - ex).toNat = 0 := by omega
    rw [e2, cut_zero]
    have e3 : (ex - (ex + (m.log2 : Int) - 52)).toNat = 52 - m.log2 := by omega
    rw [e3, Nat.shiftLeft_eq]
    have h4 : m * 2 ^ (52 - m.log2) < 2 * Ieee.double.binade := by
      calc m * 2 ^ (52 - m.log2) < 2 ^ (m.log2 + 1) * 2 ^ (52 - m.log2) := Nat.mul_lt_mul_of_pos_right hpow (Nat.two_pow_pos _)
        _ = 2 * 2 ^ 52 := by rw [← Nat.pow_add, ← Nat.pow_succ']; congr 1; omega
    have h6 : (ex + (m.log2 : Int) - 52 - -1074).toNat ≤ 1149 := by omega
    have h7 := Nat.mul_le_mul_right Ieee.double.binade h6
    have h8 : 0 < Ieee.double.binade := Nat.two_pow_pos _
    generalize (ex + (m.log2 : Int) - 52 - -1074).toNat * Ieee.double.binade = t at *
    generalize m * 2 ^ (52 - m.log2) = q at *
    generalize Ieee.double.binade = bb at *
    omega

theorem nearest_num (f : Ieee.Format) (neg : Bool) (mag : Nat) (place : Int) : (f.read (f.nearest neg mag place)).isNaN = false := by
  unfold Ieee.Format.nearest
  dsimp only
  split
  · exact read_word f neg 0 (Nat.zero_le _)
  · exact read_word f neg _ (Nat.min_le_right _ _)

theorem write_num (f : Ieee.Format) (d : Ieee.Datum) (h : d.isNaN = false) : (f.read (f.write d)).isNaN = false := by
  cases d with
  | number neg mag place => exact nearest_num f neg mag place
  | infinity neg => exact read_word f neg _ (Nat.le_refl _)
  | nan neg fr => simp [Ieee.Datum.isNaN] at h

/-- The order of two floats does not see a NaN's bits. -/
theorem order_cn (k : FloatKind) (a b : Nat) : k.format.order (cn k a) (cn k b) = k.format.order a b := by
  have nn : ∀ x y, isNan k x = true ∨ isNan k y = true → k.format.order x y = none := by
    intro x y h
    unfold Ieee.Format.order
    rcases h with h | h
    · obtain ⟨s, f, e⟩ := decode_nan h; rw [e]; rfl
    · obtain ⟨s, f, e⟩ := decode_nan h; rw [e]; cases k.format.read x <;> rfl
  by_cases ha : isNan k a = true
  · rw [nn a b (.inl ha), nn _ _ (.inl (by rw [isNan_cn, ha]))]
  · by_cases hb : isNan k b = true
    · rw [nn a b (.inr hb), nn _ _ (.inr (by rw [isNan_cn, hb]))]
    · simp only [Bool.not_eq_true] at ha hb
      rw [cn_of_num ha, cn_of_num hb]

theorem sum_nan (x y : Ieee.Datum) (h : x.isNaN = true ∨ y.isNaN = true) : x.sum y = none := by
  rcases h with h | h
  · cases x <;> simp [Ieee.Datum.isNaN] at h; rfl
  · cases y <;> simp [Ieee.Datum.isNaN] at h; cases x <;> rfl
theorem product_nan (x y : Ieee.Datum) (h : x.isNaN = true ∨ y.isNaN = true) : x.product y = none := by
  rcases h with h | h
  · cases x <;> simp [Ieee.Datum.isNaN] at h; rfl
  · cases y <;> simp [Ieee.Datum.isNaN] at h; cases x <;> rfl
theorem quotient_nan (n : Nat) (x y : Ieee.Datum) (h : x.isNaN = true ∨ y.isNaN = true) : x.quotient n y = none := by
  rcases h with h | h
  · cases x <;> simp [Ieee.Datum.isNaN] at h; rfl
  · cases y <;> simp [Ieee.Datum.isNaN] at h; cases x <;> rfl
theorem opposite_nan (x : Ieee.Datum) : x.opposite.isNaN = x.isNaN := by cases x <;> rfl

theorem sum_num {x y d : Ieee.Datum} (h : x.sum y = some d) : d.isNaN = false := by
  cases x <;> cases y <;> simp [Ieee.Datum.sum] at h <;> first | (subst h; rfl) | (obtain ⟨_, h⟩ := h; subst h; rfl) | (exact h ▸ rfl)
theorem product_num {x y d : Ieee.Datum} (h : x.product y = some d) : d.isNaN = false := by
  cases x <;> cases y <;> simp [Ieee.Datum.product] at h <;> first | (subst h; rfl) | (obtain ⟨_, h⟩ := h; subst h; rfl)
theorem quotient_num {n : Nat} {x y d : Ieee.Datum} (h : x.quotient n y = some d) : d.isNaN = false := by
  cases x <;> cases y <;> simp only [Ieee.Datum.quotient] at h <;> first | (cases h; done) | (injection h with h; subst h; rfl) | skip
  split at h
  · split at h
    · cases h
    · injection h with h; subst h; rfl
  · injection h with h; subst h; rfl

/-- An arithmetic operation on canonical bits; a NaN where it is invalid. -/
def fop (op : BinOp) (k : FloatKind) (x y : Nat) : Nat := (floatBits op k x y).getD (nanOf k)

theorem floatBits_nan (op : BinOp) (k : FloatKind) (x y : Nat) (h : isNan k x = true ∨ isNan k y = true) : floatBits op k x y = none := by
  have h' : (k.format.read x).isNaN = true ∨ (k.format.read y).isNaN = true := h
  unfold floatBits
  cases op <;> try rfl
  · simp [Ieee.Format.add, sum_nan _ _ h']
  · rw [← opposite_nan (k.format.read y)] at h'; simp [Ieee.Format.sub, sum_nan _ _ h']
  · simp [Ieee.Format.mul, product_nan _ _ h']
  · simp [Ieee.Format.div, quotient_nan _ _ _ h']

theorem floatBits_num {op : BinOp} {k : FloatKind} {x y r : Nat} (h : floatBits op k x y = some r) : isNan k r = false := by
  unfold floatBits at h
  have key : ∀ d : Option Ieee.Datum, (∀ e, d = some e → e.isNaN = false) → d.map k.format.write = some r → isNan k r = false := by
    intro d hd hm
    cases d with
    | none => cases hm
    | some e => simp at hm; subst hm; exact write_num _ _ (hd e rfl)
  cases op <;> simp only [Ieee.Format.add, Ieee.Format.sub, Ieee.Format.mul, Ieee.Format.div] at h <;> try (cases h; done)
  · exact key _ (fun e he => sum_num he) h
  · exact key _ (fun e he => sum_num he) h
  · exact key _ (fun e he => product_num he) h
  · exact key _ (fun e he => quotient_num he) h

theorem floatBits_cn (op : BinOp) (k : FloatKind) (x y : Nat) : floatBits op k (cn k x) (cn k y) = floatBits op k x y := by
  by_cases hx : isNan k x = true
  · rw [floatBits_nan op k x y (.inl hx), floatBits_nan]; left; rw [isNan_cn, hx]
  · by_cases hy : isNan k y = true
    · rw [floatBits_nan op k x y (.inr hy), floatBits_nan]; right; rw [isNan_cn, hy]
    · simp only [Bool.not_eq_true] at hx hy
      rw [cn_of_num hx, cn_of_num hy]

theorem cn_fop (op : BinOp) (k : FloatKind) (x y : Nat) : cn k (fop op k x y) = fop op k x y := by
  unfold fop
  cases h : floatBits op k x y with
  | none => exact cn_of_nan (isNan_nanOf k)
  | some r => exact cn_of_num (floatBits_num h)

theorem isNan_drawn32 (t : Nat) : isNan .f32 ((t % 2) * 2 ^ 31 + 0x7f800000 + 1 + (t / 2) % (2 ^ 23 - 1)) = true := by
  have h1 : (t / 2) % (2 ^ 23 - 1) < 2 ^ 23 - 1 := Nat.mod_lt _ (by decide)
  generalize (t / 2) % (2 ^ 23 - 1) = q at *
  have h2 : t % 2 < 2 := Nat.mod_lt _ (by decide)
  generalize t % 2 = s at *
  have e : ((s * 2 ^ 31 + 0x7f800000 + 1 + q) % 2 ^ 31) = 0x7f800000 + 1 + q := by omega
  have hw : Ieee.single.signWeight = 2 ^ 31 := by decide
  have hb : Ieee.single.binade = 2 ^ 23 := by decide
  have hi : Ieee.single.infRung = 0x7f800000 := by decide
  show (Ieee.single.read _).isNaN = true
  unfold Ieee.Format.read
  simp only [hw, hb, hi, e]
  rw [if_neg (by omega), if_neg (by omega), if_neg (by omega)]
  rfl

theorem isNan_drawn64 (t : Nat) : isNan .f64 ((t % 2) * 2 ^ 63 + 0x7ff0000000000000 + 1 + (t / 2) % (2 ^ 52 - 1)) = true := by
  have h1 : (t / 2) % (2 ^ 52 - 1) < 2 ^ 52 - 1 := Nat.mod_lt _ (by decide)
  generalize (t / 2) % (2 ^ 52 - 1) = q at *
  have h2 : t % 2 < 2 := Nat.mod_lt _ (by decide)
  generalize t % 2 = s at *
  have e : ((s * 2 ^ 63 + 0x7ff0000000000000 + 1 + q) % 2 ^ 63) = 0x7ff0000000000000 + 1 + q := by omega
  have hw : Ieee.double.signWeight = 2 ^ 63 := by decide
  have hb : Ieee.double.binade = 2 ^ 52 := by decide
  have hi : Ieee.double.infRung = 0x7ff0000000000000 := by decide
  show (Ieee.double.read _).isNaN = true
  unfold Ieee.Format.read
  simp only [hw, hb, hi, e]
  rw [if_neg (by omega), if_neg (by omega), if_neg (by omega)]
  rfl

theorem isNan_nanBits (k : FloatKind) (x y t : Nat) : isNan k ((Question.nanBits k x y).cut t) = true := by
  cases k
  · exact isNan_drawn32 t
  · exact isNan_drawn64 t
theorem isNan_nanConv (k : FloatKind) (x t : Nat) : isNan k ((Question.nanConv k x).cut t) = true := by
  cases k
  · exact isNan_drawn32 t
  · exact isNan_drawn64 t
theorem isNan_nanMinMax (k : FloatKind) (m : Bool) (x y t : Nat) : isNan k ((Question.nanMinMax k m x y).cut t) = true := by
  cases k
  · exact isNan_drawn32 t
  · exact isNan_drawn64 t

/-- Comparisons on canonical bits. -/
def fcmp (op : BinOp) (k : FloatKind) (x y : Nat) : Bool :=
  match op with
  | .eql => k.format.order x y == some .eq
  | .neq => k.format.order x y != some .eq
  | .lss => k.format.order x y == some .lt
  | .leq => k.format.order x y == some .lt || k.format.order x y == some .eq
  | .gtr => k.format.order x y == some .gt
  | .geq => k.format.order x y == some .gt || k.format.order x y == some .eq
  | _ => false
theorem fcmp_cn (op : BinOp) (k : FloatKind) (x y : Nat) : fcmp op k (cn k x) (cn k y) = fcmp op k x y := by
  unfold fcmp; rw [order_cn]

/-- float32 to float64, on canonical bits. -/
def widen (x : Nat) : Nat := if isNan .f32 x then nanOf .f64 else FloatKind.f64.encode (FloatKind.f32.decode x)
/-- float64 to float32, on canonical bits. -/
def narrow (x : Nat) : Nat := if isNan .f64 x then nanOf .f32 else FloatKind.f32.encode (FloatKind.f64.decode x)
/-- The narrowing of a number is told by the language: it is not too great. -/
def fits32 (x : Nat) : Bool :=
  match FloatKind.f64.decode x with
  | .number .. => !(FloatKind.f32.decode (narrow x)).isInfinity
  | _ => true

theorem widen_cn (x : Nat) : widen (cn .f32 x) = widen x := by
  by_cases h : isNan .f32 x = true
  · rw [cn_of_nan h]; simp [widen, h, isNan_nanOf]
  · simp only [Bool.not_eq_true] at h; rw [cn_of_num h]
theorem narrow_cn (x : Nat) : narrow (cn .f64 x) = narrow x := by
  by_cases h : isNan .f64 x = true
  · rw [cn_of_nan h]; simp [narrow, h, isNan_nanOf]
  · simp only [Bool.not_eq_true] at h; rw [cn_of_num h]
theorem fits32_cn (x : Nat) : fits32 (cn .f64 x) = fits32 x := by
  by_cases h : isNan .f64 x = true
  · obtain ⟨s, f, e⟩ := decode_nan h
    have e' : FloatKind.f64.decode x = .nan s f := e
    obtain ⟨s2, f2, e2⟩ := decode_nan (isNan_nanOf .f64)
    have e2' : FloatKind.f64.decode (nanOf .f64) = .nan s2 f2 := e2
    rw [cn_of_nan h]; simp [fits32, e', e2']
  · simp only [Bool.not_eq_true] at h; rw [cn_of_num h]
theorem encode_num (k : FloatKind) (d : Ieee.Datum) (h : d.isNaN = false) : isNan k (k.encode d) = false := write_num _ _ h
theorem cn_widen (x : Nat) : cn .f64 (widen x) = widen x := by
  unfold widen
  split
  · exact cn_of_nan (isNan_nanOf _)
  · rename_i h; exact cn_of_num (encode_num _ _ (by simpa [isNan] using h))
theorem cn_narrow (x : Nat) : cn .f32 (narrow x) = narrow x := by
  unfold narrow
  split
  · exact cn_of_nan (isNan_nanOf _)
  · rename_i h; exact cn_of_num (encode_num _ _ (by simpa [isNan] using h))
theorem cn_ofInt (k : FloatKind) (n : Int) : cn k (floatOfInt k n) = floatOfInt k n := cn_of_num (encode_num k (.number (n < 0) n.natAbs 0) rfl)

/-- The opposite, on canonical bits. -/
def fneg (k : FloatKind) (x : Nat) : Nat := if isNan k x then nanOf k else Op.negFloat k x
theorem fneg_cn (k : FloatKind) (x : Nat) : fneg k (cn k x) = fneg k x := by
  by_cases h : isNan k x = true
  · rw [cn_of_nan h]; simp [fneg, h, isNan_nanOf]
  · simp only [Bool.not_eq_true] at h; rw [cn_of_num h]

theorem read_neg (k : FloatKind) (x : Nat) : isNan k (Op.negFloat k x) = isNan k x := by
  have key : ∀ f : Ieee.Format, (f.read (x ^^^ 2 ^ (f.exponentBits + f.fractionBits))).isNaN = (f.read x).isNaN := by
    intro f
    have e : (x ^^^ 2 ^ (f.exponentBits + f.fractionBits)) % f.signWeight = x % f.signWeight := by
      unfold Ieee.Format.signWeight
      rw [Nat.xor_mod_two_pow]
      simp
    unfold Ieee.Format.read
    simp only [e]
    split
    · rfl
    · split
      · rfl
      · split <;> rfl
  exact key k.format
theorem cn_neg (k : FloatKind) (x : Nat) : cn k (Op.negFloat k x) = fneg k x := by
  unfold cn fneg
  rw [read_neg]

end Go.Av
/-
Abstract values, the relation between them and the model's values in a world, abstract states, and the judgement 'V' over a code.
-/
namespace Go.Av
open Go.RowKit

/-- A value with canonical floats. -/
def c0 : Value → Value
  | .float k b => .float k (cn k b)
  | v => v

/-- Abstract values. 'any': nothing is known. 'v u': the value, up to the bits of a NaN. 'sl fr n cells': a slice of n elements that nobody writes
('fr': 1: its block is from B on; 2: from C on). 'agg': a struct. 'tup': a call's results. 'ptr off cells': a pointer into a block that nobody writes.
'own i b off': a pointer into the own block b, which is entry i of the own heap. 'orow i s': the own row s, entry i. 'fn f caps': a function value. -/
inductive AVal where
  | any
  | v (u : Value)
  | sl (fr : Nat) (n : Nat) (cells : List AVal)
  | agg (cells : List AVal)
  | tup (xs : List AVal)
  | ptr (off : Nat) (cells : List AVal)
  | own (i b off : Nat)
  | orow (i : Nat) (s : Value)
  | fn (f : FuncId) (caps : List AVal)


mutual
/-- 'x' is what the abstract value says, in the world 'w'. 'X': blocks that are written by somebody. -/
def Rel (X : Nat → Prop) (B C : Nat) (w : World) : AVal → Value → Prop
  | .any, _ => True
  | .v u, x => c0 x = u
  | .sl fr n cs, x => ∃ a cap, x = .slice a n cap ∧ ((n = 0 ∧ cs = []) ∨
      ∃ b off, a = some ⟨b, off, none⟩ ∧ b < w.heap.size ∧ ¬ X b ∧ (fr = 1 → B ≤ b) ∧ (fr = 2 → C ≤ b) ∧ (fr ≠ 0 → ∃ cur ty, w.heap[b]? = some (.cells cur ty (0, 0))) ∧ RelF X 0 0 w cs (fun j => w.cell? ⟨b, off + j, none⟩))
  | .agg cs, x => ∃ arr : List Value, x = .agg arr.toArray ∧ RelL X B C w cs arr
  | .tup xs, x => ∃ arr : List Value, x = .tuple arr.toArray ∧ RelL X B C w xs arr
  | .ptr o cs, x => ∃ b off, x = .pointer (some ⟨b, off + o, none⟩) ∧ b < w.heap.size ∧ ¬ X b ∧ RelF X 0 0 w cs (fun j => w.cell? ⟨b, off + j, none⟩)
  | .own _ b o, x => x = .pointer (some ⟨b, o, none⟩)
  | .orow _ s, x => x = s ∧ ∃ a l c, s = .slice a l c
  | .fn f caps, x => ∃ arr : List Value, x = .func (.func f) #[] arr.toArray ∧ RelL X 0 0 w caps arr
def RelL (X : Nat → Prop) (B C : Nat) (w : World) : List AVal → List Value → Prop
  | [], xs => xs = []
  | u :: us, xs => ∃ x rest, xs = x :: rest ∧ Rel X B C w u x ∧ RelL X B C w us rest
def RelF (X : Nat → Prop) (B C : Nat) (w : World) : List AVal → (Nat → Option Value) → Prop
  | [], _ => True
  | u :: us, rd => (∃ x, rd 0 = some x ∧ Rel X B C w u x) ∧ RelF X B C w us (fun j => rd (j + 1))
end

/-- What may become of the world: the blocks below that are not excluded stay as they are, and stay not excluded. -/
def WLe (X X' : Nat → Prop) (w w' : World) : Prop :=
  w.heap.size ≤ w'.heap.size ∧ ∀ b, b < w.heap.size → ¬ X b → ¬ X' b ∧ w'.heap[b]? = w.heap[b]?

theorem WLe.refl (X : Nat → Prop) (w : World) : WLe X X w w := ⟨Nat.le_refl _, fun _ _ h => ⟨h, rfl⟩⟩
theorem WLe.shrink {X X' : Nat → Prop} (w : World) (h : ∀ b, X' b → X b) : WLe X X' w w := ⟨Nat.le_refl _, fun b _ hx => ⟨fun hb => hx (h b hb), rfl⟩⟩

theorem cell_of_block {w w' : World} {b : Nat} (h : w'.heap[b]? = w.heap[b]?) (o : Nat) : w'.cell? ⟨b, o, none⟩ = w.cell? ⟨b, o, none⟩ := by
  simp only [World.cell?, h]

mutual
theorem Rel.mono {X X' : Nat → Prop} {B C : Nat} {w w' : World} (hw : WLe X X' w w') : ∀ {u : AVal} {x : Value}, Rel X B C w u x → Rel X' B C w' u x
  | .any, _, _ => by simp [Rel]
  | .v u, x, h => by simpa [Rel] using h
  | .sl fr n cs, x, h => by
    simp only [Rel] at h ⊢
    obtain ⟨a, cap, rfl, h⟩ := h
    refine ⟨a, cap, rfl, ?_⟩
    rcases h with h | ⟨b, off, ha, hb, hx, hf1, hf2, hf3, hc⟩
    · exact .inl h
    · obtain ⟨h1, h2⟩ := hw.2 b hb hx
      refine .inr ⟨b, off, ha, Nat.lt_of_lt_of_le hb hw.1, h1, hf1, hf2, fun h0 => by rw [h2]; exact hf3 h0, RelF.mono hw (fun j => ?_) hc⟩
      exact cell_of_block h2 _
  | .agg cs, x, h => by
    simp only [Rel] at h ⊢
    obtain ⟨arr, rfl, h⟩ := h
    exact ⟨arr, rfl, RelL.mono hw h⟩
  | .tup cs, x, h => by
    simp only [Rel] at h ⊢
    obtain ⟨arr, rfl, h⟩ := h
    exact ⟨arr, rfl, RelL.mono hw h⟩
  | .ptr o cs, x, h => by
    simp only [Rel] at h ⊢
    obtain ⟨b, off, rfl, hb, hx, hc⟩ := h
    obtain ⟨h1, h2⟩ := hw.2 b hb hx
    exact ⟨b, off, rfl, Nat.lt_of_lt_of_le hb hw.1, h1, RelF.mono hw (fun j => cell_of_block h2 _) hc⟩
  | .own i b o, x, h => by simpa [Rel] using h
  | .orow i s, x, h => by simpa [Rel] using h
  | .fn f cs, x, h => by
    simp only [Rel] at h ⊢
    obtain ⟨arr, rfl, h⟩ := h
    exact ⟨arr, rfl, RelL.mono hw h⟩
theorem RelL.mono {X X' : Nat → Prop} {B C : Nat} {w w' : World} (hw : WLe X X' w w') : ∀ {us : List AVal} {xs : List Value}, RelL X B C w us xs → RelL X' B C w' us xs
  | [], _, h => by simpa [RelL] using h
  | u :: us, xs, h => by
    simp only [RelL] at h ⊢
    obtain ⟨x, rest, rfl, h1, h2⟩ := h
    exact ⟨x, rest, rfl, Rel.mono hw h1, RelL.mono hw h2⟩
theorem RelF.mono {X X' : Nat → Prop} {B C : Nat} {w w' : World} (hw : WLe X X' w w') : ∀ {us : List AVal} {rd rd' : Nat → Option Value}, (∀ j, rd' j = rd j) → RelF X B C w us rd → RelF X' B C w' us rd'
  | [], _, _, _, _ => by simp [RelF]
  | u :: us, rd, rd', e, h => by
    simp only [RelF] at h ⊢
    obtain ⟨⟨x, h0, h1⟩, h2⟩ := h
    exact ⟨⟨x, by rw [e 0]; exact h0, Rel.mono hw h1⟩, RelF.mono hw (fun j => e (j + 1)) h2⟩
end

/-- Own blocks: a box with its cells; a row (a slice value that may be grown) with its elements' cells; an array (a slice value that may be written). -/
inductive Ent where
  | box (b : Nat) (cells : List AVal)
  | row (s : Value) (ty sz n : Nat) (cells : List AVal)
  | arr (s : Value) (n : Nat) (cells : List AVal)

def Ent.blk : Ent → Option Nat
  | .box b _ => some b
  | .row s _ _ _ _ => s.ownBlock
  | .arr s n _ => if n = 0 then none else s.ownBlock

def EntOk (X : Nat → Prop) (B C : Nat) (w : World) : Ent → Prop
  | .box b cs => ∃ cur ty, w.heap[b]? = some (.cells cur ty (0, 0)) ∧ RelL X B C w cs cur.toList
  | .row s ty sz n cs => ∃ raws, w.ownsRow 0 ty sz s n raws ∧ RelL X B C w cs raws
  | .arr s n cs => ∃ a cap, s = .slice a n cap ∧ ((n = 0 ∧ cs = []) ∨ ∃ b off cur ty, n ≠ 0 ∧ a = some ⟨b, off, none⟩ ∧ w.heap[b]? = some (.cells cur ty (0, 0)) ∧ off + cs.length ≤ cur.size ∧ RelL X B C w cs ((cur.toList.drop off).take cs.length))

abbrev Env := Nat → AVal
abbrev Hp := Nat → Option Ent

def upd {α : Type} (f : Nat → α) (d : Nat) (x : α) : Nat → α := fun t => bif Nat.beq t d then x else f t

theorem upd_same {α : Type} (f : Nat → α) (d : Nat) (x : α) : upd f d x d = x := by simp [upd]
theorem upd_other {α : Type} (f : Nat → α) (d : Nat) (x : α) {t : Nat} (h : t ≠ d) : upd f d x t = f t := by
  have : Nat.beq t d = false := by
    cases hb : Nat.beq t d
    · rfl
    · exact absurd (Nat.eq_of_beq_eq_true hb) h
  simp [upd, this]

structure Glob where
  w0 : World
  Z : Nat → Prop
  ms : Nat → Prop
  B : Nat

structure Mod (ms : Nat → Prop) (w w' : World) : Prop where
  os : w'.os = w.os
  tape : w'.tape = w.tape
  output : w'.output = w.output
  size : w.heap.size ≤ w'.heap.size
  block : ∀ b, b < w.heap.size → ¬ ms b → w'.heap[b]? = w.heap[b]?

theorem Mod.refl (ms : Nat → Prop) (w : World) : Mod ms w w := ⟨rfl, rfl, rfl, Nat.le_refl _, fun _ _ _ => rfl⟩

def Xs (G : Glob) (h : Hp) (b : Nat) : Prop := G.Z b ∨ G.ms b ∨ ∃ i en, h i = some en ∧ en.blk = some b

structure St (G : Glob) (n : Nat) (e : Env) (h : Hp) (a : Act) (w : World) : Prop where
  size : a.tmps.size = n
  defers : a.defers = []
  mod : Mod G.ms G.w0 w
  env : ∀ t, Rel (Xs G h) G.B G.w0.heap.size w (e t) (a.tmps.getD t undef)
  own : ∀ i en, h i = some en → EntOk (Xs G h) G.B G.w0.heap.size w en
  old : ∀ i en b, h i = some en → en.blk = some b → ¬ G.Z b ∧ (G.ms b ∨ G.w0.heap.size ≤ b)
  apart : ∀ i j en em b, h i = some en → h j = some em → en.blk = some b → em.blk = some b → i = j
  zlt : ∀ b, G.Z b → b < G.w0.heap.size
  mlt : ∀ b, G.ms b → b < G.w0.heap.size
  ble : G.B ≤ G.w0.heap.size

abbrev Post := Exit → Env → Hp → Prop

def lift (G : Glob) (n : Nat) (Q : Post) : Exit → Act → World → Prop := fun ex a w => ∃ e h, St G n e h a w ∧ Q ex e h

/-- The judgement over a code: from every state that the abstract one tells, the code ends in one that 'Q' tells. -/
def V (P : Program) (G : Glob) (n : Nat) (c : Code) (Q : Post) (e : Env) (h : Hp) : Prop := ∀ a w, St G n e h a w → c.wp P (lift G n Q) a w
/-- The same over the operations of a region. -/
def VL (P : Program) (G : Glob) (n : Nat) (ops : Array Oper) (rest : List Oper) (Q : Post) (e : Env) (h : Hp) : Prop :=
  ∀ a w, St G n e h a w → wpList P ops (lift G n Q) rest a w

def sq (next : Env → Hp → Prop) (Q : Post) : Post := fun ex e h => match ex with
  | .normal => next e h
  | ex => Q ex e h
def blk (id : Nat) (Q : Post) : Post := fun ex e h => match ex with
  | .exit id' => if id' = id then Q .normal e h else Q (.exit id') e h
  | ex => Q ex e h

section
variable {P : Program} {G : Glob} {n : Nat} {Q : Post} {e : Env} {h : Hp}

theorem V.mono {c : Code} {Q' : Post} (hv : V P G n c Q e h) (hq : ∀ ex e h, Q ex e h → Q' ex e h) : V P G n c Q' e h := fun a w st =>
  wp_mono (hv a w st) fun ex _ _ ⟨e, h, s, q⟩ => ⟨e, h, s, hq ex e h q⟩

theorem V_seq {x y : Code} (hx : V P G n x (sq (V P G n y Q) Q) e h) : V P G n (.seq x y) Q e h := fun a w st =>
  wp_seq (wp_mono (hx a w st) fun ex a w ⟨e, h, s, q⟩ => by
    cases ex with
    | normal => exact q a w s
    | _ => exact ⟨e, h, s, q⟩)
theorem V_skip (hq : Q .normal e h) : V P G n .skip Q e h := fun _ _ st => wp_skip ⟨e, h, st, hq⟩
theorem V_label {l : Nat} (hq : Q .normal e h) : V P G n (.label l) Q e h := fun _ _ st => wp_label ⟨e, h, st, hq⟩
theorem V_ret (hq : Q .ret e h) : V P G n .ret Q e h := fun _ _ st => wp_ret ⟨e, h, st, hq⟩
theorem V_exit {id : Nat} (hq : Q (.exit id) e h) : V P G n (.exit id) Q e h := fun _ _ st => wp_exit ⟨e, h, st, hq⟩
theorem V_goto {l : Nat} (hq : Q (.goto l) e h) : V P G n (.goto l) Q e h := fun _ _ st => wp_goto ⟨e, h, st, hq⟩
theorem V_block {id : Nat} {c : Code} (hc : V P G n c (blk id Q) e h) : V P G n (.block id c) Q e h := fun a w st =>
  wp_block (wp_mono (hc a w st) fun ex a w ⟨e, h, s, q⟩ => by
    cases ex with
    | exit id' =>
      simp only [Exit.inBlock, blk] at q ⊢
      split
      · rename_i hi; rw [if_pos hi] at q; exact ⟨e, h, s, q⟩
      · rename_i hi; rw [if_neg hi] at q; exact ⟨e, h, s, q⟩
    | _ => exact ⟨e, h, s, q⟩)

theorem sq_normal {next : Env → Hp → Prop} (hq : next e h) : sq next Q .normal e h := hq
theorem sq_ret {next : Env → Hp → Prop} (hq : Q .ret e h) : sq next Q .ret e h := hq
theorem sq_exit {next : Env → Hp → Prop} {id : Nat} (hq : Q (.exit id) e h) : sq next Q (.exit id) e h := hq
theorem sq_goto {next : Env → Hp → Prop} {id : Nat} (hq : Q (.goto id) e h) : sq next Q (.goto id) e h := hq
theorem blk_normal {id : Nat} (hq : Q .normal e h) : blk id Q .normal e h := hq
theorem blk_ret {id : Nat} (hq : Q .ret e h) : blk id Q .ret e h := hq
theorem blk_goto {id l : Nat} (hq : Q (.goto l) e h) : blk id Q (.goto l) e h := hq
theorem blk_hit {id : Nat} (hq : Q .normal e h) : blk id Q (.exit id) e h := by simpa [blk] using hq
theorem blk_miss {id id' : Nat} (hne : Nat.beq id' id = false) (hq : Q (.exit id') e h) : blk id Q (.exit id') e h := by
  have : id' ≠ id := fun hh => by subst hh; simp at hne
  simpa [blk, this] using hq

theorem V_region {id : Nat} {ops : Array Oper} (hl : VL P G n ops ops.toList Q e h) : V P G n (.region id ops false) Q e h := fun a w st =>
  wp_region_list (hl a w st)
theorem V_region_lit {id : Nat} {l : List Oper} (hl : VL P G n l.toArray l Q e h) : V P G n (.region id l.toArray false) Q e h := fun a w st =>
  wp_region_lit (hl a w st)
theorem VL_nil {ops : Array Oper} (hq : Q .normal e h) : VL P G n ops [] Q e h := fun _ _ st => wpList_nil ⟨e, h, st, hq⟩
end

/-- What an operand is, abstractly. -/
def ev (e : Env) : Operand → AVal
  | .tmp t => e t
  | .const v => .v v
  | .global g => .v (.pointer (some ⟨g, 0, none⟩))
  | .func f => .fn f []

/-- Constants are canonical. -/
def canonV : Value → Bool
  | .float k b => !isNan k b
  | _ => true
def canonO : Operand → Bool
  | .const v => canonV v
  | _ => true

theorem c0_of_canon {v : Value} (h : canonV v = true) : c0 v = v := by
  cases v <;> simp_all [c0, canonV, cn]

theorem St.rel {G : Glob} {n : Nat} {e : Env} {h : Hp} {a : Act} {w : World} (st : St G n e h a w) (x : Operand) (hc : canonO x = true) :
    Rel (Xs G h) G.B G.w0.heap.size w (ev e x) (a.eval x) := by
  cases x with
  | tmp t => exact st.env t
  | const v => simp only [ev, Act.eval, Rel]; exact c0_of_canon hc
  | global g => simp [ev, Act.eval, Rel, c0]
  | func f => simp [ev, Act.eval, Rel, RelL]

/-- A world with the same memory and streams: only the count of draws may have moved. -/
structure Same (w w' : World) : Prop where
  heap : w'.heap = w.heap
  os : w'.os = w.os
  tape : w'.tape = w.tape
  output : w'.output = w.output

theorem Same.refl (w : World) : Same w w := ⟨rfl, rfl, rfl, rfl⟩
theorem Same.drew (w : World) : Same w w.drew := ⟨rfl, rfl, rfl, rfl⟩

theorem Same.wle {w w' : World} (X : Nat → Prop) (s : Same w w') : WLe X X w w' := ⟨by rw [s.heap]; exact Nat.le_refl _, fun b _ hx => ⟨hx, by rw [s.heap]⟩⟩

theorem EntOk.mono {X X' : Nat → Prop} {B C : Nat} {w w' : World} (hw : WLe X X' w w') {en : Ent} (hb : ∀ b, en.blk = some b → w'.heap[b]? = w.heap[b]?) (h : EntOk X B C w en) : EntOk X' B C w' en := by
  cases en with
  | box b cs =>
    obtain ⟨cur, ty, h1, h2⟩ := h
    exact ⟨cur, ty, by rw [hb b rfl]; exact h1, RelL.mono hw h2⟩
  | row s ty sz n cs =>
    obtain ⟨raws, h1, h2⟩ := h
    refine ⟨raws, ⟨h1.1, ?_⟩, RelL.mono hw h2⟩
    rcases h1.2 with h3 | ⟨g, cap, cur, hv, h4, h5, rest⟩
    · exact .inl h3
    · exact .inr ⟨g, cap, cur, hv, h4, by rw [hb g (by rw [hv]; rfl)]; exact h5, rest⟩
  | arr s n cs =>
    obtain ⟨a, cap, h1, h2⟩ := h
    refine ⟨a, cap, h1, ?_⟩
    rcases h2 with h2 | ⟨b, off, cur, ty, h3, h4, h5, h6, h7⟩
    · exact .inl h2
    · refine .inr ⟨b, off, cur, ty, h3, h4, ?_, h6, RelL.mono hw h7⟩
      rw [hb b (by subst h1; subst h4; simp [Ent.blk, Value.ownBlock, h3])]
      exact h5

/-- A state over a world that has gone on, the frame being the same. -/
theorem St.same {G : Glob} {n : Nat} {e : Env} {h : Hp} {a : Act} {w w' : World} (st : St G n e h a w) (s : Same w w') : St G n e h a w' where
  size := st.size
  defers := st.defers
  mod := ⟨s.os.trans st.mod.os, s.tape.trans st.mod.tape, s.output.trans st.mod.output, by rw [s.heap]; exact st.mod.size, fun b hb hm => by rw [s.heap]; exact st.mod.block b hb hm⟩
  env := fun t => Rel.mono (s.wle _) (st.env t)
  own := fun i en hi => EntOk.mono (s.wle _) (fun b _ => by rw [s.heap]) (st.own i en hi)
  old := st.old
  apart := st.apart
  zlt := st.zlt
  mlt := st.mlt
  ble := st.ble

theorem getD_set (t : Array Value) (d : Nat) (x : Value) (hd : d < t.size) (j : Nat) : (t.setIfInBounds d x).getD j undef = if j = d then x else t.getD j undef := by
  simp only [Array.getD_eq_getD_getElem?, Array.getElem?_setIfInBounds]
  by_cases hj : d = j
  · subst hj; simp [hd]
  · simp [hj, Ne.symm hj]

theorem St.put {G : Glob} {n : Nat} {e : Env} {h : Hp} {a : Act} {w : World} (st : St G n e h a w) (d : Nat) (hd : d < n) (u : AVal) (x : Value)
    (hx : Rel (Xs G h) G.B G.w0.heap.size w u x) : St G n (upd e d u) h (a.put (some d) x) w where
  size := by simp [Act.put, st.size]
  defers := st.defers
  mod := st.mod
  env := fun t => by
    simp only [Act.put]
    rw [getD_set _ _ _ (by rw [st.size]; exact hd)]
    by_cases ht : t = d
    · subst ht; rw [upd_same, if_pos rfl]; exact hx
    · rw [upd_other _ _ _ ht, if_neg ht]; exact st.env t
  own := st.own
  old := st.old
  apart := st.apart
  zlt := st.zlt
  mlt := st.mlt
  ble := st.ble

/-- What an operation yields that turns no memory. -/
def EvalOp (P : Program) (G : Glob) (n : Nat) (e : Env) (h : Hp) (op : Op) (ty : TypeId) (u : AVal) : Prop :=
  ∀ a w, St G n e h a w → ∀ dst pos after guard, ∃ x w', (execOp a.eval ⟨dst, op, ty, pos, after, guard⟩).run P w = .ok (.value x) w' ∧ Same w w' ∧ Rel (Xs G h) G.B G.w0.heap.size w' u x

section
variable {P : Program} {G : Glob} {n : Nat} {Q : Post} {e : Env} {h : Hp} {ops : Array Oper} {rest : List Oper}

/-- A step of the walk: an operation without a guard that turns no memory. -/
theorem VL_step {d : Nat} {op : Op} {ty : TypeId} {pos : String} {after : Array Edge} {u : AVal} (he : EvalOp P G n e h op ty u) (hd : Nat.blt d n = true)
    (hk : VL P G n ops rest Q (upd e d u) h) : VL P G n ops (⟨some d, op, ty, pos, after, none⟩ :: rest) Q e h := fun a w st => by
  refine wpList_plain rfl fun K hK => ?_
  obtain ⟨x, w', hr, hs, hx⟩ := he a w st (some d) pos after none
  unfold Oper.wp
  rw [hr]
  exact hK _ _ (hk _ _ ((st.same hs).put d (by simpa using hd) u x hx))

/-- A guarded operation whose guard says yes. -/
theorem VL_yes {d g j : Nat} {want : Bool} {op : Op} {ty : TypeId} {pos : String} {after : Array Edge}
    (hj : (ops[g]?).bind (·.dst) = some j) (hv : e j = .v (.bool want))
    (hk : VL P G n ops (⟨some d, op, ty, pos, after, none⟩ :: rest) Q e h) : VL P G n ops (⟨some d, op, ty, pos, after, some (g, want)⟩ :: rest) Q e h := fun a w st => by
  have hb : a.tmps.getD j undef = .bool want := by
    have := st.env j
    rw [hv] at this
    simp only [Rel] at this
    generalize a.tmps.getD j undef = x at this
    cases x <;> simp [c0] at this
    subst this; rfl
  have hw : Region.wanted ⟨some d, op, ty, pos, after, some (g, want)⟩ (yielded ops a.tmps) = true := by
    simp only [Region.wanted, yielded, hj]
    rw [Array.getD_eq_getD_getElem?] at hb
    cases ht : a.tmps[j]? with
    | none => rw [ht] at hb; simp [undef] at hb
    | some y => rw [ht] at hb; simp at hb; subst hb; simp [ht]
  have := hk a w st
  unfold wpList at this ⊢
  rw [if_pos hw]
  rw [if_pos (by simp [Region.wanted])] at this
  exact this

theorem VL_no {d g j : Nat} {want t : Bool} {op : Op} {ty : TypeId} {pos : String} {after : Array Edge}
    (hj : (ops[g]?).bind (·.dst) = some j) (hv : e j = .v (.bool t)) (ht : (t == want) = false) (hd : Nat.blt d n = true)
    (hk : VL P G n ops rest Q (upd e d (.v undef)) h) : VL P G n ops (⟨some d, op, ty, pos, after, some (g, want)⟩ :: rest) Q e h := fun a w st => by
  have hb : a.tmps.getD j undef = .bool t := by
    have := st.env j
    rw [hv] at this
    simp only [Rel] at this
    generalize a.tmps.getD j undef = x at this
    cases x <;> simp [c0] at this
    subst this; rfl
  have hw : Region.wanted ⟨some d, op, ty, pos, after, some (g, want)⟩ (yielded ops a.tmps) = false := by
    simp only [Region.wanted, yielded, hj]
    rw [Array.getD_eq_getD_getElem?] at hb
    cases htt : a.tmps[j]? with
    | none => rw [htt] at hb; simp [undef] at hb
    | some y => rw [htt] at hb; simp at hb; subst hb; simp [htt]; simpa using ht
  unfold wpList
  rw [if_neg (by rw [hw]; simp)]
  exact hk _ _ (st.put d (by simpa using hd) _ _ (by simp [Rel, c0, undef]))

/-- The guard's own slot holds nothing: the operation is passed over. -/
theorem VL_undef {d g j : Nat} {want : Bool} {op : Op} {ty : TypeId} {pos : String} {after : Array Edge}
    (hj : (ops[g]?).bind (·.dst) = some j) (hv : e j = .v undef) (hd : Nat.blt d n = true)
    (hk : VL P G n ops rest Q (upd e d (.v undef)) h) : VL P G n ops (⟨some d, op, ty, pos, after, some (g, want)⟩ :: rest) Q e h := fun a w st => by
  have hb : ∀ b, a.tmps.getD j undef ≠ .bool b := by
    intro b hb
    have := st.env j
    rw [hv, hb] at this
    simp [Rel, c0, undef] at this
  have hw : Region.wanted ⟨some d, op, ty, pos, after, some (g, want)⟩ (yielded ops a.tmps) = false := by
    simp only [Region.wanted, yielded, hj]
    cases htt : a.tmps[j]? with
    | none => simp [htt]
    | some y =>
      cases y <;> simp [htt]
      rename_i b
      exact absurd (by rw [Array.getD_eq_getD_getElem?, htt]; rfl) (hb b)
  unfold wpList
  rw [if_neg (by rw [hw]; simp)]
  exact hk _ _ (st.put d (by simpa using hd) _ _ (by simp [Rel, c0, undef]))
end

section
variable {P : Program} {G : Glob} {n : Nat} {Q : Post} {e : Env} {h : Hp} {ops : Array Oper} {rest : List Oper}
theorem upd_self {α : Type} {f : Nat → α} {d : Nat} {x : α} (hx : f d = x) : upd f d x = f := by
  funext t
  by_cases ht : t = d
  · subst ht; rw [upd_same, hx]
  · rw [upd_other _ _ _ ht]
/-- A guard that is not decided: both ways. -/
theorem VL_split {o : Oper} {g j : Nat} {want t : Bool} (hg : o.guard = some (g, want)) (hj : (ops[g]?).bind (·.dst) = some j) (hv : e j = .v (.bool t))
    (h1 : t = true → VL P G n ops (o :: rest) Q (upd e j (.v (.bool true))) h) (h0 : t = false → VL P G n ops (o :: rest) Q (upd e j (.v (.bool false))) h) : VL P G n ops (o :: rest) Q e h := by
  have _ := hg
  have _ := hj
  cases t
  · have := h0 rfl; rwa [upd_self hv] at this
  · have := h1 rfl; rwa [upd_self hv] at this
/-- A guard that is known. -/
theorem VL_known {o : Oper} {g j : Nat} {want t b : Bool} (hg : o.guard = some (g, want)) (hj : (ops[g]?).bind (·.dst) = some j) (hv : e j = .v (.bool t)) (ht : t = b)
    (h1 : VL P G n ops (o :: rest) Q (upd e j (.v (.bool b))) h) : VL P G n ops (o :: rest) Q e h := by
  have _ := hg
  have _ := hj
  subst ht
  rwa [upd_self hv] at h1
end

theorem V_cond {P : Program} {G : Glob} {n : Nat} {Q : Post} {e : Env} {h : Hp} {c : Operand} {x y : Code} {t : Bool} (hc : ev e c = .v (.bool t)) (hcc : canonO c = true)
    (ht : t = true → V P G n x Q e h) (hf : t = false → V P G n y Q e h) : V P G n (.cond c x y) Q e h := fun a w st => by
  have hb : a.eval c = .bool t := by
    have := st.rel c hcc
    rw [hc] at this
    simp only [Rel] at this
    generalize a.eval c = z at this
    cases z <;> simp [c0] at this
    subst this; rfl
  exact wp_cond_split hb (fun h1 => ht h1 a w st) (fun h1 => hf h1 a w st)
theorem V_cond_true {P : Program} {G : Glob} {n : Nat} {Q : Post} {e : Env} {h : Hp} {c : Operand} {x y : Code} (hc : ev e c = .v (.bool true)) (hcc : canonO c = true)
    (ht : V P G n x Q e h) : V P G n (.cond c x y) Q e h := V_cond hc hcc (fun _ => ht) (fun hh => by cases hh)
theorem V_cond_false {P : Program} {G : Glob} {n : Nat} {Q : Post} {e : Env} {h : Hp} {c : Operand} {x y : Code} (hc : ev e c = .v (.bool false)) (hcc : canonO c = true)
    (hf : V P G n y Q e h) : V P G n (.cond c x y) Q e h := V_cond hc hcc (fun hh => by cases hh) (fun _ => hf)

end Go.Av
/-
What the operations yield, abstractly: the ones that turn no memory.
-/
namespace Go.Av
open Go.RowKit

/-! ### Facts on a program's tables, found by instances -/

def chkUnder (P : Program) (t : TypeId) (p : TypeDesc → Bool) : Bool := match P.underlying t with | some d => p d | none => false
def chkInfo (P : Program) (t : TypeId) (p : TypeInfo → Bool) : Bool := match P.info? t with | some d => p d | none => false

class SliceT (P : Program) (t : TypeId) (el : outParam TypeId) : Prop where
  ok : P.underlying t = some (.slice el)
class IntT (P : Program) (t : TypeId) (k : outParam IntKind) : Prop where
  ok : P.underlying t = some (.int k)
class FloatT (P : Program) (t : TypeId) (k : outParam FloatKind) : Prop where
  ok : P.underlying t = some (.float k)
class BoolT (P : Program) (t : TypeId) : Prop where
  ok : P.underlying t = some .bool
class StrT (P : Program) (t : TypeId) : Prop where
  ok : P.underlying t = some .string
/-- A type of one cell, that is no struct and no array. -/
class OneT (P : Program) (t : TypeId) : Prop where
  ok : chkUnder P t (fun | .struct _ | .array _ _ => false | _ => true) = true
/-- A struct (or an array) of so many cells. -/
class AggT (P : Program) (t : TypeId) (sz : outParam Nat) : Prop where
  ok : chkUnder P t (fun | .struct _ | .array _ _ => true | _ => false) = true
  sz : chkInfo P t (fun i => i.size == sz) = true
class SizeT (P : Program) (t : TypeId) (sz : outParam Nat) : Prop where
  ok : chkInfo P t (fun i => i.size == sz) = true
def chkField (P : Program) (s : TypeId) (k off : Nat) : Bool :=
  chkUnder P s fun | .struct fs => (match fs[k]? with | some f => f.offset == off && chkInfo P f.type (fun i => i.size != 0) | none => false) | _ => false
class FieldT (P : Program) (s : TypeId) (k : Nat) (off : outParam Nat) : Prop where
  ok : chkField P s k off = true
def chkCall (P : Program) (f : FuncId) : Bool := match P.funcs[f]? with
  | some fn => fn.body.isSome && !(fn.name == "runtime.NumGoroutine")
  | none => false
class CallT (P : Program) (f : FuncId) : Prop where
  ok : chkCall P f = true

section
variable {P : Program}
theorem AggT.size {t sz : Nat} [h : AggT P t sz] : ∃ i, P.info? t = some i ∧ i.size = sz := by
  have := h.sz; unfold chkInfo at this
  cases hi : P.info? t with
  | none => simp [hi] at this
  | some i => simp [hi] at this; exact ⟨i, rfl, this⟩
theorem SizeT.size {t sz : Nat} [h : SizeT P t sz] : ∃ i, P.info? t = some i ∧ i.size = sz := by
  have := h.ok; unfold chkInfo at this
  cases hi : P.info? t with
  | none => simp [hi] at this
  | some i => simp [hi] at this; exact ⟨i, rfl, this⟩
theorem run_isAgg_one {t : Nat} [h : OneT P t] (w : World) : (isAgg t).run P w = .ok false w := by
  have := h.ok; unfold chkUnder at this
  cases hd : P.underlying t with
  | none => simp [hd] at this
  | some d => cases d <;> simp [hd] at this <;> simp [isAgg, underlying, hd]
theorem run_isAgg_agg {t sz : Nat} [h : AggT P t sz] (w : World) : (isAgg t).run P w = .ok true w := by
  have := h.ok; unfold chkUnder at this
  cases hd : P.underlying t with
  | none => simp [hd] at this
  | some d => cases d <;> simp [hd] at this <;> simp [isAgg, underlying, hd]
end

/-! ### From the relation to the value -/

theorem c0_int {x : Value} {k : IntKind} {n : Int} (h : c0 x = .int k n) : x = .int k n := by cases x <;> simp_all [c0]
theorem c0_bool {x : Value} {b : Bool} (h : c0 x = .bool b) : x = .bool b := by cases x <;> simp_all [c0]
theorem c0_string {x : Value} {b : ByteArray} (h : c0 x = .string b) : x = .string b := by cases x <;> simp_all [c0]
theorem c0_float {x : Value} {k : FloatKind} {c : Nat} (h : c0 x = .float k c) : ∃ b, x = .float k b ∧ cn k b = c := by
  cases x <;> simp [c0] at h
  obtain ⟨rfl, h⟩ := h
  exact ⟨_, rfl, h⟩
theorem c0_other {x u : Value} (h : c0 x = u) (hu : ∀ k b, u ≠ .float k b) : x = u := by
  cases x <;> first | (exact h) | (exact absurd h.symm (hu _ _))

section
variable {P : Program} {G : Glob} {n : Nat} {e : Env} {h : Hp} {ty : TypeId}

theorem op_move {x : Operand} (hc : canonO x = true) : EvalOp P G n e h (.move x) ty (ev e x) := fun a w st _ _ _ _ =>
  ⟨a.eval x, w, by simp [execOp], Same.refl w, st.rel x hc⟩
theorem op_assign {x : Operand} (hc : canonO x = true) : EvalOp P G n e h (.assign x) ty (ev e x) := fun a w st _ _ _ _ =>
  ⟨a.eval x, w, by simp [execOp], Same.refl w, st.rel x hc⟩

theorem op_pick_true {c x y : Operand} (hb : ev e c = .v (.bool true)) (hc : canonO c = true) (hx : canonO x = true) : EvalOp P G n e h (.pick c x y) ty (ev e x) := fun a w st _ _ _ _ => by
  have h1 := st.rel c hc
  rw [hb] at h1; simp only [Rel] at h1
  refine ⟨a.eval x, w, ?_, Same.refl w, st.rel x hx⟩
  simp [execOp, c0_bool h1, asBool]
theorem op_pick_false {c x y : Operand} (hb : ev e c = .v (.bool false)) (hc : canonO c = true) (hy : canonO y = true) : EvalOp P G n e h (.pick c x y) ty (ev e y) := fun a w st _ _ _ _ => by
  have h1 := st.rel c hc
  rw [hb] at h1; simp only [Rel] at h1
  refine ⟨a.eval y, w, ?_, Same.refl w, st.rel y hy⟩
  simp [execOp, c0_bool h1, asBool]
theorem op_pick {c x y : Operand} {t p q : Bool} (hb : ev e c = .v (.bool t)) (hp : ev e x = .v (.bool p)) (hq : ev e y = .v (.bool q)) (hc : canonO c = true) (hx : canonO x = true) (hy : canonO y = true) :
    EvalOp P G n e h (.pick c x y) ty (.v (.bool (bif t then p else q))) := fun a w st _ _ _ _ => by
  have h1 := st.rel c hc
  have h2 := st.rel x hx
  have h3 := st.rel y hy
  rw [hb] at h1; rw [hp] at h2; rw [hq] at h3; simp only [Rel] at h1 h2 h3
  refine ⟨.bool (bif t then p else q), w, ?_, Same.refl w, by simp [Rel, c0]⟩
  simp only [execOp, c0_bool h1, c0_bool h2, c0_bool h3, asBool]
  cases t <;> simp

/-- An operation whose run is known on the values. -/
theorem EvalOp.bin {op : BinOp} {xt yt : TypeId} {x y : Operand} {u v : Value} {r : AVal} (hx : ev e x = .v u) (hy : ev e y = .v v) (hcx : canonO x = true) (hcy : canonO y = true)
    (hr : ∀ X B C w a b, c0 a = u → c0 b = v → eqGuard op xt x y a b = pure () ∧ ∃ z w', (binOp op xt a b).run P w = .ok z w' ∧ Same w w' ∧ Rel X B C w' r z) : EvalOp P G n e h (.binOp op xt x y yt) ty r := fun a w st _ _ _ _ => by
  have h1 := st.rel x hcx
  have h2 := st.rel y hcy
  rw [hx] at h1; rw [hy] at h2; simp only [Rel] at h1 h2
  obtain ⟨hg, z, w', hz, hs, hrel⟩ := hr (Xs G h) G.B G.w0.heap.size w _ _ h1 h2
  refine ⟨z, w', ?_, hs, hrel⟩
  simp [execOp, hg, hz]

/-- Integers. -/
theorem op_int {op : BinOp} {xt yt : TypeId} {x y : Operand} {k : IntKind} {p q : Int} {r : Value} (hx : ev e x = .v (.int k p)) (hy : ev e y = .v (.int k q)) (hcx : canonO x = true) (hcy : canonO y = true)
    (hr : ∀ w, (binOp op xt (.int k p) (.int k q)).run P w = .ok r w) (hc : c0 r = r) : EvalOp P G n e h (.binOp op xt x y yt) ty (.v r) :=
  EvalOp.bin hx hy hcx hcy fun _ _ _ w a b ha hb => by
    rw [c0_int ha, c0_int hb]
    exact ⟨eqGuard_at_int .., r, w, hr w, Same.refl w, by simp [Rel, hc]⟩

theorem op_add {xt yt : TypeId} {x y : Operand} {k : IntKind} {p q : Int} (hx : ev e x = .v (.int k p)) (hy : ev e y = .v (.int k q)) (hcx : canonO x = true) (hcy : canonO y = true) :
    EvalOp P G n e h (.binOp .add xt x y yt) ty (.v (.int k (k.wrap (p + q)))) := op_int hx hy hcx hcy (fun w => by simp [binOp, Op.intArith]) rfl
theorem op_sub {xt yt : TypeId} {x y : Operand} {k : IntKind} {p q : Int} (hx : ev e x = .v (.int k p)) (hy : ev e y = .v (.int k q)) (hcx : canonO x = true) (hcy : canonO y = true) :
    EvalOp P G n e h (.binOp .sub xt x y yt) ty (.v (.int k (k.wrap (p - q)))) := op_int hx hy hcx hcy (fun w => by simp [binOp, Op.intArith]) rfl
theorem op_mul {xt yt : TypeId} {x y : Operand} {k : IntKind} {p q : Int} (hx : ev e x = .v (.int k p)) (hy : ev e y = .v (.int k q)) (hcx : canonO x = true) (hcy : canonO y = true) :
    EvalOp P G n e h (.binOp .mul xt x y yt) ty (.v (.int k (k.wrap (p * q)))) := op_int hx hy hcx hcy (fun w => by simp [binOp, Op.intArith]) rfl

/-- int and int64, within their range. -/
theorem wrap_in {p : Int} (h1 : -9223372036854775808 ≤ p) (h2 : p ≤ 9223372036854775807) : IntKind.i64.wrap p = p := IntWalk.i64_in p ⟨h1, h2⟩
theorem op_addi {xt yt : TypeId} {x y : Operand} {p q : Int} (hx : ev e x = .v (.int .i64 p)) (hy : ev e y = .v (.int .i64 q)) (hcx : canonO x = true) (hcy : canonO y = true)
    (h1 : -9223372036854775808 ≤ p + q ∧ p + q ≤ 9223372036854775807) : EvalOp P G n e h (.binOp .add xt x y yt) ty (.v (.int .i64 (p + q))) := by
  have := op_add (P := P) (G := G) (n := n) (h := h) (ty := ty) (xt := xt) (yt := yt) hx hy hcx hcy
  rwa [wrap_in h1.1 h1.2] at this
theorem op_subi {xt yt : TypeId} {x y : Operand} {p q : Int} (hx : ev e x = .v (.int .i64 p)) (hy : ev e y = .v (.int .i64 q)) (hcx : canonO x = true) (hcy : canonO y = true)
    (h1 : -9223372036854775808 ≤ p - q ∧ p - q ≤ 9223372036854775807) : EvalOp P G n e h (.binOp .sub xt x y yt) ty (.v (.int .i64 (p - q))) := by
  have := op_sub (P := P) (G := G) (n := n) (h := h) (ty := ty) (xt := xt) (yt := yt) hx hy hcx hcy
  rwa [wrap_in h1.1 h1.2] at this
theorem op_muli {xt yt : TypeId} {x y : Operand} {p q : Int} (hx : ev e x = .v (.int .i64 p)) (hy : ev e y = .v (.int .i64 q)) (hcx : canonO x = true) (hcy : canonO y = true)
    (h1 : -9223372036854775808 ≤ p * q ∧ p * q ≤ 9223372036854775807) : EvalOp P G n e h (.binOp .mul xt x y yt) ty (.v (.int .i64 (p * q))) := by
  have := op_mul (P := P) (G := G) (n := n) (h := h) (ty := ty) (xt := xt) (yt := yt) hx hy hcx hcy
  rwa [wrap_in h1.1 h1.2] at this
theorem op_quoi {xt yt : TypeId} {x y : Operand} {p q : Int} (hx : ev e x = .v (.int .i64 p)) (hy : ev e y = .v (.int .i64 q)) (hcx : canonO x = true) (hcy : canonO y = true)
    (h0 : 0 ≤ p ∧ 0 < q ∧ p ≤ 9223372036854775807) : EvalOp P G n e h (.binOp .quo xt x y yt) ty (.v (.int .i64 (p / q))) :=
  op_int hx hy hcx hcy (fun w => by
    have hq : q ≠ 0 := by omega
    have e1 : p.tdiv q = p / q := Int.tdiv_eq_ediv_of_nonneg h0.1
    have l1 : 0 ≤ p / q := Int.ediv_nonneg h0.1 (by omega)
    have l2 : p / q ≤ p := Int.ediv_le_self _ h0.1
    simp only [binOp_quo, Op.intDiv, if_neg hq, e1]
    rw [wrap_in (by omega) (by omega)]; rfl) rfl
theorem op_remi {xt yt : TypeId} {x y : Operand} {p q : Int} (hx : ev e x = .v (.int .i64 p)) (hy : ev e y = .v (.int .i64 q)) (hcx : canonO x = true) (hcy : canonO y = true)
    (h0 : 0 ≤ p ∧ 0 < q) : EvalOp P G n e h (.binOp .rem xt x y yt) ty (.v (.int .i64 (p % q))) :=
  op_int hx hy hcx hcy (fun w => by
    have hq : q ≠ 0 := by omega
    have e1 : p.tmod q = p % q := Int.tmod_eq_emod_of_nonneg h0.1
    simp only [binOp_rem, Op.intDiv, if_neg hq, e1]; rfl) rfl

theorem op_lss {xt yt : TypeId} {x y : Operand} {k : IntKind} {p q : Int} (hx : ev e x = .v (.int k p)) (hy : ev e y = .v (.int k q)) (hcx : canonO x = true) (hcy : canonO y = true) :
    EvalOp P G n e h (.binOp .lss xt x y yt) ty (.v (.bool (decide (p < q)))) := op_int hx hy hcx hcy (fun w => by simp [binOp_lss]) rfl
theorem op_leq {xt yt : TypeId} {x y : Operand} {k : IntKind} {p q : Int} (hx : ev e x = .v (.int k p)) (hy : ev e y = .v (.int k q)) (hcx : canonO x = true) (hcy : canonO y = true) :
    EvalOp P G n e h (.binOp .leq xt x y yt) ty (.v (.bool (decide (p ≤ q)))) := op_int hx hy hcx hcy (fun w => by simp [binOp_leq]) rfl
theorem op_gtr {xt yt : TypeId} {x y : Operand} {k : IntKind} {p q : Int} (hx : ev e x = .v (.int k p)) (hy : ev e y = .v (.int k q)) (hcx : canonO x = true) (hcy : canonO y = true) :
    EvalOp P G n e h (.binOp .gtr xt x y yt) ty (.v (.bool (decide (q < p)))) := op_int hx hy hcx hcy (fun w => by simp [binOp_gtr]) rfl
theorem op_geq {xt yt : TypeId} {x y : Operand} {k : IntKind} {p q : Int} (hx : ev e x = .v (.int k p)) (hy : ev e y = .v (.int k q)) (hcx : canonO x = true) (hcy : canonO y = true) :
    EvalOp P G n e h (.binOp .geq xt x y yt) ty (.v (.bool (decide (q ≤ p)))) := op_int hx hy hcx hcy (fun w => by simp [binOp_geq]) rfl
theorem op_eql {xt yt : TypeId} {x y : Operand} {k : IntKind} {p q : Int} (hx : ev e x = .v (.int k p)) (hy : ev e y = .v (.int k q)) (hcx : canonO x = true) (hcy : canonO y = true) :
    EvalOp P G n e h (.binOp .eql xt x y yt) ty (.v (.bool (decide (p = q)))) := op_int hx hy hcx hcy (fun w => by
      have : (p == q) = decide (p = q) := by by_cases hpq : p = q <;> simp [hpq]
      simp [binOp_eql, this]) rfl
theorem op_neq {xt yt : TypeId} {x y : Operand} {k : IntKind} {p q : Int} (hx : ev e x = .v (.int k p)) (hy : ev e y = .v (.int k q)) (hcx : canonO x = true) (hcy : canonO y = true) :
    EvalOp P G n e h (.binOp .neq xt x y yt) ty (.v (.bool (decide (p ≠ q)))) := op_int hx hy hcx hcy (fun w => by
      have : (p != q) = decide (p ≠ q) := by by_cases hpq : p = q <;> simp [hpq]
      simp [binOp_neq, this]) rfl

/-- A comparison that is decided. -/
theorem EvalOp.decided {op : Op} {p : Prop} [Decidable p] (ho : EvalOp P G n e h op ty (.v (.bool (decide p)))) {b : Bool} (hb : decide p = b) : EvalOp P G n e h op ty (.v (.bool b)) := hb ▸ ho

/-- Booleans. -/
theorem run_equalIn_bool {t : TypeId} [ht : BoolT P t] (d : Nat) (a b : Bool) (w : World) : (Op.equalIn (d + 1) t (.bool a) (.bool b)).run P w = .ok (a == b) w := by
  simp [Op.equalIn, run_underlying ht.ok]
theorem run_eql_bool {t : TypeId} [BoolT P t] (a b : Bool) (w : World) : (binOp .eql t (.bool a) (.bool b)).run P w = .ok (.bool (a == b)) w := by
  have e : binOp .eql t (.bool a) (.bool b) = (do pure (.bool (← Op.equalIn (9999 + 1) t (.bool a) (.bool b)))) := rfl
  rw [e]; simp only [Sem.run_bind, run_equalIn_bool, Result.andThen_ok, Sem.run_pure]
theorem run_neq_bool {t : TypeId} [BoolT P t] (a b : Bool) (w : World) : (binOp .neq t (.bool a) (.bool b)).run P w = .ok (.bool (a != b)) w := by
  have e : binOp .neq t (.bool a) (.bool b) = (do pure (.bool (!(← Op.equalIn (9999 + 1) t (.bool a) (.bool b))))) := rfl
  rw [e]; simp only [Sem.run_bind, run_equalIn_bool, Result.andThen_ok, Sem.run_pure, bne]
theorem op_beql {xt yt : TypeId} {x y : Operand} {p q : Bool} [BoolT P xt] (hx : ev e x = .v (.bool p)) (hy : ev e y = .v (.bool q)) (hcx : canonO x = true) (hcy : canonO y = true) :
    EvalOp P G n e h (.binOp .eql xt x y yt) ty (.v (.bool (p == q))) :=
  EvalOp.bin hx hy hcx hcy fun _ _ _ w a b ha hb => by
    rw [c0_bool ha, c0_bool hb]
    exact ⟨eqGuard_at_bool .., .bool (p == q), w, run_eql_bool .., Same.refl w, by simp [Rel, c0]⟩
theorem op_bneq {xt yt : TypeId} {x y : Operand} {p q : Bool} [BoolT P xt] (hx : ev e x = .v (.bool p)) (hy : ev e y = .v (.bool q)) (hcx : canonO x = true) (hcy : canonO y = true) :
    EvalOp P G n e h (.binOp .neq xt x y yt) ty (.v (.bool (p != q))) :=
  EvalOp.bin hx hy hcx hcy fun _ _ _ w a b ha hb => by
    rw [c0_bool ha, c0_bool hb]
    exact ⟨eqGuard_at_bool .., .bool (p != q), w, run_neq_bool .., Same.refl w, by simp [Rel, c0]⟩

/-- Floats. -/
theorem run_arith_any (op : BinOp) (t : TypeId) (k : FloatKind) (a b : Nat) (ho : op = .add ∨ op = .sub ∨ op = .mul ∨ op = .quo) (w : World) :
    ∃ r w', (binOp op t (.float k a) (.float k b)).run P w = .ok (.float k r) w' ∧ Same w w' ∧ cn k r = fop op k (cn k a) (cn k b) := by
  cases hf : floatBits op k a b with
  | some r =>
    refine ⟨r, w, run_float_arith w op t k a b r hf, Same.refl w, ?_⟩
    unfold fop
    rw [floatBits_cn, hf, cn_of_num (floatBits_num hf)]; rfl
  | none =>
    refine ⟨(Question.nanBits k a b).cut (w.tape w.drawn (.nanBits k a b)), w.drew, ?_, Same.drew w, ?_⟩
    · unfold floatBits at hf
      rcases ho with rfl | rfl | rfl | rfl <;> simp only at hf <;> simp [binOp, Op.floatArith, hf, Question.forced]
    · unfold fop
      rw [floatBits_cn, hf, cn_of_nan (isNan_nanBits k a b _)]; rfl

theorem op_float {op : BinOp} {xt yt : TypeId} {x y : Operand} {k : FloatKind} {p q : Nat} (ho : op = .add ∨ op = .sub ∨ op = .mul ∨ op = .quo) (hx : ev e x = .v (.float k p)) (hy : ev e y = .v (.float k q)) (hcx : canonO x = true) (hcy : canonO y = true) :
    EvalOp P G n e h (.binOp op xt x y yt) ty (.v (.float k (fop op k p q))) :=
  EvalOp.bin hx hy hcx hcy fun _ _ _ w a b ha hb => by
    obtain ⟨a, rfl, rfl⟩ := c0_float ha
    obtain ⟨b, rfl, rfl⟩ := c0_float hb
    obtain ⟨r, w', h1, h2, h3⟩ := run_arith_any (P := P) op xt k a b ho w
    exact ⟨eqGuard_at_float .., _, w', h1, h2, by simp [Rel, c0, h3]⟩
theorem op_fadd {xt yt : TypeId} {x y : Operand} {k : FloatKind} {p q : Nat} (hx : ev e x = .v (.float k p)) (hy : ev e y = .v (.float k q)) (hcx : canonO x = true) (hcy : canonO y = true) :
    EvalOp P G n e h (.binOp .add xt x y yt) ty (.v (.float k (fop .add k p q))) := op_float (.inl rfl) hx hy hcx hcy
theorem op_fsub {xt yt : TypeId} {x y : Operand} {k : FloatKind} {p q : Nat} (hx : ev e x = .v (.float k p)) (hy : ev e y = .v (.float k q)) (hcx : canonO x = true) (hcy : canonO y = true) :
    EvalOp P G n e h (.binOp .sub xt x y yt) ty (.v (.float k (fop .sub k p q))) := op_float (.inr (.inl rfl)) hx hy hcx hcy
theorem op_fmul {xt yt : TypeId} {x y : Operand} {k : FloatKind} {p q : Nat} (hx : ev e x = .v (.float k p)) (hy : ev e y = .v (.float k q)) (hcx : canonO x = true) (hcy : canonO y = true) :
    EvalOp P G n e h (.binOp .mul xt x y yt) ty (.v (.float k (fop .mul k p q))) := op_float (.inr (.inr (.inl rfl))) hx hy hcx hcy
theorem op_fquo {xt yt : TypeId} {x y : Operand} {k : FloatKind} {p q : Nat} (hx : ev e x = .v (.float k p)) (hy : ev e y = .v (.float k q)) (hcx : canonO x = true) (hcy : canonO y = true) :
    EvalOp P G n e h (.binOp .quo xt x y yt) ty (.v (.float k (fop .quo k p q))) := op_float (.inr (.inr (.inr rfl))) hx hy hcx hcy
theorem op_fcmp {op : BinOp} {xt yt : TypeId} {x y : Operand} {k : FloatKind} {p q : Nat} (ho : op = .eql ∨ op = .neq ∨ op = .lss ∨ op = .leq ∨ op = .gtr ∨ op = .geq) (hx : ev e x = .v (.float k p)) (hy : ev e y = .v (.float k q)) (hcx : canonO x = true) (hcy : canonO y = true) :
    EvalOp P G n e h (.binOp op xt x y yt) ty (.v (.bool (fcmp op k p q))) :=
  EvalOp.bin hx hy hcx hcy fun _ _ _ w a b ha hb => by
    obtain ⟨a, rfl, rfl⟩ := c0_float ha
    obtain ⟨b, rfl, rfl⟩ := c0_float hb
    refine ⟨eqGuard_at_float .., .bool (fcmp op k a b), w, ?_, Same.refl w, by simp [Rel, c0, fcmp_cn]⟩
    rcases ho with rfl | rfl | rfl | rfl | rfl | rfl <;> simp [binOp, Op.floatCmp, fcmp]
theorem op_feql {xt yt : TypeId} {x y : Operand} {k : FloatKind} {p q : Nat} (hx : ev e x = .v (.float k p)) (hy : ev e y = .v (.float k q)) (hcx : canonO x = true) (hcy : canonO y = true) :
    EvalOp P G n e h (.binOp .eql xt x y yt) ty (.v (.bool (fcmp .eql k p q))) := op_fcmp (.inl rfl) hx hy hcx hcy
theorem op_fneq {xt yt : TypeId} {x y : Operand} {k : FloatKind} {p q : Nat} (hx : ev e x = .v (.float k p)) (hy : ev e y = .v (.float k q)) (hcx : canonO x = true) (hcy : canonO y = true) :
    EvalOp P G n e h (.binOp .neq xt x y yt) ty (.v (.bool (fcmp .neq k p q))) := op_fcmp (.inr (.inl rfl)) hx hy hcx hcy
theorem op_flss {xt yt : TypeId} {x y : Operand} {k : FloatKind} {p q : Nat} (hx : ev e x = .v (.float k p)) (hy : ev e y = .v (.float k q)) (hcx : canonO x = true) (hcy : canonO y = true) :
    EvalOp P G n e h (.binOp .lss xt x y yt) ty (.v (.bool (fcmp .lss k p q))) := op_fcmp (.inr (.inr (.inl rfl))) hx hy hcx hcy
theorem op_fleq {xt yt : TypeId} {x y : Operand} {k : FloatKind} {p q : Nat} (hx : ev e x = .v (.float k p)) (hy : ev e y = .v (.float k q)) (hcx : canonO x = true) (hcy : canonO y = true) :
    EvalOp P G n e h (.binOp .leq xt x y yt) ty (.v (.bool (fcmp .leq k p q))) := op_fcmp (.inr (.inr (.inr (.inl rfl)))) hx hy hcx hcy
theorem op_fgtr {xt yt : TypeId} {x y : Operand} {k : FloatKind} {p q : Nat} (hx : ev e x = .v (.float k p)) (hy : ev e y = .v (.float k q)) (hcx : canonO x = true) (hcy : canonO y = true) :
    EvalOp P G n e h (.binOp .gtr xt x y yt) ty (.v (.bool (fcmp .gtr k p q))) := op_fcmp (.inr (.inr (.inr (.inr (.inl rfl))))) hx hy hcx hcy
theorem op_fgeq {xt yt : TypeId} {x y : Operand} {k : FloatKind} {p q : Nat} (hx : ev e x = .v (.float k p)) (hy : ev e y = .v (.float k q)) (hcx : canonO x = true) (hcy : canonO y = true) :
    EvalOp P G n e h (.binOp .geq xt x y yt) ty (.v (.bool (fcmp .geq k p q))) := op_fcmp (.inr (.inr (.inr (.inr (.inr rfl))))) hx hy hcx hcy

/-- Unary. -/
theorem op_not {t : TypeId} {x : Operand} {p : Bool} (hx : ev e x = .v (.bool p)) (hcx : canonO x = true) : EvalOp P G n e h (.unOp .not t x) ty (.v (.bool (!p))) := fun a w st _ _ _ _ => by
  have h1 := st.rel x hcx
  rw [hx] at h1; simp only [Rel] at h1
  exact ⟨.bool (!p), w, by simp [execOp, c0_bool h1, Op.unary], Same.refl w, by simp [Rel, c0]⟩
theorem op_fneg {t : TypeId} {x : Operand} {k : FloatKind} {p : Nat} (hx : ev e x = .v (.float k p)) (hcx : canonO x = true) : EvalOp P G n e h (.unOp .neg t x) ty (.v (.float k (fneg k p))) := fun a w st _ _ _ _ => by
  have h1 := st.rel x hcx
  rw [hx] at h1; simp only [Rel] at h1
  obtain ⟨b, hb, hp⟩ := c0_float h1
  refine ⟨.float k (Op.negFloat k b), w, by simp [execOp, hb, Op.unary], Same.refl w, ?_⟩
  simp only [Rel, c0, cn_neg, ← hp, fneg_cn]
theorem op_ineg {t : TypeId} {x : Operand} {p : Int} (hx : ev e x = .v (.int .i64 p)) (hcx : canonO x = true) (hb : -9223372036854775807 ≤ p ∧ p ≤ 9223372036854775807) : EvalOp P G n e h (.unOp .neg t x) ty (.v (.int .i64 (-p))) := fun a w st _ _ _ _ => by
  have h1 := st.rel x hcx
  rw [hx] at h1; simp only [Rel] at h1
  refine ⟨.int .i64 (-p), w, ?_, Same.refl w, by simp [Rel, c0]⟩
  simp only [execOp, c0_int h1, Op.unary, Op.intArith, Sem.run_bind, Sem.run_pure, Result.andThen_ok, Int.zero_sub]
  rw [wrap_in (by omega) (by omega)]

/-- Conversions. -/
theorem op_itof {s d : TypeId} {x : Operand} {q : IntKind} {k : FloatKind} {p : Int} [hs : IntT P s q] [hd : FloatT P d k] (hx : ev e x = .v (.int q p)) (hcx : canonO x = true) :
    EvalOp P G n e h (.convert s d x) ty (.v (.float k (floatOfInt k p))) := fun a w st _ _ _ _ => by
  have h1 := st.rel x hcx
  rw [hx] at h1; simp only [Rel] at h1
  refine ⟨.float k (floatOfInt k p), w, ?_, Same.refl w, by simp [Rel, c0, cn_ofInt]⟩
  simp [execOp, c0_int h1, run_convert_int_float w s d q k p (by rw [hs.ok]; rfl) hd.ok]
theorem op_itoi {s d : TypeId} {x : Operand} {q k : IntKind} {p : Int} [hs : IntT P s q] [hd : IntT P d k] (hx : ev e x = .v (.int q p)) (hcx : canonO x = true) :
    EvalOp P G n e h (.convert s d x) ty (.v (.int k (k.wrap p))) := fun a w st _ _ _ _ => by
  have h1 := st.rel x hcx
  rw [hx] at h1; simp only [Rel] at h1
  refine ⟨.int k (k.wrap p), w, ?_, Same.refl w, by simp [Rel, c0]⟩
  simp [execOp, c0_int h1, convert, run_underlying hs.ok, run_underlying hd.ok, Conv.intToInt]
theorem op_itoi64 {s d : TypeId} {x : Operand} {q : IntKind} {p : Int} [IntT P s q] [IntT P d .i64] (hx : ev e x = .v (.int q p)) (hcx : canonO x = true) (hb : -9223372036854775808 ≤ p ∧ p ≤ 9223372036854775807) :
    EvalOp P G n e h (.convert s d x) ty (.v (.int .i64 p)) := by
  have := op_itoi (P := P) (G := G) (n := n) (h := h) (ty := ty) (s := s) (d := d) (k := .i64) hx hcx
  rwa [wrap_in hb.1 hb.2] at this
theorem op_widen {s d : TypeId} {x : Operand} {p : Nat} [hs : FloatT P s .f32] [hd : FloatT P d .f64] (hx : ev e x = .v (.float .f32 p)) (hcx : canonO x = true) :
    EvalOp P G n e h (.convert s d x) ty (.v (.float .f64 (widen p))) := fun a w st _ _ _ _ => by
  have h1 := st.rel x hcx
  rw [hx] at h1; simp only [Rel] at h1
  obtain ⟨b, hb, hp⟩ := c0_float h1
  have key : ∃ r w', (Conv.floatToFloat .f32 b .f64).run P w = .ok (.float .f64 r) w' ∧ Same w w' ∧ cn .f64 r = widen b := by
    unfold Conv.floatToFloat
    rw [if_neg (by decide)]
    cases hdat : FloatKind.f32.decode b with
    | nan sg f =>
      have hn : isNan .f32 b = true := by simp [isNan, hdat, Ieee.Datum.isNaN]
      refine ⟨(Question.nanConv .f64 b).cut (w.tape w.drawn (.nanConv .f64 b)), w.drew, by simp [Question.forced], Same.drew w, ?_⟩
      rw [cn_of_nan (isNan_nanConv _ _ _)]; simp [widen, hn]
    | infinity sg =>
      have hn : isNan .f32 b = false := by simp [isNan, hdat, Ieee.Datum.isNaN]
      refine ⟨_, w, by simp; rfl, Same.refl w, ?_⟩
      rw [cn_of_num (encode_num _ _ rfl)]; simp [widen, hn, hdat]
    | number sg m ex =>
      have hn : isNan .f32 b = false := by simp [isNan, hdat, Ieee.Datum.isNaN]
      have hw : widen b = FloatKind.f64.encode (.number sg m ex) := by simp [widen, hn, hdat]
      by_cases hi : (FloatKind.f64.decode (FloatKind.f64.encode (.number sg m ex))).isInfinity = true
      · rw [widen_fin hdat] at hi; cases hi
      · refine ⟨_, w, by simp only [hi]; rfl, Same.refl w, ?_⟩
        rw [cn_of_num (encode_num _ _ rfl), hw]
  obtain ⟨r, w', h2, h3, h4⟩ := key
  refine ⟨.float .f64 r, w', ?_, h3, by simp only [Rel, c0, h4, ← hp, widen_cn]⟩
  simp [execOp, hb, convert, run_underlying hs.ok, run_underlying hd.ok, h2]
theorem op_narrow {s d : TypeId} {x : Operand} {p : Nat} [hs : FloatT P s .f64] [hd : FloatT P d .f32] (hx : ev e x = .v (.float .f64 p)) (hcx : canonO x = true) (hf : fits32 p = true) :
    EvalOp P G n e h (.convert s d x) ty (.v (.float .f32 (narrow p))) := fun a w st _ _ _ _ => by
  have h1 := st.rel x hcx
  rw [hx] at h1; simp only [Rel] at h1
  obtain ⟨b, hb, hp⟩ := c0_float h1
  rw [← hp, fits32_cn] at hf
  have key : ∃ r w', (Conv.floatToFloat .f64 b .f32).run P w = .ok (.float .f32 r) w' ∧ Same w w' ∧ cn .f32 r = narrow b := by
    unfold Conv.floatToFloat
    rw [if_neg (by decide)]
    cases hdat : FloatKind.f64.decode b with
    | nan sg f =>
      have hn : isNan .f64 b = true := by simp [isNan, hdat, Ieee.Datum.isNaN]
      refine ⟨(Question.nanConv .f32 b).cut (w.tape w.drawn (.nanConv .f32 b)), w.drew, by simp [Question.forced], Same.drew w, ?_⟩
      rw [cn_of_nan (isNan_nanConv _ _ _)]; simp [narrow, hn]
    | infinity sg =>
      have hn : isNan .f64 b = false := by simp [isNan, hdat, Ieee.Datum.isNaN]
      refine ⟨_, w, by simp; rfl, Same.refl w, ?_⟩
      rw [cn_of_num (encode_num _ _ rfl)]; simp [narrow, hn, hdat]
    | number sg m ex =>
      have hn : isNan .f64 b = false := by simp [isNan, hdat, Ieee.Datum.isNaN]
      have hw : narrow b = FloatKind.f32.encode (.number sg m ex) := by simp [narrow, hn, hdat]
      have hi : (FloatKind.f32.decode (FloatKind.f32.encode (.number sg m ex))).isInfinity = false := by
        simpa [fits32, hdat, hw] using hf
      refine ⟨_, w, by simp only [hi]; rfl, Same.refl w, ?_⟩
      rw [cn_of_num (encode_num _ _ rfl), hw]
  obtain ⟨r, w', h2, h3, h4⟩ := key
  refine ⟨.float .f32 r, w', ?_, h3, by simp only [Rel, c0, h4, ← hp, narrow_cn]⟩
  simp [execOp, hb, convert, run_underlying hs.ok, run_underlying hd.ok, h2]
/-- A conversion to the same kind of float (Go's own rounding mark). -/
theorem op_ftof {s d : TypeId} {x : Operand} {k : FloatKind} {p : Nat} [hs : FloatT P s k] [hd : FloatT P d k] (hx : ev e x = .v (.float k p)) (hcx : canonO x = true) :
    EvalOp P G n e h (.convert s d x) ty (.v (.float k p)) := fun a w st _ _ _ _ => by
  have h1 := st.rel x hcx
  rw [hx] at h1; simp only [Rel] at h1
  obtain ⟨b, hb, hp⟩ := c0_float h1
  refine ⟨.float k b, w, ?_, Same.refl w, by simp only [Rel, c0, hp]⟩
  simp [execOp, hb, convert, run_underlying hs.ok, run_underlying hd.ok, Conv.floatToFloat]

/-- The components of a call's results. -/
theorem relL_get {X : Nat → Prop} {B C : Nat} {w : World} : ∀ {us : List AVal} {xs : List Value} {i : Nat} {u : AVal}, RelL X B C w us xs → us[i]? = some u → ∃ x, xs[i]? = some x ∧ Rel X B C w u x
  | [], _, _, _, _, h2 => by simp at h2
  | v :: us, xs, i, u, h1, h2 => by
    simp only [RelL] at h1
    obtain ⟨x, rest, rfl, h3, h4⟩ := h1
    cases i with
    | zero => simp at h2; subst h2; exact ⟨x, rfl, h3⟩
    | succ i =>
      simp at h2
      obtain ⟨y, h5, h6⟩ := relL_get h4 h2
      exact ⟨y, by simpa using h5, h6⟩
theorem relL_length {X : Nat → Prop} {B C : Nat} {w : World} : ∀ {us : List AVal} {xs : List Value}, RelL X B C w us xs → xs.length = us.length
  | [], xs, h1 => by simp only [RelL] at h1; subst h1; rfl
  | u :: us, xs, h1 => by
    simp only [RelL] at h1
    obtain ⟨x, rest, rfl, _, h4⟩ := h1
    simp [relL_length h4]

theorem op_extract {x : Operand} {i : Nat} {us : List AVal} {u : AVal} (hx : ev e x = .tup us) (hi : us[i]? = some u) (hcx : canonO x = true) : EvalOp P G n e h (.extract x i) ty u := fun a w st _ _ _ _ => by
  have h1 := st.rel x hcx
  rw [hx] at h1; simp only [Rel] at h1
  obtain ⟨arr, h2, h3⟩ := h1
  obtain ⟨y, h4, h5⟩ := relL_get h3 hi
  exact ⟨y, w, by simp [execOp, h2, Instr.extract, h4], Same.refl w, h5⟩

end
end Go.Av
/-
Memory: loads, boxes, stores; loops; a function's contract and its proof; calls.
-/
namespace Go.Av
open Go.RowKit

/-! ### Weakening a state -/

def ALe (u u' : AVal) : Prop := ∀ X B C w x, Rel X B C w u x → Rel X B C w u' x
theorem ALe.rfl' {u u' : AVal} (h : u = u') : ALe u u' := fun _ _ _ _ _ r => h ▸ r
theorem ALe.any (u : AVal) : ALe u .any := fun _ _ _ _ _ _ => by simp [Rel]

def EnvLe (e e' : Env) : Prop := ∀ t, ALe (e t) (e' t)
def HpLe (h h' : Hp) : Prop := ∀ i en, h' i = some en → h i = some en
theorem EnvLe.refl (e : Env) : EnvLe e e := fun _ _ _ _ _ _ r => r
theorem HpLe.refl (h : Hp) : HpLe h h := fun _ _ r => r

theorem St.weaken {G : Glob} {n : Nat} {e e' : Env} {h h' : Hp} {a : Act} {w : World} (st : St G n e h a w) (he : EnvLe e e') (hh : HpLe h h') : St G n e' h' a w := by
  have hx : ∀ b, Xs G h' b → Xs G h b := fun b hb => by
    rcases hb with hb | hb | ⟨i, en, hi, hb⟩
    · exact .inl hb
    · exact .inr (.inl hb)
    · exact .inr (.inr ⟨i, en, hh i en hi, hb⟩)
  exact {
    size := st.size
    defers := st.defers
    mod := st.mod
    env := fun t => he t _ _ _ _ _ (Rel.mono (WLe.shrink w hx) (st.env t))
    own := fun i en hi => EntOk.mono (WLe.shrink w hx) (fun _ _ => rfl) (st.own i en (hh i en hi))
    old := fun i en b hi hb => st.old i en b (hh i en hi) hb
    apart := fun i j en em b hi hj h1 h2 => st.apart i j en em b (hh i en hi) (hh j em hj) h1 h2
    zlt := st.zlt
    mlt := st.mlt
    ble := st.ble }

theorem V_weaken {P : Program} {G : Glob} {n : Nat} {c : Code} {Q : Post} {e e' : Env} {h h' : Hp} (he : EnvLe e e') (hh : HpLe h h') (hv : V P G n c Q e' h') : V P G n c Q e h :=
  fun a w st => hv a w (st.weaken he hh)

/-- An environment written out. -/
def mkEnv : List (Nat × AVal) → Env
  | [] => fun _ => .any
  | (t, u) :: l => upd (mkEnv l) t u
def mkHp : List (Nat × Ent) → Hp
  | [] => fun _ => none
  | (t, u) :: l => upd (mkHp l) t (some u)
def AllEq (e : Env) : List (Nat × AVal) → Prop
  | [] => True
  | (t, u) :: l => e t = u ∧ AllEq e l
def AllEqH (h : Hp) : List (Nat × Ent) → Prop
  | [] => True
  | (t, u) :: l => h t = some u ∧ AllEqH h l

theorem envLe_mk {e : Env} : ∀ {l : List (Nat × AVal)}, AllEq e l → EnvLe e (mkEnv l)
  | [], _ => fun t => ALe.any _
  | (t, u) :: l, h => fun s => by
    simp only [AllEq] at h
    by_cases hs : s = t
    · subst hs; simp only [mkEnv, upd_same]; exact ALe.rfl' h.1
    · simp only [mkEnv]; rw [upd_other _ _ _ hs]; exact envLe_mk h.2 s
theorem hpLe_mk {h : Hp} : ∀ {l : List (Nat × Ent)}, AllEqH h l → HpLe h (mkHp l)
  | [], _ => fun i en hi => by simp [mkHp] at hi
  | (t, u) :: l, hh => fun i en hi => by
    simp only [AllEqH] at hh
    by_cases hs : i = t
    · subst hs; simp only [mkHp, upd_same, Option.some.injEq] at hi; subst hi; exact hh.1
    · simp only [mkHp] at hi; rw [upd_other _ _ _ hs] at hi; exact hpLe_mk hh.2 i en hi

/-! ### Loops -/

def again {σ : Type} (L : σ → Env) (H : σ → Hp) (I : σ → Prop) (μ : σ → Nat) (x : σ) (Q : Post) : Post := fun ex e h => match ex with
  | .normal => ∃ x', I x' ∧ μ x' < μ x ∧ EnvLe e (L x') ∧ HpLe h (H x')
  | ex => Q ex e h

theorem V_loop {P : Program} {G : Glob} {n : Nat} {c : Code} {Q : Post} {e : Env} {h : Hp} {σ : Type} (L : σ → Env) (H : σ → Hp) (I : σ → Prop) (μ : σ → Nat) (x0 : σ)
    (h0 : I x0) (he : EnvLe e (L x0)) (hh : HpLe h (H x0))
    (body : ∀ x, I x → V P G n c (again L H I μ x Q) (L x) (H x)) : V P G n (.loop c) Q e h := by
  intro a w st b k cs
  have key : ∀ m x a w, μ x = m → I x → St G n (L x) (H x) a w →
      ∃ ex a' w', lift G n Q ex a' w' ∧ Arrives P (lone (b.at a (.code c :: .inLoop c :: k)) cs w) b k cs ex a' w' := by
    intro m
    induction m using Nat.strongRecOn with
    | _ m ih =>
      intro x a w hm hI st
      obtain ⟨ex, a₁, w₁, ⟨e1, h1, st1, hq⟩, harr⟩ := body x hI a w st b (.inLoop c :: k) cs
      cases ex with
      | normal =>
        obtain ⟨x', hI', hlt, hle, hhe⟩ := hq
        obtain ⟨ex₂, a₂, w₂, hq₂, harr₂⟩ := ih (μ x') (hm ▸ hlt) x' a₁ w₁ rfl hI' (st1.weaken hle hhe)
        exact ⟨ex₂, a₂, w₂, hq₂, .of_steps (Steps.trans harr (.one step_inLoop)) harr₂⟩
      | exit id => exact ⟨_, a₁, w₁, ⟨e1, h1, st1, hq⟩, .pass (x := .inLoop c) rfl (fun _ _ => .inl (by simp)) harr⟩
      | goto l => exact ⟨_, a₁, w₁, ⟨e1, h1, st1, hq⟩, .pass (x := .inLoop c) rfl (fun _ _ => .inl (by simp)) harr⟩
      | ret => exact ⟨_, a₁, w₁, ⟨e1, h1, st1, hq⟩, .pass (x := .inLoop c) rfl (fun _ _ => .inl (by simp)) harr⟩
      | panic ch => exact ⟨_, a₁, w₁, ⟨e1, h1, st1, hq⟩, .pass (x := .inLoop c) rfl (fun _ _ => .inl (by simp)) harr⟩
      | outgrown => exact ⟨_, a₁, w₁, ⟨e1, h1, st1, hq⟩, .pass (x := .inLoop c) rfl (fun _ _ => .inl (by simp)) harr⟩
  obtain ⟨ex, a', w', hq, harr⟩ := key _ x0 a w rfl h0 (st.weaken he hh)
  exact ⟨ex, a', w', hq, .of_steps (.one step_loop) harr⟩

end Go.Av
/-
Contracts of functions; how a body's walk gives one; how a call uses one.
-/
namespace Go.Av
open Go.RowKit

/-! ### Flags -/

def fl0 (f : Nat → Nat) : AVal → AVal
  | .sl fr n cs => .sl (f fr) n cs
  | .agg _ => .any
  | .tup _ => .any
  | u => u
def fl1 (f : Nat → Nat) : AVal → AVal
  | .agg cs => .agg (cs.map (fl0 f))
  | u => fl0 f u
def fl2 (f : Nat → Nat) : AVal → AVal
  | .tup xs => .tup (xs.map (fl1 f))
  | u => fl1 f u
/-- At a call: what is new for the caller is from the callee's bound on. -/
def inn (fr : Nat) : Nat := bif Nat.beq fr 2 then 1 else 0
/-- Behind a call: what was from the callee's bound on, or is new there, is new. -/
def outf (fr : Nat) : Nat := bif Nat.beq fr 0 then 0 else bif Nat.ble fr 2 then 2 else 0

section
variable {X : Nat → Prop} {B C B' C' : Nat} {w : World}

theorem Rel.fl0 {f : Nat → Nat} (hf1 : ∀ fr b, (fr = 1 → B ≤ b) → (fr = 2 → C ≤ b) → f fr = 1 → B' ≤ b) (hf2 : ∀ fr b, (fr = 1 → B ≤ b) → (fr = 2 → C ≤ b) → f fr = 2 → C' ≤ b) (hf3 : ∀ fr, f fr ≠ 0 → fr ≠ 0)
    {u : AVal} {x : Value} (h : Rel X B C w u x) : Rel X B' C' w (fl0 f u) x := by
  cases u <;> simp only [Av.fl0, Rel] at h ⊢ <;> try exact h
  obtain ⟨a, cap, rfl, h⟩ := h
  refine ⟨a, cap, rfl, ?_⟩
  rcases h with h | ⟨b, off, ha, hb, hx, h1, h2, hz, hc⟩
  · exact .inl h
  · exact .inr ⟨b, off, ha, hb, hx, hf1 _ _ h1 h2, hf2 _ _ h1 h2, fun h0 => hz (hf3 _ h0), hc⟩
theorem RelL.map {g : AVal → AVal} (hg : ∀ {u x}, Rel X B C w u x → Rel X B' C' w (g u) x) : ∀ {us : List AVal} {xs : List Value}, RelL X B C w us xs → RelL X B' C' w (us.map g) xs
  | [], _, h => by simpa [RelL] using h
  | u :: us, xs, h => by
    simp only [RelL, List.map_cons] at h ⊢
    obtain ⟨x, rest, rfl, h1, h2⟩ := h
    exact ⟨x, rest, rfl, hg h1, RelL.map hg h2⟩
theorem Rel.fl1 {f : Nat → Nat} (hf1 : ∀ fr b, (fr = 1 → B ≤ b) → (fr = 2 → C ≤ b) → f fr = 1 → B' ≤ b) (hf2 : ∀ fr b, (fr = 1 → B ≤ b) → (fr = 2 → C ≤ b) → f fr = 2 → C' ≤ b) (hf3 : ∀ fr, f fr ≠ 0 → fr ≠ 0)
    {u : AVal} {x : Value} (h : Rel X B C w u x) : Rel X B' C' w (fl1 f u) x := by
  cases u <;> first | (exact Rel.fl0 hf1 hf2 hf3 h) | skip
  simp only [Av.fl1, Rel] at h ⊢
  obtain ⟨arr, rfl, h⟩ := h
  exact ⟨arr, rfl, RelL.map (fun h => Rel.fl0 hf1 hf2 hf3 h) h⟩
theorem Rel.fl2 {f : Nat → Nat} (hf1 : ∀ fr b, (fr = 1 → B ≤ b) → (fr = 2 → C ≤ b) → f fr = 1 → B' ≤ b) (hf2 : ∀ fr b, (fr = 1 → B ≤ b) → (fr = 2 → C ≤ b) → f fr = 2 → C' ≤ b) (hf3 : ∀ fr, f fr ≠ 0 → fr ≠ 0)
    {u : AVal} {x : Value} (h : Rel X B C w u x) : Rel X B' C' w (fl2 f u) x := by
  cases u <;> first | (exact Rel.fl1 hf1 hf2 hf3 h) | skip
  simp only [Av.fl2, Rel] at h ⊢
  obtain ⟨arr, rfl, h⟩ := h
  exact ⟨arr, rfl, RelL.map (fun h => Rel.fl1 hf1 hf2 hf3 h) h⟩
end

mutual
/-- Bounds may be forgotten. -/
theorem Rel.lower {X : Nat → Prop} {B C : Nat} {w : World} : ∀ {u : AVal} {x : Value}, Rel X B C w u x → Rel X 0 0 w u x
  | .any, _, _ => by simp [Rel]
  | .v u, x, h => by simpa [Rel] using h
  | .sl fr n cs, x, h => by
    simp only [Rel] at h ⊢
    obtain ⟨a, cap, rfl, h⟩ := h
    refine ⟨a, cap, rfl, ?_⟩
    rcases h with h | ⟨b, off, ha, hb, hx, h1, h2, hz, hc⟩
    · exact .inl h
    · exact .inr ⟨b, off, ha, hb, hx, fun _ => Nat.zero_le _, fun _ => Nat.zero_le _, hz, hc⟩
  | .agg cs, x, h => by
    simp only [Rel] at h ⊢
    obtain ⟨arr, rfl, h⟩ := h
    exact ⟨arr, rfl, RelL.lower h⟩
  | .tup cs, x, h => by
    simp only [Rel] at h ⊢
    obtain ⟨arr, rfl, h⟩ := h
    exact ⟨arr, rfl, RelL.lower h⟩
  | .ptr o cs, x, h => by simpa only [Rel] using h
  | .own i b o, x, h => by simpa only [Rel] using h
  | .orow i s, x, h => by simpa only [Rel] using h
  | .fn f cs, x, h => by simpa only [Rel] using h
theorem RelL.lower {X : Nat → Prop} {B C : Nat} {w : World} : ∀ {us : List AVal} {xs : List Value}, RelL X B C w us xs → RelL X 0 0 w us xs
  | [], _, h => by simpa [RelL] using h
  | u :: us, xs, h => by
    simp only [RelL] at h ⊢
    obtain ⟨x, rest, rfl, h1, h2⟩ := h
    exact ⟨x, rest, rfl, Rel.lower h1, RelL.lower h2⟩
end

/-- No flag on it: any bounds hold. -/
def flat0 : AVal → Bool
  | .sl fr _ _ => Nat.beq fr 0
  | .agg _ => false
  | .tup _ => false
  | _ => true
theorem Rel.flat {X : Nat → Prop} {B C : Nat} {w : World} {u : AVal} {x : Value} (hf : flat0 u = true) (h : Rel X 0 0 w u x) : Rel X B C w u x := by
  cases u <;> simp only [flat0, Rel] at hf h ⊢ <;> try (first | exact h | (cases hf; done))
  obtain ⟨a, cap, rfl, h⟩ := h
  refine ⟨a, cap, rfl, ?_⟩
  have hfr := Nat.eq_of_beq_eq_true hf
  rcases h with h | ⟨b, off, ha, hb, hx, h1, h2, hz, hc⟩
  · exact .inl h
  · exact .inr ⟨b, off, ha, hb, hx, fun e => by omega, fun e => by omega, hz, hc⟩
theorem RelL.flat {X : Nat → Prop} {B C : Nat} {w : World} : ∀ {us : List AVal} {xs : List Value}, (∀ u ∈ us, flat0 u = true) → RelL X 0 0 w us xs → RelL X B C w us xs
  | [], _, _, h => by simpa [RelL] using h
  | u :: us, xs, hf, h => by
    simp only [RelL] at h ⊢
    obtain ⟨x, rest, rfl, h1, h2⟩ := h
    exact ⟨x, rest, rfl, Rel.flat (hf u (by simp)) h1, RelL.flat (fun u hu => hf u (by simp [hu])) h2⟩

def Ent.cells : Ent → List AVal
  | .box _ cs => cs
  | .row _ _ _ _ cs => cs
  | .arr _ _ cs => cs

theorem EntOk.lower {X : Nat → Prop} {B C : Nat} {w : World} {en : Ent} (h : EntOk X B C w en) : EntOk X 0 0 w en := by
  cases en with
  | box b cs => obtain ⟨cur, ty, h1, h2⟩ := h; exact ⟨cur, ty, h1, RelL.lower h2⟩
  | row s ty sz n cs => obtain ⟨raws, h1, h2⟩ := h; exact ⟨raws, h1, RelL.lower h2⟩
  | arr s n cs =>
    obtain ⟨a, cap, h1, h2⟩ := h
    exact ⟨a, cap, h1, h2.imp id fun ⟨b, off, cur, ty, h3, h4, h5, h6, h7⟩ => ⟨b, off, cur, ty, h3, h4, h5, h6, RelL.lower h7⟩⟩
theorem EntOk.flat {X : Nat → Prop} {B C : Nat} {w : World} {en : Ent} (hf : ∀ u ∈ en.cells, flat0 u = true) (h : EntOk X 0 0 w en) : EntOk X B C w en := by
  cases en with
  | box b cs => obtain ⟨cur, ty, h1, h2⟩ := h; exact ⟨cur, ty, h1, RelL.flat hf h2⟩
  | row s ty sz n cs => obtain ⟨raws, h1, h2⟩ := h; exact ⟨raws, h1, RelL.flat hf h2⟩
  | arr s n cs =>
    obtain ⟨a, cap, h1, h2⟩ := h
    exact ⟨a, cap, h1, h2.imp id fun ⟨b, off, cur, ty, h3, h4, h5, h6, h7⟩ => ⟨b, off, cur, ty, h3, h4, h5, h6, RelL.flat hf h7⟩⟩
theorem EntOk.lt {X : Nat → Prop} {B C : Nat} {w : World} {en : Ent} (h : EntOk X B C w en) {b : Nat} (hb : en.blk = some b) : b < w.heap.size := by
  cases en with
  | box b' cs =>
    obtain ⟨cur, ty, h1, _⟩ := h
    simp only [Ent.blk, Option.some.injEq] at hb; subst hb
    exact (Array.getElem?_eq_some_iff.1 h1).1
  | row s ty sz n cs =>
    obtain ⟨raws, h1, _⟩ := h
    exact (h1.lt b hb).2
  | arr s n cs =>
    obtain ⟨a, cap, h1, h2⟩ := h
    rcases h2 with ⟨h2, _⟩ | ⟨b', off, cur, ty, h3, h4, h5, h6, h7⟩
    · subst h2; simp [Ent.blk] at hb
    · subst h1; subst h4
      simp [Ent.blk, Value.ownBlock, h3] at hb; subst hb
      exact (Array.getElem?_eq_some_iff.1 h5).1

/-! ### Contracts -/

def blks (mu : List Ent) (b : Nat) : Prop := ∃ en, en ∈ mu ∧ en.blk = some b

structure MuOk (Z : Nat → Prop) (w : World) (mu : List Ent) : Prop where
  ok : ∀ en, en ∈ mu → EntOk (fun b => Z b ∨ blks mu b) 0 0 w en
  notZ : ∀ b, blks mu b → ¬ Z b
  apart : ∀ (i j : Nat) (en em : Ent) (b : Nat), mu[i]? = some en → mu[j]? = some em → en.blk = some b → em.blk = some b → i = j

structure MuAfter (Z : Nat → Prop) (mu mu' : List Ent) (w w' : World) : Prop where
  ok : ∀ en, en ∈ mu' → EntOk (fun b => Z b ∨ blks mu b ∨ blks mu' b) 0 0 w' en
  new : ∀ b, blks mu' b → ¬ Z b ∧ (blks mu b ∨ w.heap.size ≤ b)
  apart : ∀ (i j : Nat) (en em : Ent) (b : Nat), mu'[i]? = some en → mu'[j]? = some em → en.blk = some b → em.blk = some b → i = j

/-- THE CONTRACT: called with what 'ins' tells (and own blocks as 'mu' tells), the function returns what 'post' tells. -/
def CtM (P : Program) (f : FuncId) (ins : List AVal) (mu : List Ent) (post : AVal → List Ent → Prop) : Prop :=
  ∀ (w : World) (args : List Value) (Z : Nat → Prop) (B : Nat), (∀ b, Z b → b < w.heap.size) → B ≤ w.heap.size → MuOk Z w mu →
    RelL (fun b => Z b ∨ blks mu b) B w.heap.size w ins args →
    Calls P f args.toArray w fun en w' => ∃ x out mu', en = .returned x ∧ post out mu' ∧ Mod (blks mu) w w' ∧ MuAfter Z mu mu' w w' ∧
      Rel (fun b => Z b ∨ blks mu b ∨ blks mu' b) B w.heap.size w' out x

def Ct (P : Program) (f : FuncId) (ins : List AVal) (post : AVal → Prop) : Prop := CtM P f ins [] fun out mu' => mu' = [] ∧ post out

theorem CtM.mono {P : Program} {f : FuncId} {ins : List AVal} {mu : List Ent} {post post' : AVal → List Ent → Prop} (h : CtM P f ins mu post) (hp : ∀ o m, post o m → post' o m) : CtM P f ins mu post' :=
  fun w args Z B h1 h2 h3 h4 => (h w args Z B h1 h2 h3 h4).mono fun _ _ ⟨x, out, mu', h5, h6, h7⟩ => ⟨x, out, mu', h5, hp _ _ h6, h7⟩
theorem Ct.mono {P : Program} {f : FuncId} {ins : List AVal} {post post' : AVal → Prop} (h : Ct P f ins post) (hp : ∀ o, post o → post' o) : Ct P f ins post' :=
  CtM.mono h fun o _ ⟨h1, h2⟩ => ⟨h1, hp o h2⟩

/-! ### From the walk of a body to the contract -/

def argEnv (ins : List AVal) : Env := fun t => ins.getD t (.v undef)
def muHp (mu : List Ent) : Hp := fun i => bif Nat.ble 900 i then mu[i - 900]? else none

def chkAgg (P : Program) (t sz : Nat) : Bool := chkUnder P t (fun | .struct _ | .array _ _ => true | _ => false) && chkInfo P t (fun i => i.size == sz)

/-- What a result variable holds. -/
def Res1 (P : Program) (e : Env) (h : Hp) : ResultVar → AVal → Prop
  | .tmp t, u => u = e t
  | .cell p ty, u => ∃ i b cells, e p = .own i b 0 ∧ h i = some (.box b cells) ∧ chkAgg P ty cells.length = true ∧ u = .agg cells
def ResL (P : Program) (e : Env) (h : Hp) : List ResultVar → List AVal → Prop
  | [], us => us = []
  | r :: rs, us => ∃ u rest, us = u :: rest ∧ Res1 P e h r u ∧ ResL P e h rs rest
def Res (P : Program) (e : Env) (h : Hp) (rs : Array ResultVar) (out : AVal) : Prop :=
  ∃ us, ResL P e h rs.toList us ∧ ((∃ u, us = [u] ∧ out = u) ∨ (us.length ≠ 1 ∧ out = .tup us))

def fin (P : Program) (rs : Array ResultVar) (post : AVal → List Ent → Prop) : Post := fun ex e h =>
  (ex = .ret ∨ ex = .normal) ∧ ∃ out mu', Res P e h rs out ∧ (∀ k en, mu'[k]? = some en → h (900 + k) = some en) ∧ post out mu'

def resVal (tmps : Array Value) : ResultVar → Sem Value
  | .tmp t => pure (tmps.getD t undef)
  | .cell p t => do loadVar t (← asAddr (tmps.getD p undef))

def packV : List Value → Value
  | [x] => x
  | xs => .tuple xs.toArray
theorem packV_ne {xs : List Value} (h : xs.length ≠ 1) : packV xs = .tuple xs.toArray := by
  match xs, h with
  | [], _ => rfl
  | [x], h => exact absurd rfl h
  | x :: y :: zs, _ => rfl

theorem relL_get' {X : Nat → Prop} {B C : Nat} {w : World} : ∀ {us : List AVal} {xs : List Value} (t : Nat), RelL X B C w us xs → Rel X B C w (us.getD t (.v undef)) (xs.getD t undef)
  | [], xs, t, h => by simp only [RelL] at h; subst h; simp [Rel, c0, undef]
  | u :: us, xs, t, h => by
    simp only [RelL] at h
    obtain ⟨x, rest, rfl, h1, h2⟩ := h
    cases t with
    | zero => simpa using h1
    | succ t => simpa using relL_get' t h2

theorem run_loadCells_box {P : Program} {w : World} {b ty : Nat} {cur : Array Value} (hb : w.heap[b]? = some (.cells cur ty (0, 0))) :
    (loadCells ⟨b, 0, none⟩ cur.size).run P w = .ok cur w := by
  have := run_loadCells_list (P := P) w ⟨b, 0, none⟩ cur.toList (fun j v hj => by
    rw [show (⟨b, 0, none⟩ : Addr).add j = ⟨b, j, none⟩ by unfold Addr.add; split <;> simp_all]
    simp only [World.cell?, hb]
    simpa using hj)
  simpa using this

theorem run_loadVar_agg {P : Program} {w : World} {b ty t : Nat} {cur : Array Value} (hb : w.heap[b]? = some (.cells cur ty (0, 0))) (hc : chkAgg P t cur.size = true) :
    (loadVar t ⟨b, 0, none⟩).run P w = .ok (.agg cur) w := by
  simp only [chkAgg, Bool.and_eq_true] at hc
  have h1 := @run_isAgg_agg P t cur.size ⟨hc.1, hc.2⟩ w
  obtain ⟨i, h2, h3⟩ := @AggT.size P t cur.size ⟨hc.1, hc.2⟩
  simp only [loadVar, Sem.run_bind, h1, Result.andThen_ok, if_true, sizeOf, typeInfo, run_program, h2, Sem.run_pure, h3, run_loadCells_box hb]

section
variable {P : Program} {G : Glob} {n : Nat} {e : Env} {h : Hp} {a : Act} {w : World}

theorem St.results (st : St G n e h a w) : ∀ {rs : List ResultVar} {us : List AVal}, ResL P e h rs us →
    ∃ xs, (rs.mapM (resVal a.tmps)).run P w = .ok xs w ∧ RelL (Xs G h) G.B G.w0.heap.size w us xs
  | [], us, hr => by simp only [ResL] at hr; subst hr; exact ⟨[], by simp, by simp [RelL]⟩
  | r :: rs, us, hr => by
    simp only [ResL] at hr
    obtain ⟨u, rest, rfl, h1, h2⟩ := hr
    obtain ⟨xs, h3, h4⟩ := St.results st h2
    cases r with
    | tmp t =>
      simp only [Res1] at h1; subst h1
      exact ⟨a.tmps.getD t undef :: xs, by simp only [List.mapM_cons, resVal, Sem.run_bind, Sem.run_pure, Result.andThen_ok, h3], by simp only [RelL]; exact ⟨_, _, rfl, st.env t, h4⟩⟩
    | cell p ty =>
      simp only [Res1] at h1
      obtain ⟨i, b, cells, h5, h6, h7, rfl⟩ := h1
      have hp := st.env p
      rw [h5] at hp; simp only [Rel] at hp
      obtain ⟨cur, ty', h8, h9⟩ := st.own i _ h6
      have hl := relL_length h9
      have hsz : cur.size = cells.length := by simpa using hl
      rw [← hsz] at h7
      refine ⟨.agg cur :: xs, ?_, by simp only [RelL]; exact ⟨_, _, rfl, by simp only [Rel]; exact ⟨cur.toList, by simp, h9⟩, h4⟩⟩
      simp only [List.mapM_cons, resVal, Sem.run_bind, hp, asAddr, Sem.run_pure, Result.andThen_ok, run_loadVar_agg h8 h7, h3]

theorem run_results {fn : Func} {tmps : Array Value} {xs : List Value} (hr : (fn.results.toList.mapM (resVal tmps)).run P w = .ok xs w) :
    (Go.results fn tmps).run P w = .ok (packV xs) w := by
  have e0 : Go.results fn tmps = (do let vs ← fn.results.mapM (resVal tmps); pure (if h : vs.size = 1 then vs[0] else .tuple vs)) := by
    unfold Go.results
    congr 1
    first | done | (congr 1; funext r; cases r <;> rfl)
  have e1 : fn.results.mapM (resVal tmps) = List.toArray <$> fn.results.toList.mapM (resVal tmps) := by
    rw [Array.mapM_eq_mapM_toList]
  rw [e0, e1]
  simp only [Sem.run_bind, Sem.run_map, hr, Result.andThen_ok]
  match xs with
  | [] => simp [packV]
  | [x] => simp [packV]
  | x :: y :: zs => simp [packV]
end

theorem CtM.of_V {P : Program} {f : FuncId} {fn : Func} {c : Code} {n : Nat} {ins : List AVal} {mu : List Ent} {post : AVal → List Ent → Prop} (hf : P.funcs[f]? = some fn) (hb : fn.body = some c) (hn : fn.ntmps = n) (hl : Nat.ble ins.length n = true)
    (hflat : ∀ en ∈ mu, ∀ u ∈ en.cells, flat0 u = true)
    (hv : ∀ G : Glob, G.ms = blks mu → V P G n c (fin P fn.results post) (argEnv ins) (muHp mu)) : CtM P f ins mu post := by
  intro w args Z B hZ hB hmu hin
  have hlen := relL_length hin
  have hlt : args.length ≤ n := by rw [hlen]; simpa using hl
  have hmuHp : ∀ i en, muHp mu i = some en → 900 ≤ i ∧ mu[i - 900]? = some en := by
    intro i en hi
    unfold muHp at hi
    cases hc : Nat.ble 900 i with
    | false => simp [hc] at hi
    | true => simp [hc] at hi; exact ⟨by simpa using hc, hi⟩
  let G : Glob := ⟨w, Z, blks mu, B⟩
  have hXs : ∀ b, Xs G (muHp mu) b ↔ (Z b ∨ blks mu b) := by
    intro b
    constructor
    · rintro (h1 | h1 | ⟨i, en, h1, h2⟩)
      · exact .inl h1
      · exact .inr h1
      · obtain ⟨_, h3⟩ := hmuHp i en h1
        exact .inr ⟨en, List.mem_of_getElem? h3, h2⟩
    · rintro (h1 | h1)
      · exact .inl h1
      · exact .inr (.inl h1)
  have hw : WLe (fun b => Z b ∨ blks mu b) (Xs G (muHp mu)) w w := WLe.shrink w fun b hb => (hXs b).1 hb
  have st : St G n (argEnv ins) (muHp mu) { tmps := args.toArray ++ Array.replicate (fn.ntmps - args.toArray.size) undef, defers := [] } w := {
    size := by simp; omega
    defers := rfl
    mod := Mod.refl _ _
    env := fun t => by
      have h1 := relL_get' t (RelL.mono hw hin)
      have e1 : (args.toArray ++ Array.replicate (fn.ntmps - args.toArray.size) undef).getD t undef = args.getD t undef := by
        rw [Array.getD_eq_getD_getElem?, List.getD_eq_getElem?_getD]
        by_cases ht : t < args.length
        · simp [Array.getElem?_append, ht]
        · simp only [Array.getElem?_append, List.size_toArray, ht, if_false]
          rw [List.getElem?_eq_none (by omega)]
          simp only [Array.getElem?_replicate]
          split <;> rfl
      rw [e1]; exact h1
    own := fun i en hi => by
      obtain ⟨_, h3⟩ := hmuHp i en hi
      have hm := List.mem_of_getElem? h3
      exact EntOk.mono hw (fun _ _ => rfl) (EntOk.flat (hflat en hm) (hmu.ok en hm))
    old := fun i en b hi hbk => by
      obtain ⟨_, h3⟩ := hmuHp i en hi
      have : blks mu b := ⟨en, List.mem_of_getElem? h3, hbk⟩
      exact ⟨hmu.notZ b this, .inl this⟩
    apart := fun i j en em b hi hj h1 h2 => by
      obtain ⟨h3, h4⟩ := hmuHp i en hi
      obtain ⟨h5, h6⟩ := hmuHp j em hj
      have := hmu.apart _ _ _ _ b h4 h6 h1 h2
      omega
    zlt := hZ
    mlt := fun b ⟨en, h1, h2⟩ => (hmu.ok en h1).lt h2
    ble := hB }
  refine calls_of_wp hf hb (wp_mono (hv G rfl _ w st) ?_)
  rintro ex a' w' ⟨e', h', st', hex, out, mu', ⟨us, hres, hout⟩, hmu', hpost⟩
  obtain ⟨xs, hxs, hrel⟩ := St.results (P := P) st' hres
  have hrr := run_results (fn := fn) hxs
  have hsub : ∀ b, (Z b ∨ blks mu b ∨ blks mu' b) → Xs G h' b := by
    rintro b (h1 | h1 | ⟨en, h1, h2⟩)
    · exact .inl h1
    · exact .inr (.inl h1)
    · obtain ⟨k, hk⟩ := List.mem_iff_getElem?.1 h1
      exact .inr (.inr ⟨900 + k, en, hmu' k en hk, h2⟩)
  have hw' : WLe (Xs G h') (fun b => Z b ∨ blks mu b ∨ blks mu' b) w' w' := WLe.shrink w' hsub
  have hval : Rel (fun b => Z b ∨ blks mu b ∨ blks mu' b) B w.heap.size w' out (packV xs) := by
    have hr2 := RelL.mono hw' hrel
    rcases hout with ⟨u, rfl, rfl⟩ | ⟨hne, rfl⟩
    · simp only [RelL] at hr2
      obtain ⟨x, rest, rfl, h1, rfl⟩ := hr2
      exact h1
    · have hl2 := relL_length hr2
      have : packV xs = .tuple xs.toArray := packV_ne (by rw [hl2]; exact hne)
      rw [this]
      simp only [Rel]
      exact ⟨xs, rfl, hr2⟩
  have hafter : MuAfter Z mu mu' w w' := {
    ok := fun en hen => by
      obtain ⟨k, hk⟩ := List.mem_iff_getElem?.1 hen
      exact EntOk.mono hw' (fun _ _ => rfl) (st'.own _ _ (hmu' k en hk)).lower
    new := fun b ⟨en, h1, h2⟩ => by
      obtain ⟨k, hk⟩ := List.mem_iff_getElem?.1 h1
      exact st'.old _ _ b (hmu' k en hk) h2
    apart := fun i j en em b hi hj h1 h2 => by
      have := st'.apart _ _ _ _ b (hmu' i en hi) (hmu' j em hj) h1 h2
      omega }
  have hR : ∃ x out mu', (Ending.returned (packV xs)) = .returned x ∧ post out mu' ∧ Mod (blks mu) w w' ∧ MuAfter Z mu mu' w w' ∧
      Rel (fun b => Z b ∨ blks mu b ∨ blks mu' b) B w.heap.size w' out x := ⟨_, out, mu', rfl, hpost, st'.mod, hafter, hval⟩
  rcases hex with rfl | rfl
  · exact ⟨st'.defers, _, hrr, hR⟩
  · exact ⟨st'.defers, _, hrr, hR⟩

section
variable {P : Program} {e : Env} {h : Hp} {post : AVal → Prop}
/-- A function's end: one result, two, three; a struct. -/
theorem fin_1 {t : Tmp} (hp : post (e t)) : fin P #[.tmp t] (fun out mu' => mu' = [] ∧ post out) .ret e h :=
  ⟨.inl rfl, e t, [], ⟨[e t], ⟨_, _, rfl, rfl, rfl⟩, .inl ⟨_, rfl, rfl⟩⟩, fun _ _ hk => by simp at hk, rfl, hp⟩
theorem fin_2 {t u : Tmp} (hp : post (.tup [e t, e u])) : fin P #[.tmp t, .tmp u] (fun out mu' => mu' = [] ∧ post out) .ret e h :=
  ⟨.inl rfl, .tup [e t, e u], [], ⟨[e t, e u], ⟨_, _, rfl, rfl, _, _, rfl, rfl, rfl⟩, .inr ⟨by simp, rfl⟩⟩, fun _ _ hk => by simp at hk, rfl, hp⟩
theorem fin_3 {t u v : Tmp} (hp : post (.tup [e t, e u, e v])) : fin P #[.tmp t, .tmp u, .tmp v] (fun out mu' => mu' = [] ∧ post out) .ret e h :=
  ⟨.inl rfl, .tup [e t, e u, e v], [], ⟨[e t, e u, e v], ⟨_, _, rfl, rfl, _, _, rfl, rfl, _, _, rfl, rfl, rfl⟩, .inr ⟨by simp, rfl⟩⟩, fun _ _ hk => by simp at hk, rfl, hp⟩
theorem fin_c {p ty i b : Nat} {cells : List AVal} (h1 : e p = .own i b 0) (h2 : h i = some (.box b cells)) (h3 : chkAgg P ty cells.length = true) (hp : post (.agg cells)) :
    fin P #[.cell p ty] (fun out mu' => mu' = [] ∧ post out) .ret e h :=
  ⟨.inl rfl, .agg cells, [], ⟨[.agg cells], ⟨_, _, rfl, ⟨i, b, cells, h1, h2, h3, rfl⟩, rfl⟩, .inl ⟨_, rfl, rfl⟩⟩, fun _ _ hk => by simp at hk, rfl, hp⟩
theorem fin_c1 {p ty i b : Nat} {t : Tmp} {cells : List AVal} (h1 : e p = .own i b 0) (h2 : h i = some (.box b cells)) (h3 : chkAgg P ty cells.length = true) (hp : post (.tup [.agg cells, e t])) :
    fin P #[.cell p ty, .tmp t] (fun out mu' => mu' = [] ∧ post out) .ret e h :=
  ⟨.inl rfl, .tup [.agg cells, e t], [], ⟨[.agg cells, e t], ⟨_, _, rfl, ⟨i, b, cells, h1, h2, h3, rfl⟩, _, _, rfl, rfl, rfl⟩, .inr ⟨by simp, rfl⟩⟩, fun _ _ hk => by simp at hk, rfl, hp⟩
theorem fin_c2 {p ty i b : Nat} {t u : Tmp} {cells : List AVal} (h1 : e p = .own i b 0) (h2 : h i = some (.box b cells)) (h3 : chkAgg P ty cells.length = true) (hp : post (.tup [.agg cells, e t, e u])) :
    fin P #[.cell p ty, .tmp t, .tmp u] (fun out mu' => mu' = [] ∧ post out) .ret e h :=
  ⟨.inl rfl, .tup [.agg cells, e t, e u], [], ⟨[.agg cells, e t, e u], ⟨_, _, rfl, ⟨i, b, cells, h1, h2, h3, rfl⟩, _, _, rfl, rfl, _, _, rfl, rfl, rfl⟩, .inr ⟨by simp, rfl⟩⟩, fun _ _ hk => by simp at hk, rfl, hp⟩
end

end Go.Av
/-
Calls in a walk.
-/
namespace Go.Av
open Go.RowKit

section
variable {P : Program} {G : Glob} {n : Nat} {Q : Post} {e : Env} {h : Hp} {ops : Array Oper} {rest : List Oper} {a : Act} {w w' : World}

theorem St.xlt (st : St G n e h a w) {b : Nat} (hb : Xs G h b) : b < w.heap.size := by
  rcases hb with hb | hb | ⟨i, en, hi, hb⟩
  · exact Nat.lt_of_lt_of_le (st.zlt b hb) st.mod.size
  · exact Nat.lt_of_lt_of_le (st.mlt b hb) st.mod.size
  · exact (st.own i en hi).lt hb

/-- The world has got new blocks, and nothing else has turned. -/
theorem St.ext (st : St G n e h a w) (hm : Mod (fun _ => False) w w') : St G n e h a w' := by
  have hw : WLe (Xs G h) (Xs G h) w w' := ⟨hm.size, fun b hb hx => ⟨hx, hm.block b hb (fun f => f)⟩⟩
  exact {
    size := st.size
    defers := st.defers
    mod := ⟨hm.os.trans st.mod.os, hm.tape.trans st.mod.tape, hm.output.trans st.mod.output, Nat.le_trans st.mod.size hm.size,
      fun b hb hn => (hm.block b (Nat.lt_of_lt_of_le hb st.mod.size) (fun f => f)).trans (st.mod.block b hb hn)⟩
    env := fun t => Rel.mono hw (st.env t)
    own := fun i en hi => EntOk.mono hw (fun b hb => hm.block b ((st.own i en hi).lt hb) (fun f => f)) (st.own i en hi)
    old := st.old
    apart := st.apart
    zlt := st.zlt
    mlt := st.mlt
    ble := st.ble }

/-- The arguments of a call, abstractly. -/
def callIns (e : Env) (xs : List Operand) (caps : List AVal) : List AVal := (xs.map fun x => fl1 inn (ev e x)) ++ caps.map (fl1 fun _ => 0)

theorem St.relArgs (st : St G n e h a w) : ∀ {xs : List Operand}, xs.all canonO = true → RelL (Xs G h) G.B G.w0.heap.size w (xs.map (ev e)) (xs.map a.eval)
  | [], _ => by simp [RelL]
  | x :: xs, hc => by
    simp only [List.all_cons, Bool.and_eq_true] at hc
    simp only [List.map_cons, RelL]
    exact ⟨_, _, rfl, st.rel x hc.1, St.relArgs st hc.2⟩

theorem relL_append {X : Nat → Prop} {B C : Nat} {w : World} : ∀ {us vs : List AVal} {xs ys : List Value}, RelL X B C w us xs → RelL X B C w vs ys → RelL X B C w (us ++ vs) (xs ++ ys)
  | [], _, _, _, h1, h2 => by simp only [RelL] at h1; subst h1; simpa using h2
  | u :: us, vs, xs, ys, h1, h2 => by
    simp only [RelL] at h1
    obtain ⟨x, rest, rfl, h3, h4⟩ := h1
    simp only [List.cons_append, RelL]
    exact ⟨_, _, rfl, h3, relL_append h4 h2⟩

/-- At a call of a function value of the program. -/
theorem wp_callA {o : Oper} {fo : Operand} {xs : List Operand} {ts : Array TypeId} {f : FuncId} {arr : List Value} {K : Act → World → Prop} {Q' : Exit → Act → World → Prop}
    (ho : o.op = .call { callee := .value fo, args := xs.toArray, argTypes := ts }) [hk : CallT P f] (hf : a.eval fo = .func (.func f) #[] arr.toArray)
    (hc : Calls P f (xs.map a.eval ++ arr).toArray w fun en w' => ∃ x, en = .returned x ∧ K (a.put o.dst x) w') : o.wp P a w K Q' := by
  have hck := hk.ok
  unfold chkCall at hck
  cases hfn : P.funcs[f]? with
  | none => simp [hfn] at hck
  | some fn =>
    simp only [hfn, Bool.and_eq_true, Bool.not_eq_true'] at hck
    have hbody : fn.body.isNone = false := by cases hb : fn.body <;> simp_all
    have hrun : (execOp a.eval o).run P w = .ok (.enter f (xs.map a.eval ++ arr).toArray) w := by
      unfold execOp
      simp only [ho, resolve, hf, Deferred.ofValue, Sem.run_bind, Sem.run_pure, Result.andThen_ok, invoke, callFunc, run_program, hfn, hck.2, hbody, Bool.false_eq_true, if_false]
      simp
    unfold Oper.wp
    rw [hrun, Oper.upon_enter]
    exact hc.mono fun en w' ⟨x, h1, h2⟩ => by subst h1; exact h2

/-- A CALL BY ITS CONTRACT; no own block is lent. -/
theorem VL_call {d : Nat} {fo : Operand} {xs : List Operand} {ts : Array TypeId} {ty : TypeId} {pos : String} {after : Array Edge} {f : FuncId} {caps ins : List AVal} {post : AVal → Prop}
    (hf : ev e fo = .fn f caps) [CallT P f] (hins : callIns e xs caps = ins) (hc : Ct P f ins post) (hcan : xs.all canonO = true) (hcf : canonO fo = true) (hd : Nat.blt d n = true)
    (hk : ∀ out, post out → VL P G n ops rest Q (upd e d (fl2 outf out)) h) :
    VL P G n ops (⟨some d, .call { callee := .value fo, args := xs.toArray, argTypes := ts }, ty, pos, after, none⟩ :: rest) Q e h := fun a w st => by
  refine wpList_plain rfl fun K hK => ?_
  have h1 := st.rel fo hcf
  rw [hf] at h1; simp only [Rel] at h1
  obtain ⟨arr, harr, hcaps⟩ := h1
  refine wp_callA (arr := arr) rfl harr ?_
  have hblk : ∀ b, ¬ blks [] b := fun b ⟨en, h1, _⟩ => by cases h1
  have hX : ∀ b, (Xs G h b ∨ blks [] b) → Xs G h b := fun b hb => hb.resolve_right (hblk b)
  have hsz := st.mod.size
  have hargs : RelL (fun b => Xs G h b ∨ blks [] b) G.w0.heap.size w.heap.size w ins (xs.map a.eval ++ arr) := by
    rw [← hins]
    refine RelL.mono (WLe.shrink w hX) ?_
    unfold callIns
    refine relL_append ?_ ?_
    · have := RelL.map (B' := G.w0.heap.size) (C' := w.heap.size) (g := fl1 inn) (fun h => Rel.fl1 (by
        intro fr b _ h2 h3
        refine h2 ?_
        unfold inn at h3
        cases hq : Nat.beq fr 2 with
        | true => exact Nat.eq_of_beq_eq_true hq
        | false => simp [hq] at h3) (by
        intro fr b _ _ h3
        unfold inn at h3
        cases hq : Nat.beq fr 2 <;> simp [hq] at h3) (by
        intro fr h3 h0
        subst h0; exact h3 rfl) h) (st.relArgs hcan)
      simpa [Function.comp_def] using this
    · exact RelL.map (fun h => Rel.fl1 (by intro fr b _ _ h3; simp at h3) (by intro fr b _ _ h3; simp at h3) (by intro fr h3; exact absurd rfl h3) h) hcaps
  refine (hc w _ (Xs G h) G.w0.heap.size (fun b hb => st.xlt hb) hsz ⟨fun en hen => (by cases hen), fun b hb => absurd hb (hblk b), fun i j en em b hi => (by simp at hi)⟩ hargs).mono ?_
  rintro en w' ⟨x, out, mu', rfl, ⟨rfl, hp⟩, hm, _, hrel⟩
  refine ⟨x, rfl, hK _ _ ?_⟩
  have hm' : Mod (fun _ => False) w w' := ⟨hm.os, hm.tape, hm.output, hm.size, fun b hb _ => hm.block b hb (hblk b)⟩
  refine hk out hp _ _ (St.put (st.ext hm') d (by simpa using hd) _ x ?_)
  have hr2 : Rel (Xs G h) G.w0.heap.size w.heap.size w' out x := Rel.mono (WLe.shrink w' fun b hb => .inl hb) hrel
  refine Rel.fl2 ?_ ?_ (by intro fr h3 h0; subst h0; exact h3 rfl) hr2
  · intro fr b _ _ h3
    unfold outf at h3
    cases hq : Nat.beq fr 0 <;> simp [hq] at h3
    cases hq2 : Nat.ble fr 2 <;> simp [hq2] at h3
  · intro fr b h1 h2 h3
    unfold outf at h3
    cases hq : Nat.beq fr 0 with
    | true => simp [hq] at h3
    | false =>
      cases hq2 : Nat.ble fr 2 with
      | false => simp [hq, hq2] at h3
      | true =>
        have hne : fr ≠ 0 := fun hh => by subst hh; simp at hq
        have hle : fr ≤ 2 := by simpa using hq2
        by_cases h1' : fr = 1
        · exact h1 h1'
        · exact Nat.le_trans hsz (h2 (by omega))
end
end Go.Av
/-
Own blocks: new ones, and those that are written.
-/
namespace Go.Av
open Go.RowKit

section
variable {P : Program} {G : Glob} {n : Nat} {e : Env} {h : Hp} {a : Act} {w w1 : World}

/-- Entry 'j' goes, entry 'i' comes; only the block of 'j' may have been written. -/
theorem St.replEnt (st : St G n e h a w) (i j : Nat) (en : Ent) (os : w1.os = w.os) (tape : w1.tape = w.tape) (output : w1.output = w.output) (size : w.heap.size ≤ w1.heap.size)
    (hb : ∀ b, b < w.heap.size → (∀ en0, h j = some en0 → en0.blk ≠ some b) → w1.heap[b]? = w.heap[b]?)
    (hen : ∀ b, en.blk = some b → (∃ en0, h j = some en0 ∧ en0.blk = some b) ∨ w.heap.size ≤ b)
    (hok : EntOk (Xs G (upd (upd h j none) i (some en))) G.B G.w0.heap.size w1 en) : St G n e (upd (upd h j none) i (some en)) a w1 := by
  have hget : ∀ k ek, upd (upd h j none) i (some en) k = some ek → (k = i ∧ ek = en) ∨ (k ≠ i ∧ k ≠ j ∧ h k = some ek) := by
    intro k ek hk
    by_cases h1 : k = i
    · subst h1; rw [upd_same] at hk; exact .inl ⟨rfl, (Option.some.inj hk).symm⟩
    · rw [upd_other _ _ _ h1] at hk
      by_cases h2 : k = j
      · subst h2; rw [upd_same] at hk; cases hk
      · rw [upd_other _ _ _ h2] at hk; exact .inr ⟨h1, h2, hk⟩
  have hsub : ∀ b, b < w.heap.size → Xs G (upd (upd h j none) i (some en)) b → Xs G h b := by
    intro b hlt hx
    rcases hx with hx | hx | ⟨k, ek, hk, hbk⟩
    · exact .inl hx
    · exact .inr (.inl hx)
    · rcases hget k ek hk with ⟨rfl, rfl⟩ | ⟨_, _, hk'⟩
      · rcases hen b hbk with ⟨en0, h1, h2⟩ | h3
        · exact .inr (.inr ⟨j, en0, h1, h2⟩)
        · omega
      · exact .inr (.inr ⟨k, ek, hk', hbk⟩)
  have hw : WLe (Xs G h) (Xs G (upd (upd h j none) i (some en))) w w1 := ⟨size, fun b hlt hx => ⟨fun hx' => hx (hsub b hlt hx'), hb b hlt fun en0 h1 h2 => hx (.inr (.inr ⟨j, en0, h1, h2⟩))⟩⟩
  exact {
    size := st.size
    defers := st.defers
    mod := ⟨os.trans st.mod.os, tape.trans st.mod.tape, output.trans st.mod.output, Nat.le_trans st.mod.size size, fun b hlt hm => by
      rw [hb b (Nat.lt_of_lt_of_le hlt st.mod.size) (fun en0 h1 h2 => ?_)]
      · exact st.mod.block b hlt hm
      · rcases (st.old j en0 b h1 h2).2 with h3 | h3
        · exact hm h3
        · omega⟩
    env := fun t => Rel.mono hw (st.env t)
    own := fun k ek hk => by
      rcases hget k ek hk with ⟨rfl, rfl⟩ | ⟨_, hkj, hk'⟩
      · exact hok
      · refine EntOk.mono hw (fun b hbk => ?_) (st.own k ek hk')
        refine hb b ((st.own k ek hk').lt hbk) fun en0 h1 h2 => ?_
        exact hkj (st.apart k j ek en0 b hk' h1 hbk h2)
    old := fun k ek b hk hbk => by
      rcases hget k ek hk with ⟨rfl, rfl⟩ | ⟨_, _, hk'⟩
      · rcases hen b hbk with ⟨en0, h1, h2⟩ | h3
        · exact st.old j en0 b h1 h2
        · exact ⟨fun hz => by have h1 := st.zlt b hz; have h2 := st.mod.size; omega, .inr (Nat.le_trans st.mod.size h3)⟩
      · exact st.old k ek b hk' hbk
    apart := fun k l ek el b hk hl h1 h2 => by
      rcases hget k ek hk with ⟨rfl, rfl⟩ | ⟨hki, hkj, hk'⟩ <;> rcases hget l el hl with ⟨rfl, rfl⟩ | ⟨hli, hlj, hl'⟩
      · rfl
      · exfalso
        rcases hen b h1 with ⟨en0, h3, h4⟩ | h3
        · exact hlj (st.apart l j el en0 b hl' h3 h2 h4)
        · have := (st.own l el hl').lt h2; omega
      · exfalso
        rcases hen b h2 with ⟨en0, h3, h4⟩ | h3
        · exact hkj (st.apart k j ek en0 b hk' h3 h1 h4)
        · have := (st.own k ek hk').lt h1; omega
      · exact st.apart k l ek el b hk' hl' h1 h2
    zlt := st.zlt
    mlt := st.mlt
    ble := st.ble }

theorem upd_upd {α : Type} (f : Nat → α) (i : Nat) (x y : α) : upd (upd f i x) i y = upd f i y := by
  funext t
  by_cases ht : t = i
  · subst ht; rw [upd_same, upd_same]
  · rw [upd_other _ _ _ ht, upd_other _ _ _ ht, upd_other _ _ _ ht]

/-- A new entry at 'i' (what lay there is given up). -/
theorem St.newEnt (st : St G n e h a w) (i : Nat) (en : Ent) (os : w1.os = w.os) (tape : w1.tape = w.tape) (output : w1.output = w.output) (size : w.heap.size ≤ w1.heap.size)
    (hb : ∀ b, b < w.heap.size → w1.heap[b]? = w.heap[b]?) (hen : ∀ b, en.blk = some b → w.heap.size ≤ b)
    (hok : EntOk (Xs G (upd h i (some en))) G.B G.w0.heap.size w1 en) : St G n e (upd h i (some en)) a w1 := by
  have := St.replEnt (w1 := w1) st i i en os tape output size (fun b hlt _ => hb b hlt) (fun b hbk => .inr (hen b hbk)) (by rw [upd_upd]; exact hok)
  rwa [upd_upd] at this

/-- Entry 'i' is written. -/
theorem St.setEnt (st : St G n e h a w) (i : Nat) (en : Ent) (os : w1.os = w.os) (tape : w1.tape = w.tape) (output : w1.output = w.output) (size : w.heap.size ≤ w1.heap.size)
    (hb : ∀ b, b < w.heap.size → (∀ en0, h i = some en0 → en0.blk ≠ some b) → w1.heap[b]? = w.heap[b]?)
    (hen : ∀ b, en.blk = some b → (∃ en0, h i = some en0 ∧ en0.blk = some b) ∨ w.heap.size ≤ b)
    (hok : EntOk (Xs G (upd h i (some en))) G.B G.w0.heap.size w1 en) : St G n e (upd h i (some en)) a w1 := by
  have := St.replEnt (w1 := w1) st i i en os tape output size hb hen (by rw [upd_upd]; exact hok)
  rwa [upd_upd] at this

theorem wle_alloc {X X' : Nat → Prop} (w : World) (o : Obj) (hx : ∀ b, b < w.heap.size → X' b → X b) : WLe X X' w (w.alloc o) :=
  ⟨by simp, fun b hb hn => ⟨fun h => hn (hx b hb h), Below.heap_alloc w o b hb⟩⟩

/-- A new block that is nobody's: what it holds may be read. -/
theorem St.alloc (st : St G n e h a w) (o : Obj) : St G n e h a (w.alloc o) :=
  st.ext ⟨rfl, rfl, rfl, by simp, fun b hb _ => Below.heap_alloc w o b hb⟩

theorem xs_upd_new {b i : Nat} {en : Ent} (hb : b < w.heap.size) (hen : ∀ b, en.blk = some b → w.heap.size ≤ b) (hx : Xs G (upd h i (some en)) b) : Xs G h b := by
  rcases hx with hx | hx | ⟨k, ek, hk, hbk⟩
  · exact .inl hx
  · exact .inr (.inl hx)
  · by_cases hki : k = i
    · subst hki; rw [upd_same] at hk; obtain rfl := Option.some.inj hk; have := hen b hbk; omega
    · rw [upd_other _ _ _ hki] at hk; exact .inr (.inr ⟨k, ek, hk, hbk⟩)

/-- A box for new: its cells hold what the values say. -/
theorem St.box (st : St G n e h a w) (i ty : Nat) (cells : List AVal) (raws : List Value) (hr : RelL (Xs G h) G.B G.w0.heap.size w cells raws) :
    St G n e (upd h i (some (.box w.heap.size cells))) a (w.alloc (.cells raws.toArray ty)) := by
  have hen : ∀ b, (Ent.box w.heap.size cells).blk = some b → w.heap.size ≤ b := fun b hb => by
    simp only [Ent.blk, Option.some.injEq] at hb; omega
  refine st.newEnt i _ rfl rfl rfl (by simp) (fun b hb => Below.heap_alloc w _ b hb) hen ?_
  refine ⟨raws.toArray, ty, heap_alloc_new w _, ?_⟩
  exact RelL.mono (wle_alloc w _ fun b hb hx => xs_upd_new hb hen hx) (by simpa using hr)

/-- One cell of a box is written. -/
theorem relL_set {X : Nat → Prop} {B C : Nat} {w : World} : ∀ {us : List AVal} {xs : List Value} (i : Nat) {u : AVal} {x : Value}, RelL X B C w us xs → Rel X B C w u x → RelL X B C w (us.set i u) (xs.set i x)
  | [], _, _, _, _, h1, _ => by simp only [RelL] at h1; subst h1; simp [RelL]
  | v :: us, xs, i, u, x, h1, h2 => by
    simp only [RelL] at h1
    obtain ⟨y, rest, rfl, h3, h4⟩ := h1
    cases i with
    | zero => simp only [List.set_cons_zero, RelL]; exact ⟨_, _, rfl, h2, h4⟩
    | succ i => simp only [List.set_cons_succ, RelL]; exact ⟨_, _, rfl, h3, relL_set i h4 h2⟩

theorem wle_set {X : Nat → Prop} (w : World) (p : Addr) (v : Value) (hx : X p.block) : WLe X X w (w.setCell p v) :=
  ⟨by simp [World.setCell], fun b _ hn => ⟨hn, Below.heap_setCell w p v b (fun hh => hn (hh ▸ hx))⟩⟩

theorem xs_upd_same {i : Nat} {en0 en : Ent} (hi : h i = some en0) (hbk : en.blk = en0.blk) (b : Nat) : Xs G (upd h i (some en)) b ↔ Xs G h b := by
  constructor
  · rintro (hx | hx | ⟨k, ek, hk, hb⟩)
    · exact .inl hx
    · exact .inr (.inl hx)
    · by_cases hki : k = i
      · subst hki; rw [upd_same] at hk; obtain rfl := Option.some.inj hk; exact .inr (.inr ⟨k, en0, hi, by rw [← hbk]; exact hb⟩)
      · rw [upd_other _ _ _ hki] at hk; exact .inr (.inr ⟨k, ek, hk, hb⟩)
  · rintro (hx | hx | ⟨k, ek, hk, hb⟩)
    · exact .inl hx
    · exact .inr (.inl hx)
    · by_cases hki : k = i
      · subst hki; rw [hi] at hk; obtain rfl := Option.some.inj hk; exact .inr (.inr ⟨k, en, upd_same _ _ _, by rw [hbk]; exact hb⟩)
      · exact .inr (.inr ⟨k, ek, by rw [upd_other _ _ _ hki]; exact hk, hb⟩)

theorem St.store (st : St G n e h a w) {i b off : Nat} {cells : List AVal} (hi : h i = some (.box b cells)) (u : AVal) (x : Value)
    (hx : Rel (Xs G h) G.B G.w0.heap.size w u x) : St G n e (upd h i (some (.box b (cells.set off u)))) a (w.setCell ⟨b, off, none⟩ x) := by
  obtain ⟨cur, ty, h1, h2⟩ := st.own i _ hi
  have hX : Xs G h b := .inr (.inr ⟨i, _, hi, rfl⟩)
  have hiff := xs_upd_same (G := G) (en := .box b (cells.set off u)) hi rfl
  have hw : WLe (Xs G h) (Xs G (upd h i (some (.box b (cells.set off u))))) w (w.setCell ⟨b, off, none⟩ x) :=
    ⟨(wle_set w ⟨b, off, none⟩ x hX).1, fun b' hb' hn => ⟨fun hh => hn ((hiff b').1 hh), ((wle_set w ⟨b, off, none⟩ x hX).2 b' hb' hn).2⟩⟩
  refine st.setEnt i _ rfl rfl rfl (by simp [World.setCell]) (fun b' _ hne => Below.heap_setCell w _ _ b' (fun hh => hne _ hi (by simp [Ent.blk, hh]))) (fun b' hb' => .inl ⟨_, hi, hb'⟩) ?_
  refine ⟨cur.setIfInBounds off x, ty, ?_, ?_⟩
  · simp only [World.setCell, Array.getElem?_modify, if_true, h1, Option.map_some]
    simp
  · rw [Array.toList_setIfInBounds]
    exact relL_set off (RelL.mono hw h2) (Rel.mono hw hx)
end
end Go.Av
/-
Loads, addresses, lengths; boxes, stores, new slices, append.
-/
namespace Go.Av
open Go.RowKit

/-- Cells of floats, of integers. -/
def F32 (x : Nat) : AVal := .v (.float .f32 x)
def I64 (x : Int) : AVal := .v (.int .i64 x)
def fl (xs : List Nat) : List AVal := xs.map F32
def il (xs : List Int) : List AVal := xs.map I64
theorem fl_length (xs : List Nat) : (fl xs).length = xs.length := by simp [fl]
theorem il_length (xs : List Int) : (il xs).length = xs.length := by simp [il]
theorem fl_get {xs : List Nat} {i : Nat} (h : i < xs.length) : (fl xs)[i]? = some (.v (.float .f32 (xs.getD i 0))) := by
  simp [fl, F32, List.getElem?_map, List.getD_eq_getElem?_getD, List.getElem?_eq_getElem h]
theorem il_get {xs : List Int} {i : Nat} (h : i < xs.length) : (il xs)[i]? = some (.v (.int .i64 (xs.getD i 0))) := by
  simp [il, I64, List.getElem?_map, List.getD_eq_getElem?_getD, List.getElem?_eq_getElem h]

/-- A value that fits one cell. -/
def cellA : AVal → Bool
  | .v u => u.oneCell'
  | .sl .. | .ptr .. | .own .. | .orow .. | .fn .. => true
  | _ => false
theorem cellA_one {X : Nat → Prop} {B C : Nat} {w : World} {u : AVal} {x : Value} (hc : cellA u = true) (h : Rel X B C w u x) : x.oneCell' = true := by
  cases u <;> simp only [cellA, Rel] at hc h <;> try (cases hc; done)
  · subst h; cases x <;> simp_all [c0, Value.oneCell']
  · obtain ⟨a, cap, rfl, _⟩ := h; rfl
  · obtain ⟨b, off, rfl, _⟩ := h; rfl
  · subst h; rfl
  · obtain ⟨rfl, a, l, c, rfl⟩ := h; rfl
  · obtain ⟨arr, rfl, _⟩ := h; rfl

theorem relF_get {X : Nat → Prop} {B C : Nat} {w : World} : ∀ {us : List AVal} {rd : Nat → Option Value} {i : Nat} {u : AVal}, RelF X B C w us rd → us[i]? = some u → ∃ x, rd i = some x ∧ Rel X B C w u x
  | [], _, _, _, _, h2 => by simp at h2
  | v :: us, rd, i, u, h1, h2 => by
    simp only [RelF] at h1
    obtain ⟨h3, h4⟩ := h1
    cases i with
    | zero => simp at h2; subst h2; exact h3
    | succ i => simp at h2; exact relF_get (rd := fun j => rd (j + 1)) h4 h2
theorem relF_list {X : Nat → Prop} {B C : Nat} {w : World} : ∀ {us : List AVal} {rd : Nat → Option Value}, RelF X B C w us rd → ∃ xs : List Value, RelL X B C w us xs ∧ ∀ j, j < us.length → xs[j]? = rd j
  | [], _, _ => ⟨[], by simp [RelL], fun j hj => by simp at hj⟩
  | v :: us, rd, h1 => by
    simp only [RelF] at h1
    obtain ⟨⟨x, h3, h5⟩, h4⟩ := h1
    obtain ⟨xs, h6, h7⟩ := relF_list (rd := fun j => rd (j + 1)) h4
    refine ⟨x :: xs, by simp only [RelL]; exact ⟨_, _, rfl, h5, h6⟩, fun j hj => ?_⟩
    cases j with
    | zero => simpa using h3.symm
    | succ j => simpa using h7 j (by simpa using hj)
theorem relF_of_list {X : Nat → Prop} {B C : Nat} {w : World} : ∀ {us : List AVal} {xs : List Value} {rd : Nat → Option Value}, RelL X B C w us xs → (∀ j, j < us.length → rd j = xs[j]?) → RelF X B C w us rd
  | [], _, _, _, _ => by simp [RelF]
  | v :: us, xs, rd, h1, h2 => by
    simp only [RelL] at h1
    obtain ⟨x, rest, rfl, h3, h4⟩ := h1
    simp only [RelF]
    exact ⟨⟨x, by rw [h2 0 (by simp)]; rfl, h3⟩, relF_of_list h4 fun j hj => by rw [h2 (j + 1) (by simpa using hj)]; simp⟩
theorem relL_take {X : Nat → Prop} {B C : Nat} {w : World} : ∀ {us : List AVal} {xs : List Value} (k : Nat), RelL X B C w us xs → RelL X B C w (us.take k) (xs.take k)
  | [], _, k, h => by simp only [RelL] at h; subst h; simp [RelL]
  | v :: us, xs, 0, h => by simp [RelL]
  | v :: us, xs, k + 1, h => by
    simp only [RelL] at h
    obtain ⟨x, rest, rfl, h3, h4⟩ := h
    simp only [List.take_succ_cons, RelL]
    exact ⟨_, _, rfl, h3, relL_take k h4⟩
theorem relL_drop {X : Nat → Prop} {B C : Nat} {w : World} : ∀ {us : List AVal} {xs : List Value} (k : Nat), RelL X B C w us xs → RelL X B C w (us.drop k) (xs.drop k)
  | us, xs, 0, h => by simpa using h
  | [], _, k + 1, h => by simp only [RelL] at h; subst h; simp [RelL]
  | v :: us, xs, k + 1, h => by
    simp only [RelL] at h
    obtain ⟨x, rest, rfl, h3, h4⟩ := h
    simpa using relL_drop k h4

theorem addr_add (b o k : Nat) : (⟨b, o, none⟩ : Addr).add k = ⟨b, o + k, none⟩ := by unfold Addr.add; split <;> simp_all

theorem run_load_cell {P : Program} {w : World} {p : Addr} {x : Value} (hc : w.cell? p = some x) : (load p).run P w = .ok x w := by
  rw [run_load]; simp only [hc]

section
variable {P : Program} {G : Glob} {n : Nat} {e : Env} {h : Hp} {ty : TypeId}

/-! ### Loads -/

theorem op_load_p {t : TypeId} {x : Operand} {o : Nat} {cells : List AVal} {u : AVal} [ho : OneT P t] (hx : ev e x = .ptr o cells) (hu : cells[o]? = some u) (hcx : canonO x = true) (hf : flat0 u = true) :
    EvalOp P G n e h (.load t x) ty u := fun a w st _ _ _ _ => by
  have h1 := st.rel x hcx
  rw [hx] at h1; simp only [Rel] at h1
  obtain ⟨b, off, h2, _, _, h3⟩ := h1
  obtain ⟨y, h4, h5⟩ := relF_get h3 hu
  refine ⟨y, w, ?_, Same.refl w, Rel.flat hf h5⟩
  simp only [execOp, Instr.loadAt, h2, Instr.sureAddr, loadVar, Sem.run_bind, Sem.run_pure, Result.andThen_ok, run_isAgg_one, Bool.false_eq_true, if_false, run_load_cell h4]
theorem op_load_f {t : TypeId} {x : Operand} {o : Nat} {xs : List Nat} [OneT P t] (hx : ev e x = .ptr o (fl xs)) (hl : o < xs.length) (hcx : canonO x = true) :
    EvalOp P G n e h (.load t x) ty (.v (.float .f32 (xs.getD o 0))) := op_load_p hx (fl_get hl) hcx rfl
theorem op_load_i {t : TypeId} {x : Operand} {o : Nat} {xs : List Int} [OneT P t] (hx : ev e x = .ptr o (il xs)) (hl : o < xs.length) (hcx : canonO x = true) :
    EvalOp P G n e h (.load t x) ty (.v (.int .i64 (xs.getD o 0))) := op_load_p hx (il_get hl) hcx rfl

theorem cell_of_own {w : World} {b ty' : Nat} {cur : Array Value} {f : Nat × Nat} (h1 : w.heap[b]? = some (.cells cur ty' f)) (o : Nat) : w.cell? ⟨b, o, none⟩ = cur[o]? := by
  simp [World.cell?, h1]

theorem op_load_o {t : TypeId} {x : Operand} {i b o : Nat} {cells : List AVal} {u : AVal} [OneT P t] (hx : ev e x = .own i b o) (hi : h i = some (.box b cells)) (hu : cells[o]? = some u) (hcx : canonO x = true) :
    EvalOp P G n e h (.load t x) ty u := fun a w st _ _ _ _ => by
  have h1 := st.rel x hcx
  rw [hx] at h1; simp only [Rel] at h1
  obtain ⟨cur, ty', h2, h3⟩ := st.own i _ hi
  obtain ⟨y, h4, h5⟩ := relL_get h3 hu
  refine ⟨y, w, ?_, Same.refl w, h5⟩
  have hc : w.cell? ⟨b, o, none⟩ = some y := by rw [cell_of_own h2]; simpa using h4
  simp only [execOp, Instr.loadAt, h1, Instr.sureAddr, loadVar, Sem.run_bind, Sem.run_pure, Result.andThen_ok, run_isAgg_one, Bool.false_eq_true, if_false, run_load_cell hc]
/-- A whole struct out of its box. -/
theorem op_load_oa {t : TypeId} {x : Operand} {i b sz : Nat} {cells : List AVal} [ht : AggT P t sz] (hx : ev e x = .own i b 0) (hi : h i = some (.box b cells)) (hs : cells.length = sz) (hcx : canonO x = true) :
    EvalOp P G n e h (.load t x) ty (.agg cells) := fun a w st _ _ _ _ => by
  have h1 := st.rel x hcx
  rw [hx] at h1; simp only [Rel] at h1
  obtain ⟨cur, ty', h2, h3⟩ := st.own i _ hi
  have hl := relL_length h3
  have hc : chkAgg P t cur.size = true := by
    have : cur.size = sz := by rw [← hs, ← hl]; simp
    rw [this]; simp only [chkAgg, Bool.and_eq_true]; exact ⟨ht.ok, ht.sz⟩
  refine ⟨.agg cur, w, ?_, Same.refl w, by simp only [Rel]; exact ⟨cur.toList, by simp, h3⟩⟩
  simp only [execOp, Instr.loadAt, h1, Instr.sureAddr, Sem.run_bind, Sem.run_pure, Result.andThen_ok, run_loadVar_agg h2 hc]
/-- An element of an own row. -/
theorem op_load_r {t : TypeId} {x : Operand} {i b o ety sz m : Nat} {s : Value} {cells : List AVal} {u : AVal} [OneT P t] (hx : ev e x = .own i b o) (hi : h i = some (.row s ety sz m cells)) (hs : s.ownBlock = some b) (hu : cells[o]? = some u) (hcx : canonO x = true) :
    EvalOp P G n e h (.load t x) ty u := fun a w st _ _ _ _ => by
  have h1 := st.rel x hcx
  rw [hx] at h1; simp only [Rel] at h1
  obtain ⟨raws, h2, h3⟩ := st.own i _ hi
  obtain ⟨y, h4, h5⟩ := relL_get h3 hu
  refine ⟨y, w, ?_, Same.refl w, h5⟩
  have hc : w.cell? ⟨b, o, none⟩ = some y := by
    have := h2.cells hs o y h4
    rwa [addr_add, Nat.zero_add] at this
  simp only [execOp, Instr.loadAt, h1, Instr.sureAddr, loadVar, Sem.run_bind, Sem.run_pure, Result.andThen_ok, run_isAgg_one, Bool.false_eq_true, if_false, run_load_cell hc]

/-! ### Addresses -/

theorem fieldT_out {s k off : Nat} [hf : FieldT P s k off] : ∃ fs f i, P.underlying s = some (.struct fs) ∧ fs[k]? = some f ∧ f.offset = off ∧ P.info? f.type = some i ∧ i.size ≠ 0 := by
  have h1 := hf.ok
  unfold chkField chkUnder at h1
  cases hd : P.underlying s with
  | none => simp [hd] at h1
  | some d =>
    cases d <;> simp [hd] at h1
    rename_i fs
    cases hk : fs[k]? with
    | none => simp [hk] at h1
    | some f =>
      simp [hk, chkInfo] at h1
      cases hi : P.info? f.type with
      | none => simp [hi] at h1
      | some i => simp [hi] at h1; exact ⟨fs, f, i, rfl, hk, h1.1, hi, h1.2⟩
theorem run_fieldAt {s k off : Nat} [FieldT P s k off] (b o : Nat) (w : World) : (Instr.fieldAt s (.pointer (some ⟨b, o, none⟩)) k).run P w = .ok (.pointer (some ⟨b, o + off, none⟩)) w := by
  obtain ⟨fs, f, i, h1, h2, rfl, h4, h5⟩ := fieldT_out (P := P) (s := s) (k := k) (off := off)
  simp only [Instr.fieldAt, run_underlying h1, Sem.run_bind, Result.andThen_ok, h2, Instr.sureAddr, Sem.run_pure, fieldPlace, sizeOf, typeInfo, run_program, h4, h5, if_false, addr_add]
theorem op_field_p {s k off : Nat} {x : Operand} {o : Nat} {cells : List AVal} [FieldT P s k off] (hx : ev e x = .ptr o cells) (hcx : canonO x = true) :
    EvalOp P G n e h (.fieldAddr s x k) ty (.ptr (o + off) cells) := fun a w st _ _ _ _ => by
  have h1 := st.rel x hcx
  rw [hx] at h1; simp only [Rel] at h1
  obtain ⟨b, of, h2, h3, h4, h5⟩ := h1
  refine ⟨.pointer (some ⟨b, of + o + off, none⟩), w, ?_, Same.refl w, by simp only [Rel]; exact ⟨b, of, by rw [Nat.add_assoc], h3, h4, h5⟩⟩
  simp only [execOp, h2, run_fieldAt (P := P) (s := s) (k := k) (off := off), Sem.run_bind, Result.andThen_ok, Sem.run_pure]
theorem op_field_o {s k off : Nat} {x : Operand} {i b o : Nat} [FieldT P s k off] (hx : ev e x = .own i b o) (hcx : canonO x = true) :
    EvalOp P G n e h (.fieldAddr s x k) ty (.own i b (o + off)) := fun a w st _ _ _ _ => by
  have h1 := st.rel x hcx
  rw [hx] at h1; simp only [Rel] at h1
  refine ⟨_, w, ?_, Same.refl w, by simp only [Rel]; rfl⟩
  simp only [execOp, h1, run_fieldAt (P := P) (s := s) (k := k) (off := off), Sem.run_bind, Result.andThen_ok, Sem.run_pure]
theorem op_nilCheck_p {x : Operand} {o : Nat} {cells : List AVal} (hx : ev e x = .ptr o cells) (hcx : canonO x = true) : EvalOp P G n e h (.nilCheck x) ty (.ptr o cells) := fun a w st _ _ _ _ => by
  have h1 := st.rel x hcx
  rw [hx] at h1
  have h0 := h1
  simp only [Rel] at h1
  obtain ⟨b, of, h2, h3⟩ := h1
  exact ⟨.pointer (some ⟨b, of + o, none⟩), w, by simp [execOp, h2], Same.refl w, by rw [← h2]; exact h0⟩
theorem op_nilCheck_o {x : Operand} {i b o : Nat} (hx : ev e x = .own i b o) (hcx : canonO x = true) : EvalOp P G n e h (.nilCheck x) ty (.own i b o) := fun a w st _ _ _ _ => by
  have h1 := st.rel x hcx
  rw [hx] at h1
  simp only [Rel] at h1
  exact ⟨.pointer (some ⟨b, o, none⟩), w, by simp [execOp, h1], Same.refl w, by simp [Rel]⟩

theorem run_indexAt {t el sz : Nat} [hs : SliceT P t el] [SizeT P el sz] (b o len cap : Nat) (i : Int) (h0 : 0 ≤ i) (h1 : i < len) (w : World) :
    (Instr.indexAt t (.slice (some ⟨b, o, none⟩) len cap) (.int .i64 i)).run P w = .ok (.pointer (some ⟨b, o + i.toNat * sz, none⟩)) w := by
  obtain ⟨inf, h2, h3⟩ := SizeT.size (P := P) (t := el) (sz := sz)
  simp only [Instr.indexAt, asIntOf, Sem.run_bind, Sem.run_pure, Result.andThen_ok, run_underlying hs.ok]
  simp [h0, h1, sizeOf, typeInfo, h2, h3, addr_add]
theorem op_index {t el sz : Nat} {x ix : Operand} {fr m : Nat} {i : Int} {cells : List AVal} [SliceT P t el] [SizeT P el sz] (hx : ev e x = .sl fr m cells) (hi : ev e ix = .v (.int .i64 i)) (h0 : 0 ≤ i ∧ i < m) (hcx : canonO x = true) (hci : canonO ix = true) :
    EvalOp P G n e h (.indexAddr t x ix) ty (.ptr (i.toNat * sz) cells) := fun a w st _ _ _ _ => by
  have h1 := st.rel x hcx
  have h2 := st.rel ix hci
  rw [hx] at h1; rw [hi] at h2; simp only [Rel] at h1 h2
  obtain ⟨ad, cap, h3, h4⟩ := h1
  rcases h4 with ⟨h4, _⟩ | ⟨b, off, rfl, h5, h6, h7, h8, _, h9⟩
  · omega
  · refine ⟨_, w, ?_, Same.refl w, by simp only [Rel]; exact ⟨b, off, rfl, h5, h6, h9⟩⟩
    simp only [execOp, h3, c0_int h2, run_indexAt (P := P) (sz := sz) b off m cap i h0.1 h0.2, Sem.run_bind, Result.andThen_ok, Sem.run_pure]
/-- An index that is a natural number, elements of one cell. -/
theorem op_index1 {t el : Nat} {x ix : Operand} {fr m : Nat} {i : Nat} {cells : List AVal} [SliceT P t el] [SizeT P el 1] (hx : ev e x = .sl fr m cells) (hi : ev e ix = .v (.int .i64 (i : Int))) (h0 : i < m) (hcx : canonO x = true) (hci : canonO ix = true) :
    EvalOp P G n e h (.indexAddr t x ix) ty (.ptr i cells) := by
  have := op_index (P := P) (G := G) (n := n) (h := h) (ty := ty) (t := t) (sz := 1) hx hi ⟨by omega, by omega⟩ hcx hci
  simpa using this
theorem op_index1' {t el : Nat} {x ix : Operand} {fr m : Nat} {i : Int} {cells : List AVal} [SliceT P t el] [SizeT P el 1] (hx : ev e x = .sl fr m cells) (hi : ev e ix = .v (.int .i64 i)) (h0 : 0 ≤ i ∧ i < m) (hcx : canonO x = true) (hci : canonO ix = true) :
    EvalOp P G n e h (.indexAddr t x ix) ty (.ptr i.toNat cells) := by
  have := op_index (P := P) (G := G) (n := n) (h := h) (ty := ty) (t := t) (sz := 1) hx hi h0 hcx hci
  simpa using this

/-! ### Lengths -/

theorem run_len {t el : Nat} [hs : SliceT P t el] (a : Option Addr) (m cap : Nat) (w : World) : (Builtin.len_ #[t] ty #[.slice a m cap]).run P w = .ok (.int .i64 m) w := by
  simp [Builtin.len_, run_underlying hs.ok, goInt]
theorem op_len {t el : Nat} {x : Operand} {fr m : Nat} {cells : List AVal} [SliceT P t el] (hx : ev e x = .sl fr m cells) (hcx : canonO x = true) :
    EvalOp P G n e h (.call { callee := .builtin .len, args := #[x], argTypes := #[t] }) ty (.v (.int .i64 m)) := fun a w st _ _ _ _ => by
  have h1 := st.rel x hcx
  rw [hx] at h1; simp only [Rel] at h1
  obtain ⟨ad, cap, h3, _⟩ := h1
  refine ⟨.int .i64 m, w, ?_, Same.refl w, by simp [Rel, c0]⟩
  simp [execOp, resolve, invoke, builtin, h3, run_len (P := P) (t := t)]
theorem op_len_nil {t el : Nat} {x : Operand} [SliceT P t el] (hx : ev e x = .v (.slice none 0 0)) (hcx : canonO x = true) :
    EvalOp P G n e h (.call { callee := .builtin .len, args := #[x], argTypes := #[t] }) ty (.v (.int .i64 0)) := fun a w st _ _ _ _ => by
  have h1 := st.rel x hcx
  rw [hx] at h1; simp only [Rel] at h1
  have h3 := c0_other h1 (by intro k b; simp)
  refine ⟨.int .i64 0, w, ?_, Same.refl w, by simp [Rel, c0]⟩
  simp [execOp, resolve, invoke, builtin, h3, run_len (P := P) (t := t)]
theorem ownsRow_slice {w : World} {base ety sz m : Nat} {s : Value} {raws : List Value} (h1 : w.ownsRow base ety sz s m raws) : ∃ a c, s = .slice a m c := by
  rcases h1.2 with ⟨rfl, rfl⟩ | ⟨g, cap, cur, rfl, _⟩
  · exact ⟨_, _, rfl⟩
  · exact ⟨_, _, rfl⟩
theorem op_len_o {t el : Nat} {x : Operand} {i ety sz m : Nat} {s : Value} {cells : List AVal} [SliceT P t el] (hx : ev e x = .orow i s) (hi : h i = some (.row s ety sz m cells)) (hcx : canonO x = true) :
    EvalOp P G n e h (.call { callee := .builtin .len, args := #[x], argTypes := #[t] }) ty (.v (.int .i64 m)) := fun a w st _ _ _ _ => by
  have h1 := st.rel x hcx
  rw [hx] at h1; simp only [Rel] at h1
  obtain ⟨raws, h2, _⟩ := st.own i _ hi
  obtain ⟨ad, cap, rfl⟩ := ownsRow_slice h2
  refine ⟨.int .i64 m, w, ?_, Same.refl w, by simp [Rel, c0]⟩
  simp [execOp, resolve, invoke, builtin, h1.1, run_len (P := P) (t := t)]

/-- A function value that catches variables. -/
theorem op_makeFunc {f : FuncId} {caps : List Operand} (hc : caps.all canonO = true) :
    EvalOp P G n e h (.makeFunc (.func f) #[] caps.toArray) ty (.fn f (caps.map (ev e))) := fun a w st _ _ _ _ => by
  refine ⟨.func (.func f) #[] (caps.map a.eval).toArray, w, by simp [execOp, Instr.makeFunc], Same.refl w, ?_⟩
  simp only [Rel]
  exact ⟨caps.map a.eval, rfl, (st.relArgs hc).lower⟩
end
end Go.Av
/-
New blocks, stores, append.
-/
namespace Go.Av
open Go.RowKit

/-- The zero value's cells. -/
class ZeroT (P : Program) (t : TypeId) (zs : outParam (List Value)) : Prop where
  ok : ∃ i z, P.info? t = some i ∧ i.zero = some z ∧ z.cells.toList = zs ∧ zs.all canonV = true
/-- Element types: size in cells, bytes, zero. -/
class ElemT (P : Program) (t : TypeId) (sz bytes : outParam Nat) (z : outParam Value) : Prop where
  ok : ∃ i, P.info? t = some i ∧ i.size = sz ∧ i.bytes = bytes ∧ i.zero = some z
  szz : z.cells.size = sz
  pos : 0 < sz

section
variable {P : Program} {G : Glob} {n : Nat} {Q : Post} {e : Env} {h : Hp} {ops : Array Oper} {rest : List Oper} {d : Nat} {ty : TypeId} {pos : String} {after : Array Edge}

theorem wpl_value {o : Oper} {a a' : Act} {w w' : World} {x : Value} {Q' : Exit → Act → World → Prop} (hg : o.guard = none) (hr : (execOp a.eval o).run P w = .ok (.value x) w') (he : a.put o.dst x = a')
    (hk : wpList P ops Q' rest a' w') : wpList P ops Q' (o :: rest) a w := by
  refine wpList_plain hg fun K hK => ?_
  unfold Oper.wp
  rw [hr]
  subst he
  exact hK _ _ hk
theorem wpl_skip {o : Oper} {a : Act} {w w' : World} {Q' : Exit → Act → World → Prop} (hg : o.guard = none) (hd : o.dst = none) (hr : (execOp a.eval o).run P w = .ok .skip w')
    (hk : wpList P ops Q' rest a w') : wpList P ops Q' (o :: rest) a w := by
  refine wpList_plain hg fun K hK => ?_
  unfold Oper.wp
  rw [hr, Oper.upon_skip, hd]
  exact hK _ _ hk

/-- 'x' put into a new box. -/
theorem VL_box_agg {el : TypeId} {x : Operand} {cells : List AVal} (hx : ev e x = .agg cells) (hcx : canonO x = true) (hd : Nat.blt d n = true)
    (hk : ∀ b, VL P G n ops rest Q (upd e d (.own d b 0)) (upd h d (some (.box b cells)))) : VL P G n ops (⟨some d, .box el x, ty, pos, after, none⟩ :: rest) Q e h := fun a w st => by
  have h1 := st.rel x hcx
  rw [hx] at h1; simp only [Rel] at h1
  obtain ⟨arr, h2, h3⟩ := h1
  have hr : (execOp a.eval ⟨some d, .box el x, ty, pos, after, none⟩).run P w = .ok (.value (.pointer (some ⟨w.heap.size, 0, none⟩))) (w.alloc (.cells arr.toArray el)) := by
    simp [execOp, h2, Instr.box, newVar, newRow, Value.cells]
  exact wpl_value rfl hr rfl (hk w.heap.size _ _ (St.put (st.box d el cells arr h3) d (by simpa using hd) _ _ (by simp [Rel])))
theorem VL_box_one {el : TypeId} {x : Operand} {u : AVal} (hx : ev e x = u) (hu : cellA u = true) (hcx : canonO x = true) (hd : Nat.blt d n = true)
    (hk : ∀ b, VL P G n ops rest Q (upd e d (.own d b 0)) (upd h d (some (.box b [u])))) : VL P G n ops (⟨some d, .box el x, ty, pos, after, none⟩ :: rest) Q e h := fun a w st => by
  have h1 := st.rel x hcx
  rw [hx] at h1
  have hone := cellA_one hu h1
  have hcell : (a.eval x).cells = #[a.eval x] := by
    generalize a.eval x = y at hone
    cases y <;> simp [Value.oneCell'] at hone <;> rfl
  have hr : (execOp a.eval ⟨some d, .box el x, ty, pos, after, none⟩).run P w = .ok (.value (.pointer (some ⟨w.heap.size, 0, none⟩))) (w.alloc (.cells [a.eval x].toArray el)) := by
    simp [execOp, Instr.box, newVar, newRow, hcell]
  exact wpl_value rfl hr rfl (hk w.heap.size _ _ (St.put (st.box d el [u] [a.eval x] (by simp only [RelL]; exact ⟨_, _, rfl, h1, rfl⟩)) d (by simpa using hd) _ _ (by simp [Rel])))

theorem relL_zero {X : Nat → Prop} {B C : Nat} {w : World} : ∀ {zs : List Value}, zs.all canonV = true → RelL X B C w (zs.map AVal.v) zs
  | [], _ => by simp [RelL]
  | z :: zs, hz => by
    simp only [List.all_cons, Bool.and_eq_true] at hz
    simp only [List.map_cons, RelL]
    exact ⟨_, _, rfl, by simp only [Rel]; exact c0_of_canon hz.1, relL_zero hz.2⟩

theorem VL_alloc {el : TypeId} {zs : List Value} [hz : ZeroT P el zs] (hd : Nat.blt d n = true)
    (hk : ∀ b, VL P G n ops rest Q (upd e d (.own d b 0)) (upd h d (some (.box b (zs.map AVal.v))))) : VL P G n ops (⟨some d, .alloc el, ty, pos, after, none⟩ :: rest) Q e h := fun a w st => by
  obtain ⟨i, z, h1, h2, h3, h4⟩ := hz.ok
  have hr : (execOp a.eval ⟨some d, .alloc el, ty, pos, after, none⟩).run P w = .ok (.value (.pointer (some ⟨w.heap.size, 0, none⟩))) (w.alloc (.cells zs.toArray el)) := by
    simp [execOp, Instr.alloc, zeroValue, typeInfo, h1, h2, newVar, newRow, ← h3]
  exact wpl_value rfl hr rfl (hk w.heap.size _ _ (St.put (st.box d el _ zs (relL_zero h4)) d (by simpa using hd) _ _ (by simp [Rel])))

/-- A store into a box's cell. -/
theorem VL_store {t : TypeId} {p x : Operand} {i b off : Nat} {cells : List AVal} {u : AVal} [hs : SizeT P t 1] (hp : ev e p = .own i b off) (hi : h i = some (.box b cells)) (hl : Nat.blt off cells.length = true) (hx : ev e x = u) (hu : cellA u = true)
    (hcp : canonO p = true) (hcx : canonO x = true)
    (hk : VL P G n ops rest Q e (upd h i (some (.box b (cells.set off u))))) : VL P G n ops (⟨none, .store t p x, ty, pos, after, none⟩ :: rest) Q e h := fun a w st => by
  have h1 := st.rel p hcp
  have h2 := st.rel x hcx
  rw [hp] at h1; rw [hx] at h2; simp only [Rel] at h1
  have hone := cellA_one hu h2
  have hcell : (a.eval x).cells = #[a.eval x] := by
    generalize a.eval x = y at hone
    cases y <;> simp [Value.oneCell'] at hone <;> rfl
  obtain ⟨cur, ty', h3, h4⟩ := st.own i _ hi
  obtain ⟨inf, h5, h6⟩ := SizeT.size (P := P) (t := t) (sz := 1)
  have hlen := relL_length h4
  have hlt : off < cur.size := by have : off < cells.length := by simpa using hl
                                  simp at hlen; omega
  have hr : (execOp a.eval ⟨none, .store t p x, ty, pos, after, none⟩).run P w = .ok .skip (w.setCell ⟨b, off, none⟩ (a.eval x)) := by
    have hc : w.cell? ⟨b, off, none⟩ = some cur[off] := by rw [cell_of_own h3]; simp [hlt]
    have hfz : w.frozen? ⟨b, off, none⟩ = false := by simp [World.frozen?, h3]
    simp only [execOp, Instr.storeAt, h1, Instr.sureAddr, storeVar, Sem.run_bind, Sem.run_pure, Result.andThen_ok, sizeOf, typeInfo, run_program, h5, h6, hcell]
    simp [storeCells, run_store P w _ _ _ hone, hc, hfz, addr_add]
  exact wpl_skip rfl rfl hr (hk _ _ (st.store hi u _ h2))

/-- A whole struct put into its box. -/
theorem VL_store_agg {t : TypeId} {p x : Operand} {i b sz : Nat} {cells cells' : List AVal} [hs : AggT P t sz] (hp : ev e p = .own i b 0) (hi : h i = some (.box b cells)) (hl : cells.length = sz) (hx : ev e x = .agg cells') (hl' : cells'.length = sz) (hu : cells'.all cellA = true)
    (hcp : canonO p = true) (hcx : canonO x = true)
    (hk : VL P G n ops rest Q e (upd h i (some (.box b cells')))) : VL P G n ops (⟨none, .store t p x, ty, pos, after, none⟩ :: rest) Q e h := fun a w st => by
  have h1 := st.rel p hcp
  have h2 := st.rel x hcx
  rw [hp] at h1; rw [hx] at h2; simp only [Rel] at h1 h2
  obtain ⟨arr, harr, h7⟩ := h2
  obtain ⟨cur, ty', h3, h4⟩ := st.own i _ hi
  obtain ⟨inf, h5, h6⟩ := AggT.size (P := P) (t := t) (sz := sz)
  have hlen := relL_length h4
  have hlen' := relL_length h7
  have hcs : cur.size = arr.length := by simp at hlen; omega
  have hone : ∀ {us : List AVal} {xs : List Value}, us.all cellA = true → RelL (Xs G h) G.B G.w0.heap.size w us xs → ∀ x ∈ xs, x.oneCell' = true := by
    intro us
    induction us with
    | nil => intro xs _ hr x hx; simp only [RelL] at hr; subst hr; cases hx
    | cons u us ih =>
      intro xs hc hr x hx
      simp only [List.all_cons, Bool.and_eq_true] at hc
      simp only [RelL] at hr
      obtain ⟨y, rs, rfl, h8, h9⟩ := hr
      rcases List.mem_cons.1 hx with rfl | hx
      · exact cellA_one hc.1 h8
      · exact ih hc.2 h9 x hx
  have hst := run_storeCells_at P b 0 ty' arr 0 cur w h3 (by omega) (hone hu h7)
  simp only [Nat.add_zero, List.take_zero, List.nil_append, Nat.zero_add] at hst
  have hdrop : cur.toList.drop arr.length = [] := List.drop_eq_nil_of_le (by simp; omega)
  rw [hdrop, List.append_nil] at hst
  have hr : (execOp a.eval ⟨none, .store t p x, ty, pos, after, none⟩).run P w = .ok .skip (w.setRow b arr.toArray) := by
    simp only [execOp, Instr.storeAt, h1, Instr.sureAddr, storeVar, Sem.run_bind, Sem.run_pure, Result.andThen_ok, sizeOf, typeInfo, run_program, h5, h6, harr, Value.cells]
    have : arr.toArray.size = sz := by simp; omega
    simp [this, hst]
  refine wpl_skip rfl rfl hr (hk _ _ ?_)
  have hX : Xs G h b := .inr (.inr ⟨i, _, hi, rfl⟩)
  have hiff := xs_upd_same (G := G) (en := .box b cells') hi rfl
  have hother : ∀ b', b' ≠ b → (w.setRow b arr.toArray).heap[b']? = w.heap[b']? := fun b' hne => setRow_other w b b' _ hne
  have hw : WLe (Xs G h) (Xs G (upd h i (some (.box b cells')))) w (w.setRow b arr.toArray) :=
    ⟨by simp, fun b' _ hn => ⟨fun hh => hn ((hiff b').1 hh), hother b' (fun hh => hn (hh ▸ hX))⟩⟩
  refine st.setEnt i _ rfl rfl rfl (by simp) (fun b' _ hne => hother b' (fun hh => hne _ hi (by simp [Ent.blk, hh]))) (fun b' hb' => .inl ⟨_, hi, hb'⟩) ?_
  exact ⟨arr.toArray, ty', setRow_heap w b cur _ ty' _ h3, by simpa using RelL.mono hw h7⟩

/-- A store into an own row's cell. -/
theorem VL_store_r {t : TypeId} {p x : Operand} {i b off ety sz m : Nat} {s : Value} {cells : List AVal} {u : AVal} [hs : SizeT P t 1] (hp : ev e p = .own i b off) (hi : h i = some (.row s ety sz m cells)) (hsb : s.ownBlock = some b) (hl : off < cells.length) (hx : ev e x = u) (hu : cellA u = true)
    (hcp : canonO p = true) (hcx : canonO x = true)
    (hk : VL P G n ops rest Q e (upd h i (some (.row s ety sz m (cells.set off u))))) : VL P G n ops (⟨none, .store t p x, ty, pos, after, none⟩ :: rest) Q e h := fun a w st => by
  have h1 := st.rel p hcp
  have h2 := st.rel x hcx
  rw [hp] at h1; rw [hx] at h2; simp only [Rel] at h1
  have hone := cellA_one hu h2
  have hcell : (a.eval x).cells = #[a.eval x] := by
    generalize a.eval x = y at hone
    cases y <;> simp [Value.oneCell'] at hone <;> rfl
  obtain ⟨raws, h3, h4⟩ := st.own i _ hi
  have hlen := relL_length h4
  obtain ⟨inf, h5, h6⟩ := SizeT.size (P := P) (t := t) (sz := 1)
  have hex : ∃ cap cur, s = .slice (some ⟨b, 0, none⟩) m cap ∧ w.heap[b]? = some (.cells cur ety (0, 0)) ∧ m ≤ cap ∧ cap ≤ maxLen ∧ cur.size = cap * sz ∧ cur.toList.take (m * sz) = raws := by
    rcases h3.2 with ⟨rfl, _⟩ | ⟨g, cap, cur, rfl, _, hg, r⟩
    · simp [Value.ownBlock] at hsb
    · simp [Value.ownBlock] at hsb; subst hsb; exact ⟨cap, cur, rfl, hg, r⟩
  obtain ⟨cap, cur, hsv, hg, hmc, hcap, hcs, htake⟩ := hex
  have hoff : off < raws.length := by omega
  have hoff2 : off < m * sz := by rw [← h3.1]; exact hoff
  have hlt : off < cur.size := by rw [hcs]; exact Nat.lt_of_lt_of_le hoff2 (Nat.mul_le_mul_right _ hmc)
  have hr : (execOp a.eval ⟨none, .store t p x, ty, pos, after, none⟩).run P w = .ok .skip (w.setCell ⟨b, off, none⟩ (a.eval x)) := by
    have hc : w.cell? ⟨b, off, none⟩ = some cur[off] := by rw [cell_of_own hg]; simp [hlt]
    have hfz : w.frozen? ⟨b, off, none⟩ = false := by simp [World.frozen?, hg]
    simp only [execOp, Instr.storeAt, h1, Instr.sureAddr, storeVar, Sem.run_bind, Sem.run_pure, Result.andThen_ok, sizeOf, typeInfo, run_program, h5, h6, hcell]
    simp [storeCells, run_store P w _ _ _ hone, hc, hfz, addr_add]
  refine wpl_skip rfl rfl hr (hk _ _ ?_)
  have hX : Xs G h b := .inr (.inr ⟨i, _, hi, hsb⟩)
  have hiff := xs_upd_same (G := G) (en := .row s ety sz m (cells.set off u)) hi rfl
  have hw : WLe (Xs G h) (Xs G (upd h i (some (.row s ety sz m (cells.set off u))))) w (w.setCell ⟨b, off, none⟩ (a.eval x)) :=
    ⟨(wle_set w ⟨b, off, none⟩ _ hX).1, fun b' hb' hn => ⟨fun hh => hn ((hiff b').1 hh), ((wle_set w ⟨b, off, none⟩ (a.eval x) hX).2 b' hb' hn).2⟩⟩
  refine st.setEnt i _ rfl rfl rfl (by simp [World.setCell]) (fun b' _ hne => Below.heap_setCell w _ _ b' (fun hh => hne _ hi (by simp [Ent.blk, hsb, hh]))) (fun b' hb' => .inl ⟨_, hi, hb'⟩) ?_
  refine ⟨raws.set off (a.eval x), ⟨by simpa using h3.1, .inr ⟨b, cap, cur.setIfInBounds off (a.eval x), hsv, Nat.zero_le _, ?_, hmc, hcap, by simpa using hcs, ?_⟩⟩, relL_set off (RelL.mono hw h4) (Rel.mono hw h2)⟩
  · simp only [World.setCell, Array.getElem?_modify, if_true, hg, Option.map_some]
    simp
  · rw [Array.toList_setIfInBounds, ← htake, List.take_set]

/-- An element's address in an own row. -/
theorem VL_index_r {t el sz : Nat} {x ix : Operand} {j ety m : Nat} {s : Value} {i : Int} {cells : List AVal} [SliceT P t el] [SizeT P el sz] (hx : ev e x = .orow j s) (hj : h j = some (.row s ety sz m cells)) (hi : ev e ix = .v (.int .i64 i)) (h0 : 0 ≤ i ∧ i < m) (hcx : canonO x = true) (hci : canonO ix = true) (hd : Nat.blt d n = true)
    (hk : ∀ b, s.ownBlock = some b → VL P G n ops rest Q (upd e d (.own j b (i.toNat * sz))) h) : VL P G n ops (⟨some d, .indexAddr t x ix, ty, pos, after, none⟩ :: rest) Q e h := fun a w st => by
  have h1 := st.rel x hcx
  have h2 := st.rel ix hci
  rw [hx] at h1; rw [hi] at h2; simp only [Rel] at h1 h2
  obtain ⟨raws, h3, h4⟩ := st.own j _ hj
  rcases h3.2 with ⟨_, h5⟩ | ⟨g, cap, cur, hsv, _, hg, r⟩
  · omega
  · have hr : (execOp a.eval ⟨some d, .indexAddr t x ix, ty, pos, after, none⟩).run P w = .ok (.value (.pointer (some ⟨g, i.toNat * sz, none⟩))) w := by
      have := run_indexAt (P := P) (t := t) (el := el) (sz := sz) g 0 m cap i h0.1 h0.2 w
      simp only [execOp, h1.1, hsv, c0_int h2, this, Sem.run_bind, Result.andThen_ok, Sem.run_pure, Nat.zero_add]
    exact wpl_value rfl hr rfl (hk g (by rw [hsv]; rfl) _ _ (st.put d (by simpa using hd) _ _ (by simp [Rel])))

theorem cells_one (z : Value) (h : z.cells.size = 1) : z.cells.toList = [z.cells[0]!] := by
  have : ∀ (l : Array Value), l.size = 1 → l.toList = [l[0]!] := fun l hl => by
    match l, hl with
    | ⟨[x]⟩, _ => rfl
  exact this _ h

/-- make([]T, n): a row of zeros. -/
theorem VL_make {t el bytes : Nat} {z : Value} {l c : Operand} {m : Nat} [hs : SliceT P t el] [hel : ElemT P el 1 bytes z] (hl : ev e l = .v (.int .i64 (m : Int))) (hc : ev e c = .v (.int .i64 (m : Int)))
    (hz : canonV z = true) (hz1 : z.oneCell' = true) (hb : bytes * m ≤ 281474976710656) (hm : m ≤ 9223372036854775807) (hcl : canonO l = true) (hcc : canonO c = true) (hd : Nat.blt d n = true)
    (hk : ∀ s, VL P G n ops rest Q (upd e d (.orow d s)) (upd h d (some (.row s el 1 m (List.replicate m (.v z)))))) : VL P G n ops (⟨some d, .makeSlice t l c, ty, pos, after, none⟩ :: rest) Q e h := fun a w st => by
  have h1 := st.rel l hcl
  have h2 := st.rel c hcc
  rw [hl] at h1; rw [hc] at h2; simp only [Rel] at h1 h2
  obtain ⟨i, hi1, hi2, hi3, hi4⟩ := hel.ok
  have hb' : (i.bytes : Int) * (m : Int) ≤ 281474976710656 := by
    rw [hi3]
    have : ((bytes * m : Nat) : Int) ≤ 281474976710656 := by omega
    rwa [Int.natCast_mul] at this
  have hrun := run_make (P := P) w t el i z hs.ok hi1 hi4 .i64 .i64 m m (by omega) (Int.le_refl _) hb' (by omega)
  simp only [Int.toNat_natCast, hi2, Nat.mul_one] at hrun
  have hr : (execOp a.eval ⟨some d, .makeSlice t l c, ty, pos, after, none⟩).run P w = .ok (.value (.slice (some ⟨w.heap.size, 0, none⟩) m m)) (w.alloc (.cells (madeCells z.cells m) el)) := by
    simp only [execOp, c0_int h1, c0_int h2, hrun, Sem.run_bind, Result.andThen_ok, Sem.run_pure]
  have hzc : z.cells = #[z] := by cases z <;> simp [Value.oneCell'] at hz1 <;> rfl
  have hcells : (madeCells z.cells m).toList = List.replicate m z := by
    rw [hzc]
    apply List.ext_getElem
    · simp [madeCells]
    · intro k hk1 hk2
      simp [madeCells, Nat.mod_one]
  have hen : ∀ b, (Ent.row (.slice (some ⟨w.heap.size, 0, none⟩) m m) el 1 m (List.replicate m (.v z))).blk = some b → w.heap.size ≤ b := fun b hb => by
    simp [Ent.blk, Value.ownBlock] at hb; omega
  refine wpl_value rfl hr rfl (hk _ _ _ (St.put (St.newEnt (w1 := w.alloc (.cells (madeCells z.cells m) el)) st d _ rfl rfl rfl (by simp) (fun b hb => Below.heap_alloc w _ b hb) hen ?_) d (by simpa using hd) _ _ (by simp [Rel])))
  refine ⟨List.replicate m z, ⟨by simp, .inr ⟨w.heap.size, m, madeCells z.cells m, rfl, Nat.zero_le _, heap_alloc_new w _, Nat.le_refl _, by unfold maxLen; omega, by simp [madeCells], by rw [hcells]; simp⟩⟩, ?_⟩
  have : ∀ k, RelL (Xs G (upd h d (some (Ent.row (.slice (some ⟨w.heap.size, 0, none⟩) m m) el 1 m (List.replicate m (.v z)))))) G.B G.w0.heap.size (w.alloc (.cells (madeCells z.cells m) el)) (List.replicate k (.v z)) (List.replicate k z) := by
    intro k
    induction k with
    | zero => simp [RelL]
    | succ k ih => simp only [List.replicate_succ, RelL]; exact ⟨_, _, rfl, by simp only [Rel]; exact c0_of_canon hz, ih⟩
  exact this m

/-- A literal of no element: an own row. -/
theorem VL_lit0 {t el bytes sz : Nat} {z : Value} [hs : SliceT P t el] [hel : ElemT P el sz bytes z] (hd : Nat.blt d n = true)
    (hk : ∀ s, VL P G n ops rest Q (upd e d (.orow d s)) (upd h d (some (.row s el sz 0 [])))) : VL P G n ops (⟨some d, .buildSlice t 0 #[], ty, pos, after, none⟩ :: rest) Q e h := fun a w st => by
  obtain ⟨i, hi1, hi2, hi3, hi4⟩ := hel.ok
  have hr : (execOp a.eval ⟨some d, .buildSlice t 0 #[], ty, pos, after, none⟩).run P w = .ok (.value (.slice (some ⟨w.heap.size, 0, none⟩) 0 0)) (w.alloc (.cells #[] el)) := by
    simp [execOp, Instr.buildSlice, run_underlying hs.ok, sizeOf, typeInfo, hi1, Instr.fill, newRow, Array.range_zero']
  have hen : ∀ b, (Ent.row (.slice (some ⟨w.heap.size, 0, none⟩) 0 0) el sz 0 []).blk = some b → w.heap.size ≤ b := fun b hb => by
    simp [Ent.blk, Value.ownBlock] at hb; omega
  refine wpl_value rfl hr rfl (hk _ _ _ (St.put (St.newEnt (w1 := w.alloc (.cells #[] el)) st d _ rfl rfl rfl (by simp) (fun b hb => Below.heap_alloc w _ b hb) hen ?_) d (by simpa using hd) _ _ (by simp [Rel])))
  exact ⟨[], World.ownsRow_made w #[] 0 (Nat.zero_le _) (Nat.zero_le _) (by simp), by simp [RelL]⟩
end
end Go.Av
/-
append; literals; giving an own block away; calls with own blocks.
-/
namespace Go.Av
open Go.RowKit

theorem fill_one {P : Program} (cells : Array Value) (j : Nat) (v : Value) (hv : v.cells = #[v]) (hj : j < cells.size) (rest : List (Nat × Value)) :
    Instr.fill (fun i => some (i * 1, 1)) cells ((j, v) :: rest) = Instr.fill (fun i => some (i * 1, 1)) (cells.setIfInBounds j v) rest := by
  have _ := P
  simp only [Instr.fill, hv]
  rw [if_neg (by simp; omega)]
  congr 1
  simp

section
variable {P : Program} {G : Glob} {n : Nat} {Q : Post} {e : Env} {h : Hp} {ops : Array Oper} {rest : List Oper} {d : Nat} {ty : TypeId} {pos : String} {after : Array Edge}

theorem one_cells {x : Value} (h : x.oneCell' = true) : x.cells = #[x] := by cases x <;> simp [Value.oneCell'] at h <;> rfl

/-- The elements of a literal, in order. -/
def lits (xs : List Operand) : Nat → List (Nat × Operand)
  | k => match xs with
    | [] => []
    | x :: xs => (k, x) :: lits xs (k + 1)

theorem fill_lits (ρ : Operand → Value) : ∀ (xs : List Operand) (k : Nat) (done : List Value) (todo : List Value), done.length = k → todo.length = xs.length → (∀ x ∈ xs, (ρ x).oneCell' = true) →
    Instr.fill (fun i => some (i * 1, 1)) (done ++ todo).toArray ((lits xs k).map fun p => (p.1, ρ p.2)) = some (done ++ xs.map ρ).toArray
  | [], k, done, todo, _, h2, _ => by
    have : todo = [] := List.eq_nil_of_length_eq_zero h2
    subst this
    simp [lits, Instr.fill]
  | x :: xs, k, done, todo, h1, h2, h3 => by
    match todo, h2 with
    | t :: todo, h2 =>
      simp only [lits, List.map_cons]
      have hx := h3 x (by simp)
      have hs : ((done ++ t :: todo).toArray).setIfInBounds k (ρ x) = ((done ++ [ρ x]) ++ todo).toArray := by
        subst h1
        simp
      have hf : Instr.fill (fun i => some (i * 1, 1)) (done ++ t :: todo).toArray ((k, ρ x) :: (lits xs (k + 1)).map fun p => (p.1, ρ p.2)) =
          Instr.fill (fun i => some (i * 1, 1)) ((done ++ t :: todo).toArray.setIfInBounds k (ρ x)) ((lits xs (k + 1)).map fun p => (p.1, ρ p.2)) := by
        simp only [Instr.fill, one_cells hx]
        rw [if_neg (by simp; omega)]
        congr 1
        simp
      rw [hf, hs, fill_lits ρ xs (k + 1) (done ++ [ρ x]) todo (by simp [h1]) (by simpa using h2) (fun y hy => h3 y (by simp [hy]))]
      simp

/-- A literal (or the slice that a variadic call makes): nobody writes it. -/
theorem VL_lit {t el bytes : Nat} {z : Value} {xs : List Operand} {us : List AVal} {m : Nat} [hs : SliceT P t el] [hel : ElemT P el 1 bytes z] (hz1 : z.oneCell' = true) (hm : xs.length = m) (hm0 : Nat.ble m 16777216 = true) (hus : xs.map (ev e) = us) (hu : us.all cellA = true) (hfl : us.all flat0 = true) (hc : xs.all canonO = true) (hd : Nat.blt d n = true)
    (hk : VL P G n ops rest Q (upd e d (.sl 2 m us)) h) : VL P G n ops (⟨some d, .buildSlice t m (lits xs 0).toArray, ty, pos, after, none⟩ :: rest) Q e h := fun a w st => by
  obtain ⟨i, hi1, hi2, hi3, hi4⟩ := hel.ok
  have hrel := st.relArgs hc
  have hone : ∀ x ∈ xs, (a.eval x).oneCell' = true := by
    intro x hx
    have h1 := st.rel x (List.all_eq_true.1 hc x hx)
    have h2 : cellA (ev e x) = true := List.all_eq_true.1 hu _ (by rw [← hus]; exact List.mem_map_of_mem hx)
    exact cellA_one h2 h1
  have hzc : z.cells = #[z] := one_cells hz1
  have hzero : ((Array.range (m * 1)).map (z.cells[· % z.cells.size]!)) = (List.replicate m z).toArray := by
    rw [hzc]
    apply Array.ext
    · simp
    · intro k hk1 hk2
      simp [Nat.mod_one]
  have hfill := fill_lits a.eval xs 0 [] (List.replicate m z) rfl (by simp [hm]) hone
  simp only [List.nil_append] at hfill
  have hlits : ((lits xs 0).toArray.map fun p => (p.1, a.eval p.2)).toList = (lits xs 0).map fun p => (p.1, a.eval p.2) := by simp
  have hr : (execOp a.eval ⟨some d, .buildSlice t m (lits xs 0).toArray, ty, pos, after, none⟩).run P w = .ok (.value (.slice (some ⟨w.heap.size, 0, none⟩) m m)) (w.alloc (.cells (xs.map a.eval).toArray el)) := by
    have hlt : ¬ (m * 1 > 2 ^ 24) := by have : m ≤ 16777216 := by simpa using hm0
                                        omega
    by_cases hm1 : m * 1 = 0
    · have hx0 : xs = [] := List.eq_nil_of_length_eq_zero (by omega)
      subst hx0
      have hm2 : m = 0 := by omega
      subst hm2
      simp [execOp, Instr.buildSlice, run_underlying hs.ok, sizeOf, typeInfo, hi1, Instr.fill, newRow, Array.range_zero', lits]
    · simp only [execOp, Instr.buildSlice, run_underlying hs.ok, Sem.run_bind, Result.andThen_ok, sizeOf, typeInfo, run_program, hi1, Sem.run_pure, hi2, if_neg hlt, if_neg hm1, zeroValue, hi4, hzero, hlits, hfill, newRow, run_newObj]
      rfl
  have hlen := relL_length hrel
  have st2 := st.alloc (.cells (xs.map a.eval).toArray el)
  refine wpl_value rfl hr rfl (hk _ _ (St.put st2 d (by simpa using hd) _ _ ?_))
  simp only [Rel]
  refine ⟨_, _, rfl, .inr ⟨w.heap.size, 0, rfl, by simp, ?_, fun _ => Nat.le_trans st.ble st.mod.size, fun _ => st.mod.size, fun _ => ⟨_, _, heap_alloc_new w _⟩, ?_⟩⟩
  · intro hx; have := st.xlt hx; omega
  · have h0 : RelL (Xs G h) 0 0 (w.alloc (.cells (xs.map a.eval).toArray el)) us (xs.map a.eval) := by
      rw [← hus]
      exact (RelL.mono (wle_alloc w _ fun b _ hx => hx) hrel).lower
    have _ := hfl
    refine relF_of_list h0 fun j hj => ?_
    rw [Nat.zero_add, World.cell?_alloc_new]
    simp

/-- What is appended, read off the second operand. -/
theorem news_of_sl {X : Nat → Prop} {B C : Nat} {w : World} {fr m : Nat} {cells : List AVal} {x : Value} (hx : Rel X B C w (.sl fr m cells) x) (hm : 0 < m) :
    ∃ (ad : Addr) (cap : Nat) (news : List Value), x = .slice (some ad) m cap ∧ RelL X 0 0 w cells news ∧ ∀ j u, news[j]? = some u → w.cell? (ad.add j) = some u := by
  simp only [Rel] at hx
  obtain ⟨a, cap, rfl, h1⟩ := hx
  rcases h1 with ⟨h1, _⟩ | ⟨b, off, rfl, h2, h3, h4, h5, _, h6⟩
  · omega
  · obtain ⟨xs, h7, h8⟩ := relF_list h6
    refine ⟨_, cap, xs, rfl, h7, fun j u hj => ?_⟩
    have hlt : j < cells.length := by
      have := relL_length h7
      have := (List.getElem?_eq_some_iff.1 hj).1
      omega
    rw [addr_add]
    rw [← h8 j hlt]; exact hj

theorem relL_one {X : Nat → Prop} {B C : Nat} {w : World} : ∀ {us : List AVal} {xs : List Value}, (∀ u ∈ us, cellA u = true) → RelL X B C w us xs → ∀ x ∈ xs, x.oneCell' = true
  | [], xs, _, h, x, hx => by simp only [RelL] at h; subst h; cases hx
  | u :: us, xs, hc, h, x, hx => by
    simp only [RelL] at h
    obtain ⟨y, rs, rfl, h1, h2⟩ := h
    rcases List.mem_cons.1 hx with rfl | hx
    · exact cellA_one (hc u (by simp)) h1
    · exact relL_one (fun u hu => hc u (by simp [hu])) h2 x hx

/-- append, the call's own row on the left: where the new row lies. -/
theorem run_app {t ty' el : TypeId} {i : TypeInfo} {z : Value} (ht : P.underlying t = some (.slice el)) (hi : P.info? el = some i) (hz : i.zero = some z) (hzs : z.cells.size = i.size)
    {v : Value} {k : Nat} {xs : List Value} {w : World} (hown : w.ownsRow 0 el i.size v k xs) {ad : Addr} {m c : Nat} {news : List Value} (hm : 0 < m) (hl : news.length = m * i.size)
    (hnews : ∀ j u, news[j]? = some u → w.cell? (ad.add j) = some u) (h1 : ∀ u ∈ news, u.oneCell' = true) (h63 : k + m ≤ 9223372036854775807) (hbytes : (k + m) * i.bytes ≤ 140737488355328) :
    ∃ v' w', (Builtin.append_ #[t, t] ty' #[v, .slice (some ad) m c]).run P w = .ok v' w' ∧ w'.ownsRow 0 el i.size v' (k + m) (xs ++ news) ∧ w'.os = w.os ∧ w'.tape = w.tape ∧ w'.output = w.output ∧ w.heap.size ≤ w'.heap.size ∧
      (∀ b, b < w.heap.size → v.ownBlock ≠ some b → w'.heap[b]? = w.heap[b]?) ∧ (∀ b, v'.ownBlock = some b → v.ownBlock = some b ∨ w.heap.size ≤ b) := by
  have hlen : (xs ++ news).length = (k + m) * i.size := by rw [List.length_append, hown.1, hl, Nat.add_mul]
  have fresh : ∀ (cap : Nat), k + m ≤ cap → cap ≤ maxLen → ∀ cells : Array Value, cells = xs.toArray ++ news.toArray ++ Builtin.zeroCells z.cells (cap - (k + m)) →
      (w.drew.alloc (.cells cells el)).ownsRow 0 el i.size (.slice (some ⟨w.heap.size, 0, none⟩) (k + m) cap) (k + m) (xs ++ news) := by
    intro cap hc1 hc2 cells hcells
    refine ⟨hlen, .inr ⟨w.heap.size, cap, cells, rfl, Nat.zero_le _, heap_alloc_new w.drew _, hc1, hc2, ?_, ?_⟩⟩
    · subst hcells
      simp only [Array.size_append, List.size_toArray, size_zeroCells, hzs, hown.1, hl, ← Nat.add_mul]
      congr 1; omega
    · subst hcells
      simp only [Array.toList_append, List.append_assoc]
      rw [← List.append_assoc, ← hlen]
      exact List.take_left
  have hge := grownCap_ge w (k + m)
  have hcm := fun old => grownCap_le_maxLen w (k + m) old el (by unfold maxLen; omega)
  rcases hown.2 with ⟨rfl, rfl⟩ | ⟨g, cap, cur, rfl, _, hg, hkc, hcap, hcs, htake⟩
  · have hx : xs = [] := List.eq_nil_of_length_eq_zero (by simpa using hown.1)
    subst hx
    simp only [Nat.zero_add, List.nil_append] at *
    have hr := run_append_nil (P := P) w t ty' el i z ht hi hz ad m c news hl hnews hm (by omega) (by omega)
    refine ⟨_, _, hr, fresh _ (hge _ _) (hcm _) _ (by simp), rfl, rfl, rfl, by simp, fun b hb _ => Below.heap_alloc w.drew _ b hb, fun b hb => .inr ?_⟩
    simp [Value.ownBlock] at hb; omega
  · by_cases hroom : k + m ≤ cap
    · have hfit : k * i.size + news.length ≤ cur.size := by rw [hl, hcs, ← Nat.add_mul]; exact Nat.mul_le_mul_right _ hroom
      have hr := run_append_room (P := P) w t ty' el i ht hi g k cap cur hg ad m c news hl hnews h1 hroom hfit
      refine ⟨_, _, hr, ⟨hlen, .inr ⟨g, cap, _, rfl, Nat.zero_le _, setRow_heap w g cur _ el _ hg, hroom, hcap, ?_, ?_⟩⟩, rfl, rfl, rfl, by simp, fun b _ hne => setRow_other w g b _ (fun hh => hne (by simp [Value.ownBlock, hh])), fun b hb => .inl hb⟩
      · simp only [List.size_toArray, List.length_append, List.length_take, List.length_drop, Array.length_toList]
        omega
      · rw [htake, ← hlen]
        exact List.take_left
    · have holds : ∀ j u, xs[j]? = some u → w.cell? ((⟨g, 0, none⟩ : Addr).add j) = some u := hown.cells (g := g) rfl
      have hr := run_append_grow (P := P) w t ty' el i z ht hi hz ⟨g, 0, none⟩ k cap xs hown.1 holds ad m c news hl hnews (by omega) (by omega) (growslice_fits (by omega) hbytes)
      refine ⟨_, _, hr, fresh _ (hge _ _) (hcm _) _ rfl, rfl, rfl, rfl, by simp, fun b hb _ => Below.heap_alloc w.drew _ b hb, fun b hb => .inr ?_⟩
      simp [Value.ownBlock] at hb; omega

/-- append to an own row (nil, or grown before). -/
theorem VL_append {t el sz bytes : Nat} {z : Value} {s x : Operand} {i k fr m : Nat} {s0 : Value} {cells news : List AVal} [hst : SliceT P t el] [hel : ElemT P el sz bytes z] (hs : ev e s = .orow i s0) (hi : h i = some (.row s0 el sz k cells)) (hx : ev e x = .sl fr m news)
    (hl : news.length = m * sz) (hm : 0 < m) (hcell : ∀ u ∈ news, cellA u = true) (hflat : ∀ u ∈ news, flat0 u = true) (hb : (k + m) * bytes ≤ 140737488355328) (h63 : k + m ≤ 9223372036854775807)
    (hcs : canonO s = true) (hcx : canonO x = true) (hd : Nat.blt d n = true)
    (hk : ∀ s', VL P G n ops rest Q (upd e d (.orow d s')) (upd (upd h i none) d (some (.row s' el sz (k + m) (cells ++ news))))) :
    VL P G n ops (⟨some d, .call { callee := .builtin .append, args := #[s, x], argTypes := #[t, t] }, ty, pos, after, none⟩ :: rest) Q e h := fun a w st => by
  have h1 := st.rel s hcs
  have h2 := st.rel x hcx
  rw [hs] at h1; rw [hx] at h2; simp only [Rel] at h1
  obtain ⟨ad, cap, raws, hxv, hnr, hread⟩ := news_of_sl h2 hm
  obtain ⟨old, hown, hor⟩ := st.own i _ hi
  obtain ⟨inf, hi1, hi2, hi3, hi4⟩ := hel.ok
  have hone := relL_one hcell hnr
  have hlr : raws.length = m * sz := by rw [relL_length hnr, hl]
  have hszz := hel.szz
  subst hi2
  subst hi3
  obtain ⟨v', w', hr, ho, e1, e2, e3, hsz, hkeep, hblk⟩ := run_app (P := P) (ty' := ty) (c := cap) hst.ok hi1 hi4 hszz hown hm hlr hread hone h63 hb
  have hrun : (execOp a.eval ⟨some d, .call { callee := .builtin .append, args := #[s, x], argTypes := #[t, t] }, ty, pos, after, none⟩).run P w = .ok (.value v') w' := by
    simp only [execOp, resolve, invoke, builtin, Sem.run_bind, Sem.run_pure, Result.andThen_ok, List.map_toArray, List.map_cons, List.map_nil, h1.1, hxv, hr]
  obtain ⟨va, vc, hv'⟩ := ownsRow_slice ho
  have hX : ∀ b, s0.ownBlock = some b → Xs G h b := fun b hb' => .inr (.inr ⟨i, _, hi, hb'⟩)
  -- the relation goes over to the new world and heap
  have hsub : ∀ b, b < w.heap.size → Xs G (upd (upd h i none) d (some (.row v' el inf.size (k + m) (cells ++ news)))) b → Xs G h b := by
    rintro b hlt (hx | hx | ⟨q, eq, hq, hbq⟩)
    · exact .inl hx
    · exact .inr (.inl hx)
    · by_cases hqd : q = d
      · subst hqd; rw [upd_same] at hq; obtain rfl := Option.some.inj hq
        rcases hblk b hbq with h3 | h3
        · exact hX b h3
        · omega
      · rw [upd_other _ _ _ hqd] at hq
        by_cases hqi : q = i
        · subst hqi; rw [upd_same] at hq; cases hq
        · rw [upd_other _ _ _ hqi] at hq; exact .inr (.inr ⟨q, eq, hq, hbq⟩)
  have hw : WLe (Xs G h) (Xs G (upd (upd h i none) d (some (.row v' el inf.size (k + m) (cells ++ news))))) w w' :=
    ⟨hsz, fun b hlt hn => ⟨fun hh => hn (hsub b hlt hh), hkeep b hlt fun hh => hn (hX b hh)⟩⟩
  refine wpl_value rfl hrun rfl (hk _ _ _ (St.put (St.replEnt (w1 := w') st d i _ e1 e2 e3 hsz (fun b hlt hne => hkeep b hlt (fun hh => hne _ hi hh)) ?_ ?_) d (by simpa using hd) _ _ (by simp only [Rel]; exact ⟨rfl, _, _, _, hv'⟩)))
  · intro b hbq
    rcases hblk b hbq with h3 | h3
    · exact .inl ⟨_, hi, h3⟩
    · exact .inr h3
  · refine ⟨old ++ raws, ho, relL_append (RelL.mono hw hor) (RelL.flat hflat (RelL.mono hw hnr))⟩
end
end Go.Av
/-
Giving own blocks away; lending them to a call; calls that write own blocks.
-/
namespace Go.Av
open Go.RowKit

section
variable {P : Program} {G : Glob} {n : Nat} {e : Env} {h : Hp} {a : Act} {w w' : World}

/-- An own row, read as a slice. -/
theorem rel_row_sl {X : Nat → Prop} {B C B' C' : Nat} {s : Value} {ety sz m : Nat} {cells : List AVal} {fr : Nat} (hok : EntOk X B C w (.row s ety sz m cells)) {X' : Nat → Prop} (hX : ∀ b, X' b → X b) (hn : ∀ b, s.ownBlock = some b → ¬ X' b)
    (h1 : ∀ b, s.ownBlock = some b → fr = 1 → B' ≤ b) (h2 : ∀ b, s.ownBlock = some b → fr = 2 → C' ≤ b) : Rel X' B' C' w (.sl fr m cells) s := by
  obtain ⟨raws, ho, hr⟩ := hok
  simp only [Rel]
  rcases ho.2 with ⟨rfl, rfl⟩ | ⟨g, cap, cur, rfl, _, hg, hkc, hcap, hcs, htake⟩
  · refine ⟨none, 0, rfl, .inl ⟨rfl, ?_⟩⟩
    have h3 := ho.1
    simp only [Nat.zero_mul] at h3
    have := relL_length hr
    exact List.eq_nil_of_length_eq_zero (by omega)
  · refine ⟨_, cap, rfl, .inr ⟨g, 0, rfl, (Array.getElem?_eq_some_iff.1 hg).1, hn g rfl, h1 g rfl, h2 g rfl, fun _ => ⟨_, _, hg⟩, ?_⟩⟩
    refine relF_of_list (RelL.mono (WLe.shrink w hX) hr).lower fun j hj => ?_
    rw [Nat.zero_add, cell_of_own hg, ← htake, List.getElem?_take, if_pos ?_]
    · simp
    · rw [← ho.1, relL_length hr]; exact hj

theorem St.give (st : St G n e h a w) (hG : ∀ b, ¬ G.ms b) {i ety sz m : Nat} {s : Value} {cells : List AVal} (hi : h i = some (.row s ety sz m cells)) :
    St G n e (upd h i none) a w ∧ Rel (Xs G (upd h i none)) G.B G.w0.heap.size w (.sl 2 m cells) s := by
  have hle : HpLe h (upd h i none) := fun k en hk => by
    by_cases hki : k = i
    · subst hki; rw [upd_same] at hk; cases hk
    · rw [upd_other _ _ _ hki] at hk; exact hk
  have st' := st.weaken (EnvLe.refl e) hle
  refine ⟨st', rel_row_sl (st.own i _ hi) (X' := Xs G (upd h i none)) ?_ ?_ (fun b hb hf => by cases hf) ?_⟩
  · rintro b (hx | hx | ⟨k, ek, hk, hb⟩)
    · exact .inl hx
    · exact .inr (.inl hx)
    · exact .inr (.inr ⟨k, ek, hle k ek hk, hb⟩)
  · rintro b hb (hx | hx | ⟨k, ek, hk, hbk⟩)
    · exact (st.old i _ b hi hb).1 hx
    · exact hG b hx
    · have := st.apart k i ek _ b (hle k ek hk) hi hbk hb
      subst this; rw [upd_same] at hk; cases hk
  · intro b hb _
    exact ((st.old i _ b hi hb).2).resolve_left (hG b)

theorem tmp_orow (st : St G n e h a w) {t i : Nat} {s : Value} (ht : e t = .orow i s) : a.tmps.getD t undef = s := by
  have := st.env t
  rw [ht] at this; simp only [Rel] at this
  exact this.1

theorem St.give_slot (st : St G n e h a w) (hG : ∀ b, ¬ G.ms b) {t i ety sz m : Nat} {s : Value} {cells : List AVal} (ht : e t = .orow i s) (hi : h i = some (.row s ety sz m cells)) :
    St G n (upd e t (.sl 2 m cells)) (upd h i none) a w := by
  obtain ⟨st', hr⟩ := st.give hG hi
  exact {
    size := st'.size
    defers := st'.defers
    mod := st'.mod
    env := fun q => by
      by_cases hq : q = t
      · subst hq; rw [upd_same, tmp_orow st ht]; exact hr
      · rw [upd_other _ _ _ hq]; exact st'.env q
    own := st'.own
    old := st'.old
    apart := st'.apart
    zlt := st'.zlt
    mlt := st'.mlt
    ble := st'.ble }

/-- A box's cell that holds an own row: the row is given away. -/
theorem St.give_cell (st : St G n e h a w) (hG : ∀ b, ¬ G.ms b) {j k i ety sz m b : Nat} {s : Value} {cells cs : List AVal} (hj : h j = some (.box b cs)) (hk : cs[k]? = some (.orow i s)) (hi : h i = some (.row s ety sz m cells)) :
    St G n e (upd (upd h i none) j (some (.box b (cs.set k (.sl 2 m cells))))) a w := by
  obtain ⟨st', hr⟩ := st.give hG hi
  have hji : j ≠ i := fun hh => by subst hh; rw [hj] at hi; cases hi
  have hj' : upd h i none j = some (.box b cs) := by rw [upd_other _ _ _ hji]; exact hj
  obtain ⟨cur, ty, h1, h2⟩ := st'.own j _ hj'
  have hiff := xs_upd_same (G := G) (en := .box b (cs.set k (.sl 2 m cells))) hj' rfl
  refine St.setEnt (w1 := w) st' j _ rfl rfl rfl (Nat.le_refl _) (fun _ _ _ => rfl) (fun b' hb' => .inl ⟨_, hj', hb'⟩) ?_
  have hw : WLe (Xs G (upd h i none)) (Xs G (upd (upd h i none) j (some (.box b (cs.set k (.sl 2 m cells)))))) w w := WLe.shrink w fun b hb => (hiff b).1 hb
  refine ⟨cur, ty, h1, ?_⟩
  obtain ⟨y, hy1, hy2⟩ := relL_get h2 hk
  simp only [Rel] at hy2
  have hset : cur.toList = cur.toList.set k s := by
    apply List.ext_getElem?
    intro q
    by_cases hq : q = k
    · subst hq
      have hlt := (List.getElem?_eq_some_iff.1 hy1).1
      rw [List.getElem?_set_self hlt, hy1, hy2.1]
    · rw [List.getElem?_set_ne (Ne.symm hq)]
  rw [hset]
  exact relL_set k (RelL.mono hw h2) (Rel.mono hw hr)

theorem V_give {c : Code} {Q : Post} (hG : ∀ b, ¬ G.ms b) {t i ety sz m : Nat} {s : Value} {cells : List AVal} (ht : e t = .orow i s) (hi : h i = some (.row s ety sz m cells))
    (hk : V P G n c Q (upd e t (.sl 2 m cells)) (upd h i none)) : V P G n c Q e h := fun a w st => hk a w (st.give_slot hG ht hi)
theorem VL_give {ops : Array Oper} {rest : List Oper} {Q : Post} (hG : ∀ b, ¬ G.ms b) {t i ety sz m : Nat} {s : Value} {cells : List AVal} (ht : e t = .orow i s) (hi : h i = some (.row s ety sz m cells))
    (hk : VL P G n ops rest Q (upd e t (.sl 2 m cells)) (upd h i none)) : VL P G n ops rest Q e h := fun a w st => hk a w (st.give_slot hG ht hi)
theorem V_give_cell {c : Code} {Q : Post} (hG : ∀ b, ¬ G.ms b) {j k i ety sz m b : Nat} {s : Value} {cells cs : List AVal} (hj : h j = some (.box b cs)) (hk : cs[k]? = some (.orow i s)) (hi : h i = some (.row s ety sz m cells))
    (hv : V P G n c Q e (upd (upd h i none) j (some (.box b (cs.set k (.sl 2 m cells)))))) : V P G n c Q e h := fun a w st => hv a w (st.give_cell hG hj hk hi)
theorem VL_give_cell {ops : Array Oper} {rest : List Oper} {Q : Post} (hG : ∀ b, ¬ G.ms b) {j k i ety sz m b : Nat} {s : Value} {cells cs : List AVal} (hj : h j = some (.box b cs)) (hk : cs[k]? = some (.orow i s)) (hi : h i = some (.row s ety sz m cells))
    (hv : VL P G n ops rest Q e (upd (upd h i none) j (some (.box b (cs.set k (.sl 2 m cells)))))) : VL P G n ops rest Q e h := fun a w st => hv a w (st.give_cell hG hj hk hi)

/-- A nil slice as an own row. -/
theorem St.nilrow (st : St G n e h a w) {t : Nat} (i ety sz : Nat) (ht : e t = .v (.slice none 0 0)) :
    St G n (upd e t (.orow i (.slice none 0 0))) (upd h i (some (.row (.slice none 0 0) ety sz 0 []))) a w := by
  have h0 := st.env t
  rw [ht] at h0; simp only [Rel] at h0
  have h1 := c0_other h0 (by intro k b; simp)
  have st' := St.newEnt (w1 := w) st i (.row (.slice none 0 0) ety sz 0 []) rfl rfl rfl (Nat.le_refl _) (fun _ _ => rfl) (fun b hb => by simp [Ent.blk, Value.ownBlock] at hb)
    ⟨[], World.ownsRow_nil w 0 ety sz, by simp [RelL]⟩
  exact {
    size := st'.size
    defers := st'.defers
    mod := st'.mod
    env := fun q => by
      by_cases hq : q = t
      · subst hq; rw [upd_same, h1]; simp only [Rel]; exact ⟨trivial, _, _, _, rfl⟩
      · rw [upd_other _ _ _ hq]; exact st'.env q
    own := st'.own
    old := st'.old
    apart := st'.apart
    zlt := st'.zlt
    mlt := st'.mlt
    ble := st'.ble }
theorem V_nilrow {c : Code} {Q : Post} {t : Nat} (i ety sz : Nat) (ht : e t = .v (.slice none 0 0)) (hk : V P G n c Q (upd e t (.orow i (.slice none 0 0))) (upd h i (some (.row (.slice none 0 0) ety sz 0 [])))) :
    V P G n c Q e h := fun a w st => hk a w (st.nilrow i ety sz ht)
theorem VL_nilrow {ops : Array Oper} {rest : List Oper} {Q : Post} {t : Nat} (i ety sz : Nat) (ht : e t = .v (.slice none 0 0)) (hk : VL P G n ops rest Q (upd e t (.orow i (.slice none 0 0))) (upd h i (some (.row (.slice none 0 0) ety sz 0 [])))) :
    VL P G n ops rest Q e h := fun a w st => hk a w (st.nilrow i ety sz ht)

/-! ### Lending -/

/-- What 'u' tells the caller, 'u'' tells a callee that may write the blocks 'M' alone. -/
def Lend (G : Glob) (h : Hp) (M : Nat → Prop) (u u' : AVal) : Prop :=
  ∀ n e a w, St G n e h a w → ∀ B0 C0 x, Rel (Xs G h) B0 C0 w u x → ∀ B C, Rel M B C w u' x
def LendL (G : Glob) (h : Hp) (M : Nat → Prop) : List AVal → List AVal → Prop
  | [], us => us = []
  | u :: us, vs => ∃ v rest, vs = v :: rest ∧ Lend G h M u v ∧ LendL G h M us rest

theorem LendL.rel {M : Nat → Prop} (st : St G n e h a w) {B0 C0 : Nat} : ∀ {us vs : List AVal} {xs : List Value}, LendL G h M us vs → RelL (Xs G h) B0 C0 w us xs → ∀ B C, RelL M B C w vs xs
  | [], vs, xs, hl, hr, B, C => by simp only [LendL] at hl; subst hl; simpa only [RelL] using hr
  | u :: us, vs, xs, hl, hr, B, C => by
    simp only [LendL] at hl
    simp only [RelL] at hr
    obtain ⟨v, rest, rfl, h1, h2⟩ := hl
    obtain ⟨x, xs, rfl, h3, h4⟩ := hr
    simp only [RelL]
    exact ⟨_, _, rfl, h1 n e a w st _ _ _ h3 B C, LendL.rel st h2 h4 B C⟩

variable {M : Nat → Prop}
theorem lend_nil : LendL G h M [] [] := rfl
theorem lend_cons {u u' : AVal} {us vs : List AVal} (h1 : Lend G h M u u') (h2 : LendL G h M us vs) : LendL G h M (u :: us) (u' :: vs) := ⟨_, _, rfl, h1, h2⟩
theorem lend_v {u : Value} : Lend G h M (.v u) (.v u) := fun _ _ _ _ _ _ _ _ hr _ _ => by simpa only [Rel] using hr
theorem lend_any {u : AVal} : Lend G h M u .any := fun _ _ _ _ _ _ _ _ _ _ _ => by simp only [Rel]
theorem lend_ownraw {i j b o : Nat} : Lend G h M (.own i b o) (.own j b o) := fun _ _ _ _ _ _ _ _ hr _ _ => by simpa only [Rel] using hr
theorem lend_rowraw {i j : Nat} {s : Value} : Lend G h M (.orow i s) (.orow j s) := fun _ _ _ _ _ _ _ _ hr _ _ => by simpa only [Rel] using hr
theorem lend_sl {fr m : Nat} {cs : List AVal} (hM : ∀ b, M b → Xs G h b) : Lend G h M (.sl fr m cs) (.sl 0 m cs) := fun n e a w _ _ _ x hr B C => by
  simp only [Rel] at hr ⊢
  obtain ⟨ad, cap, rfl, h1⟩ := hr
  refine ⟨ad, cap, rfl, ?_⟩
  rcases h1 with h1 | ⟨b, off, rfl, h2, h3, _, _, _, h4⟩
  · exact .inl h1
  · exact .inr ⟨b, off, rfl, h2, fun hm => h3 (hM b hm), fun hf => (by cases hf), fun hf => (by cases hf), fun hf => absurd rfl hf, RelF.mono (WLe.shrink w hM) (fun _ => rfl) h4⟩
theorem lend_ptr {o : Nat} {cs : List AVal} (hM : ∀ b, M b → Xs G h b) : Lend G h M (.ptr o cs) (.ptr o cs) := fun n e a w _ _ _ x hr B C => by
  simp only [Rel] at hr ⊢
  obtain ⟨b, off, rfl, h2, h3, h4⟩ := hr
  exact ⟨b, off, rfl, h2, fun hm => h3 (hM b hm), RelF.mono (WLe.shrink w hM) (fun _ => rfl) h4⟩
theorem lend_agg {cs cs' : List AVal} (hl : LendL G h M cs cs') : Lend G h M (.agg cs) (.agg cs') := fun n e a w st _ _ x hr B C => by
  simp only [Rel] at hr ⊢
  obtain ⟨arr, rfl, h1⟩ := hr
  exact ⟨arr, rfl, hl.rel st h1 B C⟩
theorem lend_fn {f : FuncId} {cs cs' : List AVal} (hl : LendL G h M cs cs') : Lend G h M (.fn f cs) (.fn f cs') := fun n e a w st _ _ x hr B C => by
  simp only [Rel] at hr ⊢
  obtain ⟨arr, rfl, h1⟩ := hr
  exact ⟨arr, rfl, hl.rel st h1 0 0⟩
theorem lend_row {i ety sz m : Nat} {s : Value} {cs cs' : List AVal} (hi : h i = some (.row s ety sz m cs)) (hn : ∀ b, s.ownBlock = some b → ¬ M b) (hl : LendL G h M cs cs') : Lend G h M (.orow i s) (.sl 0 m cs') := fun n e a w st _ _ x hr B C => by
  simp only [Rel] at hr
  obtain ⟨rfl, _⟩ := hr
  obtain ⟨raws, ho, hr2⟩ := st.own i _ hi
  have hok : EntOk M 0 0 w (.row x ety sz m cs') := ⟨raws, ho, hl.rel st hr2 0 0⟩
  exact rel_row_sl hok (X' := M) (fun _ hb => hb) hn (fun _ _ hf => by cases hf) (fun _ _ hf => by cases hf)
theorem lend_box {i b o : Nat} {cs cs' : List AVal} (hi : h i = some (.box b cs)) (hn : ¬ M b) (hl : LendL G h M cs cs') : Lend G h M (.own i b o) (.ptr o cs') := fun n e a w st _ _ x hr B C => by
  simp only [Rel] at hr ⊢
  obtain ⟨cur, ty, h1, h2⟩ := st.own i _ hi
  refine ⟨b, 0, by rw [Nat.zero_add]; exact hr, (Array.getElem?_eq_some_iff.1 h1).1, hn, relF_of_list (hl.rel st h2 0 0) fun j hj => ?_⟩
  rw [Nat.zero_add, cell_of_own h1]
  simp
theorem lend_scalars {M : Nat → Prop} : ∀ {us : List Value}, LendL G h M (us.map AVal.v) (us.map AVal.v)
  | [] => rfl
  | _ :: _ => ⟨_, _, rfl, lend_v, lend_scalars⟩
theorem lend_fl {xs : List Nat} : LendL G h M (fl xs) (fl xs) := by
  have : fl xs = (xs.map (Value.float .f32)).map AVal.v := by simp [fl, F32]
  rw [this]; exact lend_scalars
theorem lend_il {xs : List Int} : LendL G h M (il xs) (il xs) := by
  have : il xs = (xs.map (Value.int .i64)).map AVal.v := by simp [il, I64]
  rw [this]; exact lend_scalars

/-! ### Calls with own blocks -/

/-- What is handed back is new, or no memory at all. -/
def fresh0 : AVal → Bool
  | .v _ => true
  | .sl fr _ _ => Nat.beq fr 2
  | _ => false
def fresh1 : AVal → Bool
  | .agg cs => cs.all fresh0
  | u => fresh0 u
def fresh2 : AVal → Bool
  | .tup xs => xs.all fresh1
  | u => fresh1 u

/-- No memory of anybody's: it holds in every world. -/
def plainA : AVal → Bool
  | .v _ | .own .. | .orow .. | .any => true
  | _ => false
theorem Rel.plain {X X' : Nat → Prop} {B C B' C' : Nat} {w w' : World} {u : AVal} {x : Value} (hp : plainA u = true) (h : Rel X B C w u x) : Rel X' B' C' w' u x := by
  cases u <;> simp only [plainA, Rel] at hp h ⊢ <;> first | exact h | (cases hp; done)
theorem RelL.plain {X X' : Nat → Prop} {B C B' C' : Nat} {w w' : World} : ∀ {us : List AVal} {xs : List Value}, (∀ u ∈ us, plainA u = true) → RelL X B C w us xs → RelL X' B' C' w' us xs
  | [], _, _, h => by simpa only [RelL] using h
  | u :: us, xs, hp, h => by
    simp only [RelL] at h ⊢
    obtain ⟨x, rest, rfl, h1, h2⟩ := h
    exact ⟨x, rest, rfl, Rel.plain (hp u (by simp)) h1, RelL.plain (fun u hu => hp u (by simp [hu])) h2⟩
/-- .. or a call's results, each plain. -/
def plainT : AVal → Bool
  | .tup xs => xs.all plainA
  | u => plainA u
theorem Rel.plainT {X X' : Nat → Prop} {B C B' C' : Nat} {w w' : World} {u : AVal} {x : Value} (hp : plainT u = true) (h : Rel X B C w u x) : Rel X' B' C' w' u x := by
  cases u <;> first | exact Rel.plain hp h | skip
  simp only [Av.plainT, Rel] at hp h ⊢
  obtain ⟨arr, rfl, h1⟩ := h
  exact ⟨arr, rfl, RelL.plain (fun u hu => List.all_eq_true.1 hp u hu) h1⟩


end
end Go.Av
/-
Calls that are lent own blocks, and may write some of them.
-/
namespace Go.Av
open Go.RowKit

section
variable {P : Program} {G : Glob} {n : Nat} {e : Env} {h : Hp} {a : Act} {w w' : World}

/-- New memory, or none: apart from all that the caller holds. -/
def Fresh0 : AVal → Prop
  | .v _ => True
  | .own .. | .orow .. | .any => True
  | .sl fr _ cs => fr = 2 ∧ ∀ u ∈ cs, plainA u = true
  | _ => False
def Fresh1 : AVal → Prop
  | .agg cs => ∀ u ∈ cs, Fresh0 u
  | u => Fresh0 u
def Fresh2 : AVal → Prop
  | .tup xs => ∀ u ∈ xs, Fresh1 u
  | u => Fresh1 u

theorem relF_plain {X X' : Nat → Prop} {B C B' C' : Nat} : ∀ {us : List AVal} {rd : Nat → Option Value}, (∀ u ∈ us, plainA u = true) → RelF X B C w us rd → RelF X' B' C' w us rd
  | [], _, _, _ => by simp only [RelF]
  | u :: us, rd, hp, h => by
    simp only [RelF] at h ⊢
    obtain ⟨⟨x, h1, h2⟩, h3⟩ := h
    exact ⟨⟨x, h1, Rel.plain (hp u (by simp)) h2⟩, relF_plain (fun u hu => hp u (by simp [hu])) h3⟩

theorem Rel.fresh0 {X X' : Nat → Prop} {B B' C C' : Nat} {u : AVal} {x : Value} (hf : Fresh0 u) (hX : ∀ b, X' b → b < C ∨ X b) (hC : C' ≤ C) (h : Rel X B C w u x) : Rel X' B' C' w u x := by
  cases u <;> simp only [Fresh0, Rel] at hf h ⊢ <;> try exact h
  obtain ⟨a, cap, rfl, h⟩ := h
  refine ⟨a, cap, rfl, ?_⟩
  obtain ⟨hfr, hpl⟩ := hf
  rcases h with h | ⟨b, off, ha, hb, hx, h1, h2, hz, hc⟩
  · exact .inl h
  · refine .inr ⟨b, off, ha, hb, fun hh => ?_, fun e => by omega, fun e => Nat.le_trans hC (h2 hfr), hz, relF_plain hpl hc⟩
    rcases hX b hh with h3 | h3
    · have := h2 hfr; omega
    · exact hx h3
theorem RelL.imp {X X' : Nat → Prop} {B B' C C' : Nat} {q : AVal → Prop} (hq : ∀ u x, q u → Rel X B C w u x → Rel X' B' C' w u x) : ∀ {us : List AVal} {xs : List Value}, (∀ u ∈ us, q u) → RelL X B C w us xs → RelL X' B' C' w us xs
  | [], _, _, h => by simpa only [RelL] using h
  | u :: us, xs, hf, h => by
    simp only [RelL] at h ⊢
    obtain ⟨x, rest, rfl, h1, h2⟩ := h
    exact ⟨x, rest, rfl, hq u x (hf u (by simp)) h1, RelL.imp hq (fun u hu => hf u (by simp [hu])) h2⟩
theorem Rel.fresh1 {X X' : Nat → Prop} {B B' C C' : Nat} {u : AVal} {x : Value} (hf : Fresh1 u) (hX : ∀ b, X' b → b < C ∨ X b) (hC : C' ≤ C) (h : Rel X B C w u x) : Rel X' B' C' w u x := by
  cases u <;> first | (exact Rel.fresh0 hf hX hC h) | skip
  simp only [Fresh1, Rel] at hf h ⊢
  obtain ⟨arr, rfl, h⟩ := h
  exact ⟨arr, rfl, RelL.imp (fun u x h1 h2 => Rel.fresh0 h1 hX hC h2) hf h⟩
theorem Rel.fresh2 {X X' : Nat → Prop} {B B' C C' : Nat} {u : AVal} {x : Value} (hf : Fresh2 u) (hX : ∀ b, X' b → b < C ∨ X b) (hC : C' ≤ C) (h : Rel X B C w u x) : Rel X' B' C' w u x := by
  cases u <;> first | (exact Rel.fresh1 hf hX hC h) | skip
  simp only [Fresh2, Rel] at hf h ⊢
  obtain ⟨arr, rfl, h⟩ := h
  exact ⟨arr, rfl, RelL.imp (fun u x h1 h2 => Rel.fresh1 h1 hX hC h2) hf h⟩

/-- The lent entries lie at 'ix' in the caller's heap. -/
structure MuAt (h : Hp) (ix : List Nat) (mu : List Ent) : Prop where
  at_ : ∀ (k : Nat) (en : Ent), mu[k]? = some en → ∃ i, ix[k]? = some i ∧ h i = some en
  nodup : ∀ (k l i : Nat), ix[k]? = some i → ix[l]? = some i → k = l

theorem muAt_nil {ix : List Nat} (hn : ∀ (k l i : Nat), ix[k]? = some i → ix[l]? = some i → k = l) : MuAt h ix [] := ⟨fun k en hk => by simp at hk, hn⟩
theorem nodup_nil : ∀ (k l i : Nat), ([] : List Nat)[k]? = some i → ([] : List Nat)[l]? = some i → k = l := fun k l i hk => by simp at hk
theorem nodup_one (q : Nat) : ∀ (k l i : Nat), ([q] : List Nat)[k]? = some i → ([q] : List Nat)[l]? = some i → k = l := fun k l i hk hl => by
  cases k with
  | zero => cases l with
    | zero => rfl
    | succ l => simp at hl
  | succ k => simp at hk
theorem nodup_two {p q : Nat} (hpq : Nat.beq p q = false) : ∀ (k l i : Nat), ([p, q] : List Nat)[k]? = some i → ([p, q] : List Nat)[l]? = some i → k = l := fun k l i hk hl => by
  have hne : p ≠ q := fun hh => by subst hh; simp at hpq
  match k, l with
  | 0, 0 => rfl
  | 1, 1 => rfl
  | 0, 1 => simp at hk hl; omega
  | 1, 0 => simp at hk hl; omega
  | k + 2, _ => simp at hk
  | _, l + 2 => simp at hl

def updMu : Hp → List Nat → List Ent → Hp
  | h, i :: ix, en :: mu => upd (updMu h ix mu) i (some en)
  | h, i :: ix, [] => upd (updMu h ix []) i none
  | h, [], _ => h

theorem updMu_spec : ∀ (ix : List Nat) (mu : List Ent) (i : Nat) (en : Ent), updMu h ix mu i = some en → (∃ k : Nat, ix[k]? = some i ∧ mu[k]? = some en) ∨ ((∀ k : Nat, ix[k]? ≠ some i) ∧ h i = some en)
  | [], mu, i, en, hi => .inr ⟨fun k => by simp, by simpa [updMu] using hi⟩
  | j :: ix, [], i, en, hi => by
    simp only [updMu] at hi
    by_cases hij : i = j
    · subst hij; rw [upd_same] at hi; cases hi
    · rw [upd_other _ _ _ hij] at hi
      rcases updMu_spec ix [] i en hi with ⟨k, _, h2⟩ | ⟨h1, h2⟩
      · simp at h2
      · refine .inr ⟨fun k => ?_, h2⟩
        cases k with
        | zero => simp; exact fun hh => hij hh.symm
        | succ k => simpa using h1 k
  | j :: ix, m :: mu, i, en, hi => by
    simp only [updMu] at hi
    by_cases hij : i = j
    · subst hij; rw [upd_same] at hi; exact .inl ⟨0, by simp, by simpa using hi⟩
    · rw [upd_other _ _ _ hij] at hi
      rcases updMu_spec ix mu i en hi with ⟨k, h1, h2⟩ | ⟨h1, h2⟩
      · exact .inl ⟨k + 1, by simpa using h1, by simpa using h2⟩
      · refine .inr ⟨fun k => ?_, h2⟩
        cases k with
        | zero => simp; exact fun hh => hij hh.symm
        | succ k => simpa using h1 k

theorem EntOk.plain {X X' : Nat → Prop} {B C B' C' : Nat} {en : Ent} (hp : ∀ u ∈ en.cells, plainA u = true) (hk : EntOk X B C w en) : EntOk X' B' C' w en := by
  cases en with
  | box b cs => obtain ⟨cur, ty, h1, h2⟩ := hk; exact ⟨cur, ty, h1, RelL.plain hp h2⟩
  | row s ty sz n cs => obtain ⟨raws, h1, h2⟩ := hk; exact ⟨raws, h1, RelL.plain hp h2⟩
  | arr s n cs =>
    obtain ⟨a, cap, h1, h2⟩ := hk
    exact ⟨a, cap, h1, h2.imp id fun ⟨b, off, cur, ty, h3, h4, h5, h6, h7⟩ => ⟨b, off, cur, ty, h3, h4, h5, h6, RelL.plain hp h7⟩⟩

theorem St.callM (st : St G n e h a w) {ix : List Nat} {mu mu' : List Ent} (hat : MuAt h ix mu) (hm : Mod (blks mu) w w') (ha : MuAfter (fun _ => False) mu mu' w w') (hp : ∀ en ∈ mu', ∀ u ∈ en.cells, plainA u = true) :
    St G n e (updMu h ix mu') a w' := by
  have hblk : ∀ b, blks mu b → ∃ (k i : Nat) (en : Ent), mu[k]? = some en ∧ ix[k]? = some i ∧ h i = some en ∧ en.blk = some b := by
    rintro b ⟨en, h1, h2⟩
    obtain ⟨k, hk⟩ := List.mem_iff_getElem?.1 h1
    obtain ⟨i, h3, h4⟩ := hat.at_ k en hk
    exact ⟨k, i, en, hk, h3, h4, h2⟩
  have hsub : ∀ b, b < w.heap.size → Xs G (updMu h ix mu') b → Xs G h b := by
    rintro b hlt (hx | hx | ⟨i, en, hi, hb⟩)
    · exact .inl hx
    · exact .inr (.inl hx)
    · rcases updMu_spec ix mu' i en hi with ⟨k, _, h2⟩ | ⟨_, h2⟩
      · rcases (ha.new b ⟨en, List.mem_of_getElem? h2, hb⟩).2 with h3 | h3
        · obtain ⟨k', i', en', _, _, h4, h5⟩ := hblk b h3
          exact .inr (.inr ⟨i', en', h4, h5⟩)
        · omega
      · exact .inr (.inr ⟨i, en, h2, hb⟩)
  have hw : WLe (Xs G h) (Xs G (updMu h ix mu')) w w' := ⟨hm.size, fun b hlt hn => ⟨fun hh => hn (hsub b hlt hh), hm.block b hlt fun hh => by
    obtain ⟨k', i', en', _, _, h4, h5⟩ := hblk b hh
    exact hn (.inr (.inr ⟨i', en', h4, h5⟩))⟩⟩
  have hnot : ∀ i en b, h i = some en → en.blk = some b → (∀ k : Nat, ix[k]? ≠ some i) → ¬ blks mu b := by
    intro i en b hi hb hk hbm
    obtain ⟨k', i', en', _, h3, h4, h5⟩ := hblk b hbm
    have := st.apart i i' en en' b hi h4 hb h5
    subst this; exact hk k' h3
  exact {
    size := st.size
    defers := st.defers
    mod := ⟨hm.os.trans st.mod.os, hm.tape.trans st.mod.tape, hm.output.trans st.mod.output, Nat.le_trans st.mod.size hm.size, fun b hlt hn => by
      rw [hm.block b (Nat.lt_of_lt_of_le hlt st.mod.size) fun hh => ?_]
      · exact st.mod.block b hlt hn
      · obtain ⟨k', i', en', _, _, h4, h5⟩ := hblk b hh
        rcases (st.old i' en' b h4 h5).2 with h6 | h6
        · exact hn h6
        · omega⟩
    env := fun t => Rel.mono hw (st.env t)
    own := fun i en hi => by
      rcases updMu_spec ix mu' i en hi with ⟨k, _, h2⟩ | ⟨h1, h2⟩
      · have hmem := List.mem_of_getElem? h2
        exact EntOk.plain (hp en hmem) (ha.ok en hmem)
      · exact EntOk.mono hw (fun b hb => hm.block b ((st.own i en h2).lt hb) (hnot i en b h2 hb h1)) (st.own i en h2)
    old := fun i en b hi hb => by
      rcases updMu_spec ix mu' i en hi with ⟨k, _, h2⟩ | ⟨_, h2⟩
      · rcases (ha.new b ⟨en, List.mem_of_getElem? h2, hb⟩).2 with h3 | h3
        · obtain ⟨k', i', en', _, _, h4, h5⟩ := hblk b h3
          exact st.old i' en' b h4 h5
        · exact ⟨fun hz => by have h1 := st.zlt b hz; have h2 := st.mod.size; omega, .inr (Nat.le_trans st.mod.size h3)⟩
      · exact st.old i en b h2 hb
    apart := fun i j en em b hi hj h1 h2 => by
      rcases updMu_spec ix mu' i en hi with ⟨k, h3, h4⟩ | ⟨h3, h4⟩ <;> rcases updMu_spec ix mu' j em hj with ⟨l, h5, h6⟩ | ⟨h5, h6⟩
      · have := ha.apart k l en em b h4 h6 h1 h2
        subst this; rw [h3] at h5; exact Option.some.inj h5
      · exfalso
        rcases (ha.new b ⟨en, List.mem_of_getElem? h4, h1⟩).2 with h7 | h7
        · exact hnot j em b h6 h2 h5 h7
        · have := (st.own j em h6).lt h2; omega
      · exfalso
        rcases (ha.new b ⟨em, List.mem_of_getElem? h6, h2⟩).2 with h7 | h7
        · exact hnot i en b h4 h1 h3 h7
        · have := (st.own i en h4).lt h1; omega
      · exact st.apart i j en em b h4 h6 h1 h2
    zlt := st.zlt
    mlt := st.mlt
    ble := st.ble }

/-- The indices of entries that a callee hands back, as the caller lays them. -/
def re0 (ix : List Nat) : AVal → AVal
  | .orow i s => .orow (bif Nat.ble 900 i then ix.getD (i - 900) i else i) s
  | .own i b o => .own (bif Nat.ble 900 i then ix.getD (i - 900) i else i) b o
  | u => u
def re1 (ix : List Nat) : AVal → AVal
  | .agg cs => .agg (cs.map (re0 ix))
  | u => re0 ix u
def re2 (ix : List Nat) : AVal → AVal
  | .tup xs => .tup (xs.map (re1 ix))
  | u => re1 ix u
theorem Rel.re0 {X : Nat → Prop} {B C : Nat} {ix : List Nat} {u : AVal} {x : Value} (h : Rel X B C w u x) : Rel X B C w (re0 ix u) x := by
  cases u <;> simp only [Av.re0, Rel] at h ⊢ <;> exact h
theorem Rel.re1 {X : Nat → Prop} {B C : Nat} {ix : List Nat} {u : AVal} {x : Value} (h : Rel X B C w u x) : Rel X B C w (re1 ix u) x := by
  cases u <;> try (exact Rel.re0 (ix := ix) h)
  simp only [Av.re1, Rel] at h ⊢
  obtain ⟨arr, rfl, h⟩ := h
  exact ⟨arr, rfl, RelL.map (fun h => Rel.re0 h) h⟩
theorem Rel.re2 {X : Nat → Prop} {B C : Nat} {ix : List Nat} {u : AVal} {x : Value} (h : Rel X B C w u x) : Rel X B C w (re2 ix u) x := by
  cases u <;> try (exact Rel.re1 (ix := ix) h)
  simp only [Av.re2, Rel] at h ⊢
  obtain ⟨arr, rfl, h⟩ := h
  exact ⟨arr, rfl, RelL.map (fun h => Rel.re1 h) h⟩

/-- A CALL THAT IS LENT OWN BLOCKS, and may write those of 'mu' (they lie at 'ix'); what it hands back is new. -/
theorem VL_callM {ops : Array Oper} {rest : List Oper} {Q : Post} {d : Nat} {fo : Operand} {xs : List Operand} {ts : Array TypeId} {ty : TypeId} {pos : String} {after : Array Edge} {f : FuncId} {caps ins : List AVal} {ix : List Nat} {mu : List Ent} {post : AVal → List Ent → Prop}
    (hf : ev e fo = .fn f caps) [CallT P f] (hl : LendL G h (blks mu) (xs.map (ev e) ++ caps) ins) (hc : CtM P f ins mu post) (hat : MuAt h ix mu) (hmp : ∀ en ∈ mu, ∀ u ∈ en.cells, plainA u = true)
    (hpost : ∀ out mu', post out mu' → Fresh2 out ∧ ∀ en ∈ mu', ∀ u ∈ en.cells, plainA u = true) (hcan : xs.all canonO = true) (hcf : canonO fo = true) (hd : Nat.blt d n = true)
    (hk : ∀ out mu', post out mu' → VL P G n ops rest Q (upd e d (re2 ix out)) (updMu h ix mu')) :
    VL P G n ops (⟨some d, .call { callee := .value fo, args := xs.toArray, argTypes := ts }, ty, pos, after, none⟩ :: rest) Q e h := fun a w st => by
  refine wpList_plain rfl fun K hK => ?_
  have h1 := st.rel fo hcf
  rw [hf] at h1; simp only [Rel] at h1
  obtain ⟨arr, harr, hcaps⟩ := h1
  refine wp_callA (arr := arr) rfl harr ?_
  have hMX : ∀ b, blks mu b → Xs G h b := by
    rintro b ⟨en, h1, h2⟩
    obtain ⟨k, hk⟩ := List.mem_iff_getElem?.1 h1
    obtain ⟨i, _, h4⟩ := hat.at_ k en hk
    exact .inr (.inr ⟨i, en, h4, h2⟩)
  have hargs : RelL (fun b => False ∨ blks mu b) w.heap.size w.heap.size w ins (xs.map a.eval ++ arr) := by
    refine RelL.mono (WLe.shrink w fun b hb => hb.resolve_left id) ?_
    exact hl.rel st (relL_append (st.relArgs hcan).lower hcaps) _ _
  have hmu : MuOk (fun _ => False) w mu := {
    ok := fun en hen => by
      obtain ⟨k, hk⟩ := List.mem_iff_getElem?.1 hen
      obtain ⟨i, _, h4⟩ := hat.at_ k en hk
      exact EntOk.plain (hmp en hen) (st.own i en h4)
    notZ := fun _ _ hh => hh
    apart := fun k l en em b hk hl h1 h2 => by
      obtain ⟨i, h3, h4⟩ := hat.at_ k en hk
      obtain ⟨j, h5, h6⟩ := hat.at_ l em hl
      have := st.apart i j en em b h4 h6 h1 h2
      subst this
      exact hat.nodup k l i h3 h5 }
  refine (hc w _ (fun _ => False) w.heap.size (fun b hb => hb.elim) (Nat.le_refl _) hmu hargs).mono ?_
  rintro en w' ⟨x, out, mu', rfl, hp, hm, haft, hrel⟩
  obtain ⟨hfr, hpl⟩ := hpost out mu' hp
  refine ⟨x, rfl, hK _ _ (hk out mu' hp _ _ (St.put (st.callM hat hm haft hpl) d (by simpa using hd) _ x (Rel.re2 ?_)))⟩
  refine Rel.fresh2 hfr ?_ st.mod.size hrel
  rintro b (hx | hx | ⟨i, en, hi, hb⟩)
  · exact .inl (st.xlt (.inl hx))
  · exact .inl (st.xlt (.inr (.inl hx)))
  · rcases updMu_spec ix mu' i en hi with ⟨k, _, h2⟩ | ⟨_, h2⟩
    · exact .inr (.inr (.inr ⟨en, List.mem_of_getElem? h2, hb⟩))
    · exact .inl ((st.own i en h2).lt hb)

/-- The same, where nothing is written. -/
theorem VL_callL {ops : Array Oper} {rest : List Oper} {Q : Post} {d : Nat} {fo : Operand} {xs : List Operand} {ts : Array TypeId} {ty : TypeId} {pos : String} {after : Array Edge} {f : FuncId} {caps ins : List AVal} {post : AVal → Prop}
    (hf : ev e fo = .fn f caps) [CallT P f] (hl : LendL G h (fun _ => False) (xs.map (ev e) ++ caps) ins) (hc : Ct P f ins post) (hpost : ∀ out, post out → Fresh2 out) (hcan : xs.all canonO = true) (hcf : canonO fo = true) (hd : Nat.blt d n = true)
    (hk : ∀ out, post out → VL P G n ops rest Q (upd e d out) h) :
    VL P G n ops (⟨some d, .call { callee := .value fo, args := xs.toArray, argTypes := ts }, ty, pos, after, none⟩ :: rest) Q e h := by
  have hb : blks [] = fun _ => False := by funext b; exact propext ⟨fun ⟨en, h1, _⟩ => (by cases h1), fun hh => hh.elim⟩
  refine VL_callM (ix := []) (mu := []) hf (by rw [hb]; exact hl) hc (muAt_nil nodup_nil) (fun en hen => by cases hen) (fun out mu' ⟨h1, h2⟩ => ⟨hpost out h2, by subst h1; intro en hen; cases hen⟩) hcan hcf hd ?_
  rintro out mu' ⟨rfl, h2⟩
  have hre : ∀ u : AVal, re0 [] u = u := by intro u; cases u <;> simp [re0]
  have hre1 : ∀ u : AVal, re1 [] u = u := by intro u; cases u <;> simp [re1, hre]; exact List.map_id'' hre _ 
  have hre2 : re2 [] out = out := by cases out <;> simp [re2, hre1]; exact List.map_id'' hre1 _
  rw [hre2]
  exact hk out h2
end
end Go.Av
/-
Regions that draw their order: the lexical order serves every order.
-/
namespace Go.Av
open Go.RowKit

section
variable {P : Program} {G : Glob} {n : Nat} {h : Hp} {ops : Array Oper} {md : Region.Mode}

/-- In every state that 'e' tells, the operation yields what 'u' tells, and only new blocks come. -/
def EvQ (P : Program) (G : Glob) (n : Nat) (h : Hp) (o : Oper) (u : AVal) (e : Env) : Prop :=
  ∀ a w, St G n e h a w →
    (∃ x w', (execOp a.eval o).run P w = .ok (.value x) w' ∧ Mod (fun _ => False) w w' ∧ Rel (Xs G h) G.B G.w0.heap.size w' u x) ∨
    (∃ f args, (execOp a.eval o).run P w = .ok (.enter f args) w ∧ Calls P f args w fun en w' => ∃ x, en = .returned x ∧ Mod (fun _ => False) w w' ∧ Rel (Xs G h) G.B G.w0.heap.size w' u x)

theorem EvQ.wp {o : Oper} {u : AVal} {e : Env} (hq : EvQ P G n h o u e) {a : Act} {w : World} (st : St G n e h a w) {K : Act → World → Prop} {Q' : Exit → Act → World → Prop}
    (hk : ∀ x w', Mod (fun _ => False) w w' → Rel (Xs G h) G.B G.w0.heap.size w' u x → K (a.put o.dst x) w') : o.wp P a w K Q' := by
  unfold Oper.wp
  rcases hq a w st with ⟨x, w', hr, hm, hx⟩ | ⟨f, args, hr, hc⟩
  · rw [hr]; exact hk x w' hm hx
  · rw [hr, Oper.upon_enter]
    exact hc.mono fun en w' ⟨x, h1, hm, hx⟩ => by subst h1; exact hk x w' hm hx
/-- There is such a value before the operation already. -/
def ExU (G : Glob) (n : Nat) (h : Hp) (u : AVal) (e : Env) : Prop := ∀ a w, St G n e h a w → ∃ x, Rel (Xs G h) G.B G.w0.heap.size w u x
theorem ExU.anti {u : AVal} {e e' : Env} (he : EnvLe e' e) (hq : ExU G n h u e) : ExU G n h u e' := fun a w st => hq a w (st.weaken he (HpLe.refl h))
/-- The first k operations are listed. -/
def pre (m : Nat) : Nat → Array Bool
  | 0 => Array.replicate m false
  | k + 1 => (pre m k).setIfInBounds k true
def soloB (ops : Array Oper) (k : Nat) : Bool := Region.ready .any ops (pre ops.size k) == [k]

/-- Whether the guard says yes. -/
def Wanted (ops : Array Oper) (e : Env) (o : Oper) (b : Bool) : Prop :=
  (o.guard = none ∧ b = true) ∨ ∃ g want j, o.guard = some (g, want) ∧ (ops[g]?).bind (·.dst) = some j ∧ ((∃ t, e j = .v (.bool t) ∧ b = (t == want)) ∨ (e j = .v undef ∧ b = false))

def qA (P : Program) (G : Glob) (n : Nat) (h : Hp) (ops : Array Oper) (o : Oper) (K : Env → Prop) (e : Env) : Prop :=
  ∃ d, o.dst = some d ∧ d < n ∧ ((Wanted ops e o true ∧ ∃ u, EvQ P G n h o u e ∧ K (upd e d u)) ∨ (Wanted ops e o false ∧ K (upd e d (.v undef))))

def qV (P : Program) (G : Glob) (n : Nat) (h : Hp) (ops : Array Oper) (o : Oper) (k : Nat) (K : Env → Prop) (e : Env) : Prop :=
  ∃ d, o.dst = some d ∧ d < n ∧ ((Wanted ops e o true ∧ ∃ u, EvQ P G n h o u e ∧ (ExU G n h u e ∨ soloB ops k = true) ∧ K (upd e d u)) ∨ (Wanted ops e o false ∧ K (upd e d (.v undef))))

/-- The lexical walk. -/
def VQ (P : Program) (G : Glob) (n : Nat) (h : Hp) (ops : Array Oper) (K : Env → Prop) : List Oper → Env → Prop
  | [], e => K e
  | o :: rest, e => qV P G n h ops o (ops.size - (rest.length + 1)) (VQ P G n h ops K rest) e

def qAi (P : Program) (G : Glob) (n : Nat) (h : Hp) (ops : Array Oper) (i : Nat) (K : Env → Prop) (e : Env) : Prop :=
  ∃ o, ops[i]? = some o ∧ qA P G n h ops o K e

def AnyA (P : Program) (G : Glob) (n : Nat) (h : Hp) (md : Region.Mode) (ops : Array Oper) (K : Env → Prop) : Nat → Array Bool → Env → Prop
  | 0, listed, e => Region.ready md ops listed = [] ∧ K e
  | fuel + 1, listed, e => (Region.ready md ops listed = [] → K e) ∧ ∀ i ∈ Region.ready md ops listed, qAi P G n h ops i (AnyA P G n h md ops K fuel (listed.setIfInBounds i true)) e

theorem bool_of_env {e : Env} {a : Act} {w : World} (st : St G n e h a w) {j : Nat} {t : Bool} (hv : e j = .v (.bool t)) : a.tmps[j]? = some (.bool t) := by
  have h1 := st.env j
  rw [hv] at h1; simp only [Rel] at h1
  have h2 := c0_bool h1
  rw [Array.getD_eq_getD_getElem?] at h2
  cases hj : a.tmps[j]? with
  | none => rw [hj] at h2; simp [undef] at h2
  | some y => rw [hj] at h2; simp at h2; rw [h2]

theorem wanted_of {e : Env} {a : Act} {w : World} (st : St G n e h a w) {o : Oper} {b : Bool} (hw : Wanted ops e o b) : Region.wanted o (yielded ops a.tmps) = b := by
  rcases hw with ⟨h1, rfl⟩ | ⟨g, want, j, h1, h2, ⟨t, h3, rfl⟩ | ⟨h3, rfl⟩⟩
  · simp [Region.wanted, h1]
  · have hb := bool_of_env st h3
    simp only [Region.wanted, h1, yielded, h2, Option.bind_some]
    rw [hb]
    cases t <;> cases want <;> rfl
  · have hne : ∀ b, a.tmps[j]? ≠ some (.bool b) := by
      intro b hb
      have h4 := st.env j
      rw [h3] at h4; simp only [Rel] at h4
      rw [Array.getD_eq_getD_getElem?, hb] at h4
      simp [c0, undef] at h4
    simp only [Region.wanted, h1, yielded, h2]
    cases hj : a.tmps[j]? with
    | none => simp [hj]
    | some y => cases y <;> simp [hj]; exact absurd hj (hne _)

/-- Every order, concretely. -/
theorem wpAny_of_A {K : Env → Prop} {Q' : Exit → Act → World → Prop} (hK : ∀ a w e, St G n e h a w → K e → Q' .normal a w) : ∀ (fuel : Nat) (listed : Array Bool) (e : Env) (a : Act) (w : World),
    AnyA P G n h md ops K fuel listed e → St G n e h a w → wpAny P md ops Q' fuel listed a w
  | 0, _, _, a, w, ha, st => ⟨ha.1, hK a w _ st ha.2⟩
  | fuel + 1, listed, e, a, w, ha, st => ⟨fun h0 => hK a w _ st (ha.1 h0), fun i hi => by
    obtain ⟨o, ho, d, hd, hdn, hq⟩ := ha.2 i hi
    unfold wpOp
    simp only [ho]
    rcases hq with ⟨hwa, u, hev, hn⟩ | ⟨hwa, hn⟩
    · rw [if_pos (wanted_of st hwa)]
      refine .inl (hev.wp st fun x w' hm hx => ?_)
      refine wpAny_of_A hK fuel _ _ _ _ hn ?_
      rw [hd]
      exact St.put (st.ext hm) d hdn u x hx
    · rw [if_neg (by rw [wanted_of st hwa]; simp)]
      rw [hd]
      exact wpAny_of_A hK fuel _ _ _ _ hn (st.put d hdn _ _ (by simp [Rel, c0, undef]))⟩

theorem EvQ.anti {o : Oper} {u : AVal} {e e' : Env} (he : EnvLe e' e) (hq : EvQ P G n h o u e) : EvQ P G n h o u e' := fun a w st => hq a w (st.weaken he (HpLe.refl h))

/-- An operation that is apart does not see what another one has left. -/
theorem EvQ.swap {oi oj : Oper} {ui uj : AVal} {di : Nat} {e : Env} (hdi : oi.dst = some di) (hdn : di < n) (hap : oi.apart ops oj = true) (hsj : ∀ cs b, oj.op ≠ .select cs b)
    (hi : ∀ a w, St G n e h a w → ∃ x, Rel (Xs G h) G.B G.w0.heap.size w ui x) (hj : EvQ P G n h oj uj (upd e di ui)) : EvQ P G n h oj uj e := by
  intro a w st
  obtain ⟨h1, h2, h3⟩ := Oper.apart_spec hap
  obtain ⟨x, hx⟩ := hi a w st
  have st2 : St G n (upd e di ui) h (a.put (some di) x) w := st.put di hdn ui x hx
  have hrun : execOp (a.put (some di) x).eval oj = execOp a.eval oj := execOp_put (ops := ops) oj hsj a (some di) x (fun d hd => h1 d (by rw [hdi]; exact hd))
  have h4 := hj _ w st2
  rw [hrun] at h4
  exact h4

theorem upd_comm {α : Type} (f : Nat → α) {i j : Nat} (x y : α) (hij : i ≠ j) : upd (upd f i x) j y = upd (upd f j y) i x := by
  funext t
  by_cases h1 : t = i
  · subst h1; rw [upd_other _ _ _ hij, upd_same, upd_same]
  · by_cases h2 : t = j
    · subst h2; rw [upd_same, upd_other _ _ _ h1, upd_same]
    · rw [upd_other _ _ _ h2, upd_other _ _ _ h1, upd_other _ _ _ h1, upd_other _ _ _ h2]

/-- 'oi' yields 'ui' here (or is passed over). -/
def YA (P : Program) (G : Glob) (n : Nat) (h : Hp) (ops : Array Oper) (o : Oper) (u : AVal) (e : Env) : Prop :=
  (Wanted ops e o true ∧ EvQ P G n h o u e ∧ ExU G n h u e) ∨ (Wanted ops e o false ∧ u = .v undef)

theorem YA.exists {o : Oper} {u : AVal} {e : Env} (hy : YA P G n h ops o u e) : ∀ a w, St G n e h a w → ∃ x, Rel (Xs G h) G.B G.w0.heap.size w u x := fun a w st => by
  rcases hy with ⟨_, _, hq⟩ | ⟨_, rfl⟩
  · exact hq a w st
  · exact ⟨undef, by simp [Rel, c0, undef]⟩

theorem Wanted.other {e : Env} {o : Oper} {b : Bool} {d : Nat} {u : AVal} (hd : d ∉ o.looksAt ops) (hw : Wanted ops (upd e d u) o b) : Wanted ops e o b := by
  rcases hw with h1 | ⟨g, want, j, h1, h2, h3⟩
  · exact .inl h1
  · have hjd : j ≠ d := fun hh => hd (by subst hh; simp [Oper.looksAt, h1, h2])
    rw [upd_other _ _ _ hjd] at h3
    exact .inr ⟨g, want, j, h1, h2, h3⟩
theorem Wanted.other' {e : Env} {o : Oper} {b : Bool} {d : Nat} {u : AVal} (hd : d ∉ o.looksAt ops) (hw : Wanted ops e o b) : Wanted ops (upd e d u) o b := by
  rcases hw with h1 | ⟨g, want, j, h1, h2, h3⟩
  · exact .inl h1
  · have hjd : j ≠ d := fun hh => hd (by subst hh; simp [Oper.looksAt, h1, h2])
    refine .inr ⟨g, want, j, h1, h2, ?_⟩
    rw [upd_other _ _ _ hjd]; exact h3

theorem anyA_first {K : Env → Prop} {i : Nat} {oi : Oper} {ui : AVal} {di : Nat} (hi : ops[i]? = some oi) (hdi : oi.dst = some di) (hdn : di < n) (hsel : ∀ (j : Nat) (o : Oper) cs b, ops[j]? = some o → o.op ≠ .select cs b)
    (hdst : ∀ (j k : Nat) (oj ok : Oper) d, ops[j]? = some oj → ops[k]? = some ok → oj.dst = some d → ok.dst = some d → j = k) :
    ∀ (fuel : Nat) (listed : Array Bool) (e : Env),
      (∀ j oj d, ops[j]? = some oj → listed.getD j true = false → oj.dst = some d → e d = .any) →
      (∀ j oj, ops[j]? = some oj → j ≠ i → listed.getD j true = false → (∀ ed ∈ oj.after, Region.binds md ed = true → ed.on ≠ i) → oi.apart ops oj = true) →
      i ∈ Region.ready md ops listed → YA P G n h ops oi ui e →
      AnyA P G n h md ops K fuel (listed.setIfInBounds i true) (upd e di ui) → AnyA P G n h md ops K (fuel + 1) listed e := by
  intro fuel
  have here : ∀ (fuel : Nat) (listed : Array Bool) (e : Env), YA P G n h ops oi ui e → AnyA P G n h md ops K fuel (listed.setIfInBounds i true) (upd e di ui) → qAi P G n h ops i (AnyA P G n h md ops K fuel (listed.setIfInBounds i true)) e := by
    intro fuel listed e hy H
    rcases hy with ⟨h1, h2, _⟩ | ⟨h1, rfl⟩
    · exact ⟨oi, hi, di, hdi, hdn, .inl ⟨h1, ui, h2, H⟩⟩
    · exact ⟨oi, hi, di, hdi, hdn, .inr ⟨h1, H⟩⟩
  induction fuel with
  | zero =>
    intro listed e _ _ hr hy H
    refine ⟨fun h => (by rw [h] at hr; cases hr), fun j hj => ?_⟩
    by_cases hji : j = i
    · subst hji; exact here 0 listed e hy H
    · have := ready_mono hj hji
      rw [H.1] at this
      cases this
  | succ fuel ih =>
    intro listed e hany hfree hr hy H
    refine ⟨fun h => (by rw [h] at hr; cases hr), fun j hj => ?_⟩
    by_cases hji : j = i
    · subst hji; exact here _ listed e hy H
    · obtain ⟨oj, hoj, dj, hdj, hdjn, hq⟩ := H.2 j (ready_mono hj hji)
      obtain ⟨hjun, oj', hoj', hall⟩ := mem_ready.1 hj
      obtain rfl : oj' = oj := by rw [hoj] at hoj'; exact (Option.some.inj hoj').symm
      have hnot : ∀ ed ∈ oj'.after, Region.binds md ed = true → ed.on ≠ i := fun ed he hb heq => by
        have h1 := hall ed he hb
        have h0 := (mem_ready.1 hr).1
        rw [heq] at h1
        rcases Nat.lt_or_ge i listed.size with h' | h'
        · simp [h'] at h0 h1; rw [h0] at h1; cases h1
        · simp [Array.getElem?_eq_none h'] at h1
      have hap := hfree j oj' hoj hji hjun hnot
      obtain ⟨a1, a2, a3⟩ := Oper.apart_spec hap
      have hne : di ≠ dj := fun hh => a2 di hdi (by rw [hdj, hh])
      have hanyj : e dj = .any := hany j oj' dj hoj hjun hdj
      have hle : ∀ uj, EnvLe (upd e dj uj) e := fun uj t => by
        by_cases ht : t = dj
        · subst ht; rw [hanyj]; exact ALe.any _
        · rw [upd_other _ _ _ ht]; exact ALe.rfl' rfl
      have hyj : ∀ uj, YA P G n h ops oi ui (upd e dj uj) := fun uj => by
        rcases hy with ⟨h1, h2, h3⟩ | ⟨h1, h2⟩
        · exact .inl ⟨h1.other' (a3 dj hdj), h2.anti (hle uj), h3.anti (hle uj)⟩
        · exact .inr ⟨h1.other' (a3 dj hdj), h2⟩
      have hfree' : ∀ k ok, ops[k]? = some ok → k ≠ i → (listed.setIfInBounds j true).getD k true = false →
          (∀ ed ∈ ok.after, Region.binds md ed = true → ed.on ≠ i) → oi.apart ops ok = true := fun k ok hk hki hun hno => by
        refine hfree k ok hk hki ?_ hno
        by_cases hjk : j = k
        · subst hjk; exact hjun
        · rw [getD_set_ne true hjk] at hun; exact hun
      have hnext : ∀ uj, AnyA P G n h md ops K fuel ((listed.setIfInBounds i true).setIfInBounds j true) (upd (upd e di ui) dj uj) → AnyA P G n h md ops K (fuel + 1) (listed.setIfInBounds j true) (upd e dj uj) := fun uj hn => by
        refine ih (listed.setIfInBounds j true) (upd e dj uj) ?_ hfree' (ready_mono hr (Ne.symm hji)) (hyj uj) ?_
        · intro k ok d hk hun hd
          by_cases hkj : j = k
          · subst hkj
            exfalso
            have hlt : j < listed.size := by
              rcases Nat.lt_or_ge j listed.size with h' | h'
              · exact h'
              · simp [Array.getElem?_eq_none h'] at hjun
            simp [hlt] at hun
          · rw [getD_set_ne true hkj] at hun
            by_cases hdd : d = dj
            · subst hdd
              -- two operations that write one slot: one of them is already listed
              exact absurd (hdst j k oj' ok d hoj hk hdj hd) hkj
            · rw [upd_other _ _ _ hdd]; exact hany k ok d hk hun hd
        · rw [Array.setIfInBounds_comm _ _ hji]
          rw [upd_comm _ _ _ (Ne.symm hne)]
          exact hn
      refine ⟨oj', hoj, dj, hdj, hdjn, ?_⟩
      rcases hq with ⟨hwa, uj, hev, hn⟩ | ⟨hwa, hn⟩
      · exact .inl ⟨hwa.other (a1 di hdi), uj, EvQ.swap hdi hdn hap (fun cs b => hsel j oj' cs b hoj) hy.exists hev, hnext uj hn⟩
      · exact .inr ⟨hwa.other (a1 di hdi), hnext _ hn⟩

theorem anyA_lex {K : Env → Prop} (hs : Region.noSelect ops = true) (hdst : ∀ (j k : Nat) (oj ok : Oper) d, ops[j]? = some oj → ops[k]? = some ok → oj.dst = some d → ok.dst = some d → j = k) :
    ∀ (l : List Oper) (k : Nat) (listed : Array Bool) (e : Env), md = .any → listed = pre ops.size k → k + l.length = ops.size → (∀ j, l[j]? = ops[k + j]?) → (∀ j oj d, ops[j]? = some oj → listed.getD j true = false → oj.dst = some d → e d = .any) →
      Region.lexFrom md ops l.length k listed = true → VQ P G n h ops K l e → AnyA P G n h md ops K l.length listed e
  | [], _, _, _, _, _, _, _, _, hB, hv => ⟨by simpa [Region.lexFrom] using hB, hv⟩
  | o :: l, k, listed, e, hmd, hpre, hkl, hl, hany, hB, hv => by
    have h0 : ops[k]? = some o := by simpa using (hl 0).symm
    simp only [List.length_cons, Region.lexFrom, Bool.and_eq_true] at hB
    obtain ⟨⟨hr, hf⟩, hB'⟩ := hB
    obtain ⟨d, hd, hdn, hq⟩ := hv
    have hk1 := mem_ready.1 (show k ∈ Region.ready md ops listed by simpa using hr)
    have hany' : ∀ u, ∀ j oj d', ops[j]? = some oj → (listed.setIfInBounds k true).getD j true = false → oj.dst = some d' → upd e d u d' = .any := by
      intro u j oj d' hj hun hd'
      by_cases hkj : k = j
      · subst hkj
        exfalso
        have hlt : k < listed.size := by
          rcases Nat.lt_or_ge k listed.size with h' | h'
          · exact h'
          · have := hk1.1; simp [Array.getElem?_eq_none h'] at this
        simp [hlt] at hun
      · rw [getD_set_ne true hkj] at hun
        by_cases hdd : d' = d
        · subst hdd; exact absurd (hdst k j o oj d' h0 hj hd hd') hkj
        · rw [upd_other _ _ _ hdd]; exact hany j oj d' hj hun hd'
    have hl' : ∀ j, l[j]? = ops[k + 1 + j]? := fun j => by have := hl (j + 1); simpa [Nat.add_assoc, Nat.add_comm 1 j] using this
    have hkl' : k + 1 + l.length = ops.size := by simp only [List.length_cons] at hkl; omega
    have hpre' : listed.setIfInBounds k true = pre ops.size (k + 1) := by rw [hpre]; rfl
    have hk0 : ops.size - (l.length + 1) = k := by simp only [List.length_cons] at hkl; omega
    rw [hk0] at hq
    rcases hq with ⟨hwa, u, hev, hex | hso, hn⟩ | ⟨hwa, hn⟩
    · exact anyA_first h0 hd hdn (Region.noSelect_spec hs) hdst l.length listed e hany (Region.free_spec h0 hf) (by simpa using hr) (.inl ⟨hwa, hev, hex⟩)
        (anyA_lex hs hdst l (k + 1) _ _ hmd hpre' hkl' hl' (hany' u) hB' hn)
    · have hsr : Region.ready md ops listed = [k] := by
        unfold soloB at hso
        rw [hmd, hpre]
        simpa using hso
      refine ⟨fun hnil => (by rw [hsr] at hnil; cases hnil), fun i hi => ?_⟩
      rw [hsr] at hi
      simp only [List.mem_singleton] at hi
      subst hi
      exact ⟨o, h0, d, hd, hdn, .inl ⟨hwa, u, hev, anyA_lex hs hdst l (i + 1) _ _ hmd hpre' hkl' hl' (hany' u) hB' hn⟩⟩
    · exact anyA_first h0 hd hdn (Region.noSelect_spec hs) hdst l.length listed e hany (Region.free_spec h0 hf) (by simpa using hr) (.inr ⟨hwa, rfl⟩)
        (anyA_lex hs hdst l (k + 1) _ _ hmd hpre' hkl' hl' (hany' _) hB' hn)

/-- No two operations of the region write one slot. -/
def dstApart (ops : List Oper) : Bool := (ops.filterMap (·.dst)).length == ops.length && decide (ops.filterMap (·.dst)).Nodup

theorem filterMap_full {l : List Oper} (h : (l.filterMap (·.dst)).length = l.length) : ∀ j : Nat, (l.filterMap (·.dst))[j]? = (l[j]?).bind (·.dst) := by
  induction l with
  | nil => intro j; simp
  | cons o l ih =>
    intro j
    cases ho : o.dst with
    | none =>
      exfalso
      have := List.length_filterMap_le (fun o : Oper => o.dst) l
      simp [ho] at h; omega
    | some d =>
      have h' : (l.filterMap (·.dst)).length = l.length := by simpa [List.filterMap_cons, ho] using h
      cases j with
      | zero => simp [ho]
      | succ j => simpa [List.filterMap_cons, ho] using ih h' j

theorem dstApart_spec {l : List Oper} (h : dstApart l = true) : ∀ (j k : Nat) (oj ok : Oper) d, l.toArray[j]? = some oj → l.toArray[k]? = some ok → oj.dst = some d → ok.dst = some d → j = k := by
  simp only [dstApart, Bool.and_eq_true, beq_iff_eq, decide_eq_true_eq] at h
  obtain ⟨h1, h2⟩ := h
  intro j k oj ok d hj hk hdj hdk
  have ej : (l.filterMap (·.dst))[j]? = some d := by rw [filterMap_full h1]; simp at hj; simp [hj, hdj]
  have ek : (l.filterMap (·.dst))[k]? = some d := by rw [filterMap_full h1]; simp at hk; simp [hk, hdk]
  exact (List.getElem?_inj (List.getElem?_eq_some_iff.1 ej).1 h2).1 (ej.trans ek.symm)

/-- The slots that a region writes hold nothing that is known. -/
def clearD (l : List Oper) (e : Env) : Env := fun t => bif (l.filterMap (·.dst)).contains t then .any else e t

theorem V_draw {id : Nat} {Q : Post} {e : Env} {l : List Oper} (hm : P.follows .mixedOrders = true) (hB : Region.lexB .any l.toArray = true) (hd : dstApart l = true)
    (hv : VQ P G n h l.toArray (fun e' => Q .normal e' h) l (clearD l e)) : V P G n (.region id l.toArray true) Q e h := fun a w st => by
  simp only [Region.lexB, Bool.and_eq_true] at hB
  refine wp_region_any hm ?_
  have st0 : St G n (clearD l e) h a { w with drawn := w.drawn + 1 } := (st.same (Same.drew w)).weaken (fun t => by
    unfold clearD
    cases hc : (l.filterMap (·.dst)).contains t
    · exact ALe.rfl' rfl
    · exact ALe.any _) (HpLe.refl h)
  have hlex := anyA_lex (P := P) (G := G) (n := n) (h := h) (md := .any) (ops := l.toArray) (K := fun e' => Q .normal e' h) hB.1 (dstApart_spec hd) l 0 (Array.replicate l.toArray.size false) (clearD l e) rfl rfl (by simp) (by simp)
    (fun j oj d hj _ hdj => by
      unfold clearD
      have : (l.filterMap (·.dst)).contains d = true := by
        simp only [List.contains_iff_mem, List.mem_filterMap]
        exact ⟨oj, List.mem_of_getElem? (by simpa using hj), hdj⟩
      rw [this]; rfl) (by simpa using hB.2) hv
  exact wpAny_of_A (fun a w e st hk => ⟨e, h, st, hk⟩) _ _ _ _ _ (by simpa using hlex) st0

theorem exU_of_op {e : Env} {op : Op} {ty : TypeId} {u : AVal} (ho : EvalOp P G n e h op ty u) : ExU G n h u e := fun a w st => by
  obtain ⟨x, w', h1, h2, h3⟩ := ho a w st none "" #[] none
  exact ⟨x, Rel.mono ⟨by rw [h2.heap]; exact Nat.le_refl _, fun b _ hn => ⟨hn, by rw [h2.heap]⟩⟩ h3⟩
theorem evQ_of_op {e : Env} {op : Op} {ty : TypeId} {u : AVal} {d : Nat} {pos : String} {after : Array Edge} {gd : Option (Nat × Bool)} (ho : EvalOp P G n e h op ty u) : EvQ P G n h ⟨some d, op, ty, pos, after, gd⟩ u e := fun a w st => by
  obtain ⟨x, w', h1, h2, h3⟩ := ho a w st (some d) pos after gd
  exact .inl ⟨x, w', h1, ⟨h2.os, h2.tape, h2.output, by rw [h2.heap]; exact Nat.le_refl _, fun b _ _ => by rw [h2.heap]⟩, h3⟩

/-- A call that hands back numbers alone. -/
theorem evQ_of_call {e : Env} {fo : Operand} {xs : List Operand} {ts : Array TypeId} {ty : TypeId} {u : AVal} {d : Nat} {pos : String} {after : Array Edge} {gd : Option (Nat × Bool)} {f : FuncId} {caps ins : List AVal}
    (hf : ev e fo = .fn f caps) [hk : CallT P f] (hl : LendL G h (fun _ => False) (xs.map (ev e) ++ caps) ins) (hc : Ct P f ins (· = u)) (hu : Fresh2 u) (hcan : xs.all canonO = true) (hcf : canonO fo = true) :
    EvQ P G n h ⟨some d, .call { callee := .value fo, args := xs.toArray, argTypes := ts }, ty, pos, after, gd⟩ u e := fun a w st => by
  have h1 := st.rel fo hcf
  rw [hf] at h1; simp only [Rel] at h1
  obtain ⟨arr, harr, hcaps⟩ := h1
  have hb : ∀ b, ¬ blks [] b := fun b ⟨en, h1, _⟩ => by cases h1
  have hck := hk.ok
  unfold chkCall at hck
  cases hfn : P.funcs[f]? with
  | none => simp [hfn] at hck
  | some fn =>
    simp only [hfn, Bool.and_eq_true, Bool.not_eq_true'] at hck
    have hbody : fn.body.isNone = false := by cases hb : fn.body <;> simp_all
    refine .inr ⟨f, (xs.map a.eval ++ arr).toArray, ?_, ?_⟩
    · unfold execOp
      simp only [resolve, harr, Deferred.ofValue, Sem.run_bind, Sem.run_pure, Result.andThen_ok, invoke, callFunc, run_program, hfn, hck.2, hbody, Bool.false_eq_true, if_false]
      simp
    · have hargs : RelL (fun b => False ∨ blks [] b) w.heap.size w.heap.size w ins (xs.map a.eval ++ arr) :=
        RelL.mono (WLe.shrink w fun b hh => hh.elim id fun h => hb b h) (hl.rel st (relL_append (st.relArgs hcan).lower hcaps) _ _)
      refine (hc w _ (fun _ => False) w.heap.size (fun b hh => hh.elim) (Nat.le_refl _) ⟨fun en hen => (by cases hen), fun b hh => absurd hh (hb b), fun i j en em b hi => (by simp at hi)⟩ hargs).mono ?_
      rintro en w' ⟨x, out, mu', rfl, ⟨rfl, rfl⟩, hm, _, hrel⟩
      exact ⟨x, rfl, ⟨hm.os, hm.tape, hm.output, hm.size, fun b hlt _ => hm.block b hlt (hb b)⟩, Rel.fresh2 hu (fun b hx => .inl (st.xlt hx)) st.mod.size hrel⟩
theorem fresh0_plain {u : AVal} (hu : plainA u = true) : Fresh0 u := by cases u <;> simp [plainA, Fresh0] at hu ⊢
theorem fresh2_plain {u : AVal} (hu : plainT u = true) : Fresh2 u := by
  cases u <;> simp only [plainT, plainA, Fresh2, Fresh1, Fresh0] at hu ⊢ <;> try (cases hu; done)
  intro v hv
  have h1 := List.all_eq_true.1 hu v hv
  cases v <;> first | trivial | (simp [plainA] at h1)
theorem exU_plain {u : AVal} {e : Env} {o : Oper} (hu : plainT u = true) (hq : EvQ P G n h o u e) : ExU G n h u e := fun a w st => by
  rcases hq a w st with ⟨x, w', hr, hm, hx⟩ | ⟨f, args, hr, hc⟩
  · exact ⟨x, Rel.plainT hu hx⟩
  · obtain ⟨_, _, _, ⟨x, _, _, hx⟩, _⟩ := hc []
    exact ⟨x, Rel.plainT hu hx⟩
end
end Go.Av
/-
The rules of the walk, with their side conditions found by themselves. (The E_ rules are written by a program off the theorems op_*.)
-/
namespace Go.Av
open Go.RowKit

section
variable {P : Program} {G : Glob} {n : Nat} {e : Env} {h : Hp} {ty : TypeId}

theorem E_move {x : Operand} {u : AVal} (hc : canonO x = true := by rfl) (hu : ev e x = u := by (conv => lhs; whnf) <;> rfl) : EvalOp P G n e h (.move x) ty u := hu ▸ op_move hc
theorem E_assign {x : Operand} {u : AVal} (hc : canonO x = true := by rfl) (hu : ev e x = u := by (conv => lhs; whnf) <;> rfl) : EvalOp P G n e h (.assign x) ty u := hu ▸ op_assign hc
theorem E_pick_true {c x y : Operand} {u : AVal} (hb : ev e c = .v (.bool true) := by rfl) (hc : canonO c = true := by rfl) (hx : canonO x = true := by rfl) (hu : ev e x = u := by (conv => lhs; whnf) <;> rfl) : EvalOp P G n e h (.pick c x y) ty u := hu ▸ op_pick_true hb hc hx
theorem E_pick_false {c x y : Operand} {u : AVal} (hb : ev e c = .v (.bool false) := by rfl) (hc : canonO c = true := by rfl) (hy : canonO y = true := by rfl) (hu : ev e y = u := by (conv => lhs; whnf) <;> rfl) : EvalOp P G n e h (.pick c x y) ty u := hu ▸ op_pick_false hb hc hy
theorem E_pick {c x y : Operand} {t p q : Bool} (hb : ev e c = .v (.bool t) := by rfl) (hp : ev e x = .v (.bool p) := by rfl) (hq : ev e y = .v (.bool q) := by rfl) (hc : canonO c = true := by rfl) (hx : canonO x = true := by rfl) (hy : canonO y = true := by rfl) : EvalOp P G n e h (.pick c x y) ty (.v (.bool (bif t then p else q))) := op_pick hb hp hq hc hx hy
theorem E_int {op : BinOp} {xt yt : TypeId} {x y : Operand} {k : IntKind} {p q : Int} {r : Value} (hx : ev e x = .v (.int k p) := by rfl) (hy : ev e y = .v (.int k q) := by rfl) (hcx : canonO x = true := by rfl) (hcy : canonO y = true := by rfl) (hr : ∀ w, (binOp op xt (.int k p) (.int k q)).run P w = .ok r w := by rfl) (hc : c0 r = r := by rfl) : EvalOp P G n e h (.binOp op xt x y yt) ty (.v r) := op_int hx hy hcx hcy hr hc
theorem E_add {xt yt : TypeId} {x y : Operand} {k : IntKind} {p q : Int} (hx : ev e x = .v (.int k p) := by rfl) (hy : ev e y = .v (.int k q) := by rfl) (hcx : canonO x = true := by rfl) (hcy : canonO y = true := by rfl) : EvalOp P G n e h (.binOp .add xt x y yt) ty (.v (.int k (k.wrap (p + q)))) := op_add hx hy hcx hcy
theorem E_sub {xt yt : TypeId} {x y : Operand} {k : IntKind} {p q : Int} (hx : ev e x = .v (.int k p) := by rfl) (hy : ev e y = .v (.int k q) := by rfl) (hcx : canonO x = true := by rfl) (hcy : canonO y = true := by rfl) : EvalOp P G n e h (.binOp .sub xt x y yt) ty (.v (.int k (k.wrap (p - q)))) := op_sub hx hy hcx hcy
theorem E_mul {xt yt : TypeId} {x y : Operand} {k : IntKind} {p q : Int} (hx : ev e x = .v (.int k p) := by rfl) (hy : ev e y = .v (.int k q) := by rfl) (hcx : canonO x = true := by rfl) (hcy : canonO y = true := by rfl) : EvalOp P G n e h (.binOp .mul xt x y yt) ty (.v (.int k (k.wrap (p * q)))) := op_mul hx hy hcx hcy
theorem E_addi {xt yt : TypeId} {x y : Operand} {p q : Int} (hx : ev e x = .v (.int .i64 p) := by rfl) (hy : ev e y = .v (.int .i64 q) := by rfl) (hcx : canonO x = true := by rfl) (hcy : canonO y = true := by rfl) (h1 : -9223372036854775808 ≤ p + q ∧ p + q ≤ 9223372036854775807 := by omega) : EvalOp P G n e h (.binOp .add xt x y yt) ty (.v (.int .i64 (p + q))) := op_addi hx hy hcx hcy h1
theorem E_subi {xt yt : TypeId} {x y : Operand} {p q : Int} (hx : ev e x = .v (.int .i64 p) := by rfl) (hy : ev e y = .v (.int .i64 q) := by rfl) (hcx : canonO x = true := by rfl) (hcy : canonO y = true := by rfl) (h1 : -9223372036854775808 ≤ p - q ∧ p - q ≤ 9223372036854775807 := by omega) : EvalOp P G n e h (.binOp .sub xt x y yt) ty (.v (.int .i64 (p - q))) := op_subi hx hy hcx hcy h1
theorem E_muli {xt yt : TypeId} {x y : Operand} {p q : Int} (hx : ev e x = .v (.int .i64 p) := by rfl) (hy : ev e y = .v (.int .i64 q) := by rfl) (hcx : canonO x = true := by rfl) (hcy : canonO y = true := by rfl) (h1 : -9223372036854775808 ≤ p * q ∧ p * q ≤ 9223372036854775807 := by omega) : EvalOp P G n e h (.binOp .mul xt x y yt) ty (.v (.int .i64 (p * q))) := op_muli hx hy hcx hcy h1
theorem E_quoi {xt yt : TypeId} {x y : Operand} {p q : Int} (hx : ev e x = .v (.int .i64 p) := by rfl) (hy : ev e y = .v (.int .i64 q) := by rfl) (hcx : canonO x = true := by rfl) (hcy : canonO y = true := by rfl) (h0 : 0 ≤ p ∧ 0 < q ∧ p ≤ 9223372036854775807 := by omega) : EvalOp P G n e h (.binOp .quo xt x y yt) ty (.v (.int .i64 (p / q))) := op_quoi hx hy hcx hcy h0
theorem E_remi {xt yt : TypeId} {x y : Operand} {p q : Int} (hx : ev e x = .v (.int .i64 p) := by rfl) (hy : ev e y = .v (.int .i64 q) := by rfl) (hcx : canonO x = true := by rfl) (hcy : canonO y = true := by rfl) (h0 : 0 ≤ p ∧ 0 < q := by omega) : EvalOp P G n e h (.binOp .rem xt x y yt) ty (.v (.int .i64 (p % q))) := op_remi hx hy hcx hcy h0
theorem E_lss {xt yt : TypeId} {x y : Operand} {k : IntKind} {p q : Int} (hx : ev e x = .v (.int k p) := by rfl) (hy : ev e y = .v (.int k q) := by rfl) (hcx : canonO x = true := by rfl) (hcy : canonO y = true := by rfl) : EvalOp P G n e h (.binOp .lss xt x y yt) ty (.v (.bool (decide (p < q)))) := op_lss hx hy hcx hcy
theorem E_leq {xt yt : TypeId} {x y : Operand} {k : IntKind} {p q : Int} (hx : ev e x = .v (.int k p) := by rfl) (hy : ev e y = .v (.int k q) := by rfl) (hcx : canonO x = true := by rfl) (hcy : canonO y = true := by rfl) : EvalOp P G n e h (.binOp .leq xt x y yt) ty (.v (.bool (decide (p ≤ q)))) := op_leq hx hy hcx hcy
theorem E_gtr {xt yt : TypeId} {x y : Operand} {k : IntKind} {p q : Int} (hx : ev e x = .v (.int k p) := by rfl) (hy : ev e y = .v (.int k q) := by rfl) (hcx : canonO x = true := by rfl) (hcy : canonO y = true := by rfl) : EvalOp P G n e h (.binOp .gtr xt x y yt) ty (.v (.bool (decide (q < p)))) := op_gtr hx hy hcx hcy
theorem E_geq {xt yt : TypeId} {x y : Operand} {k : IntKind} {p q : Int} (hx : ev e x = .v (.int k p) := by rfl) (hy : ev e y = .v (.int k q) := by rfl) (hcx : canonO x = true := by rfl) (hcy : canonO y = true := by rfl) : EvalOp P G n e h (.binOp .geq xt x y yt) ty (.v (.bool (decide (q ≤ p)))) := op_geq hx hy hcx hcy
theorem E_eql {xt yt : TypeId} {x y : Operand} {k : IntKind} {p q : Int} (hx : ev e x = .v (.int k p) := by rfl) (hy : ev e y = .v (.int k q) := by rfl) (hcx : canonO x = true := by rfl) (hcy : canonO y = true := by rfl) : EvalOp P G n e h (.binOp .eql xt x y yt) ty (.v (.bool (decide (p = q)))) := op_eql hx hy hcx hcy
theorem E_neq {xt yt : TypeId} {x y : Operand} {k : IntKind} {p q : Int} (hx : ev e x = .v (.int k p) := by rfl) (hy : ev e y = .v (.int k q) := by rfl) (hcx : canonO x = true := by rfl) (hcy : canonO y = true := by rfl) : EvalOp P G n e h (.binOp .neq xt x y yt) ty (.v (.bool (decide (p ≠ q)))) := op_neq hx hy hcx hcy
theorem E_beql {xt yt : TypeId} {x y : Operand} {p q : Bool} [BoolT P xt] (hx : ev e x = .v (.bool p) := by rfl) (hy : ev e y = .v (.bool q) := by rfl) (hcx : canonO x = true := by rfl) (hcy : canonO y = true := by rfl) : EvalOp P G n e h (.binOp .eql xt x y yt) ty (.v (.bool (p == q))) := op_beql hx hy hcx hcy
theorem E_bneq {xt yt : TypeId} {x y : Operand} {p q : Bool} [BoolT P xt] (hx : ev e x = .v (.bool p) := by rfl) (hy : ev e y = .v (.bool q) := by rfl) (hcx : canonO x = true := by rfl) (hcy : canonO y = true := by rfl) : EvalOp P G n e h (.binOp .neq xt x y yt) ty (.v (.bool (p != q))) := op_bneq hx hy hcx hcy
theorem E_fadd {xt yt : TypeId} {x y : Operand} {k : FloatKind} {p q : Nat} (hx : ev e x = .v (.float k p) := by rfl) (hy : ev e y = .v (.float k q) := by rfl) (hcx : canonO x = true := by rfl) (hcy : canonO y = true := by rfl) : EvalOp P G n e h (.binOp .add xt x y yt) ty (.v (.float k (fop .add k p q))) := op_fadd hx hy hcx hcy
theorem E_fsub {xt yt : TypeId} {x y : Operand} {k : FloatKind} {p q : Nat} (hx : ev e x = .v (.float k p) := by rfl) (hy : ev e y = .v (.float k q) := by rfl) (hcx : canonO x = true := by rfl) (hcy : canonO y = true := by rfl) : EvalOp P G n e h (.binOp .sub xt x y yt) ty (.v (.float k (fop .sub k p q))) := op_fsub hx hy hcx hcy
theorem E_fmul {xt yt : TypeId} {x y : Operand} {k : FloatKind} {p q : Nat} (hx : ev e x = .v (.float k p) := by rfl) (hy : ev e y = .v (.float k q) := by rfl) (hcx : canonO x = true := by rfl) (hcy : canonO y = true := by rfl) : EvalOp P G n e h (.binOp .mul xt x y yt) ty (.v (.float k (fop .mul k p q))) := op_fmul hx hy hcx hcy
theorem E_fquo {xt yt : TypeId} {x y : Operand} {k : FloatKind} {p q : Nat} (hx : ev e x = .v (.float k p) := by rfl) (hy : ev e y = .v (.float k q) := by rfl) (hcx : canonO x = true := by rfl) (hcy : canonO y = true := by rfl) : EvalOp P G n e h (.binOp .quo xt x y yt) ty (.v (.float k (fop .quo k p q))) := op_fquo hx hy hcx hcy
theorem E_feql {xt yt : TypeId} {x y : Operand} {k : FloatKind} {p q : Nat} (hx : ev e x = .v (.float k p) := by rfl) (hy : ev e y = .v (.float k q) := by rfl) (hcx : canonO x = true := by rfl) (hcy : canonO y = true := by rfl) : EvalOp P G n e h (.binOp .eql xt x y yt) ty (.v (.bool (fcmp .eql k p q))) := op_feql hx hy hcx hcy
theorem E_fneq {xt yt : TypeId} {x y : Operand} {k : FloatKind} {p q : Nat} (hx : ev e x = .v (.float k p) := by rfl) (hy : ev e y = .v (.float k q) := by rfl) (hcx : canonO x = true := by rfl) (hcy : canonO y = true := by rfl) : EvalOp P G n e h (.binOp .neq xt x y yt) ty (.v (.bool (fcmp .neq k p q))) := op_fneq hx hy hcx hcy
theorem E_flss {xt yt : TypeId} {x y : Operand} {k : FloatKind} {p q : Nat} (hx : ev e x = .v (.float k p) := by rfl) (hy : ev e y = .v (.float k q) := by rfl) (hcx : canonO x = true := by rfl) (hcy : canonO y = true := by rfl) : EvalOp P G n e h (.binOp .lss xt x y yt) ty (.v (.bool (fcmp .lss k p q))) := op_flss hx hy hcx hcy
theorem E_fleq {xt yt : TypeId} {x y : Operand} {k : FloatKind} {p q : Nat} (hx : ev e x = .v (.float k p) := by rfl) (hy : ev e y = .v (.float k q) := by rfl) (hcx : canonO x = true := by rfl) (hcy : canonO y = true := by rfl) : EvalOp P G n e h (.binOp .leq xt x y yt) ty (.v (.bool (fcmp .leq k p q))) := op_fleq hx hy hcx hcy
theorem E_fgtr {xt yt : TypeId} {x y : Operand} {k : FloatKind} {p q : Nat} (hx : ev e x = .v (.float k p) := by rfl) (hy : ev e y = .v (.float k q) := by rfl) (hcx : canonO x = true := by rfl) (hcy : canonO y = true := by rfl) : EvalOp P G n e h (.binOp .gtr xt x y yt) ty (.v (.bool (fcmp .gtr k p q))) := op_fgtr hx hy hcx hcy
theorem E_fgeq {xt yt : TypeId} {x y : Operand} {k : FloatKind} {p q : Nat} (hx : ev e x = .v (.float k p) := by rfl) (hy : ev e y = .v (.float k q) := by rfl) (hcx : canonO x = true := by rfl) (hcy : canonO y = true := by rfl) : EvalOp P G n e h (.binOp .geq xt x y yt) ty (.v (.bool (fcmp .geq k p q))) := op_fgeq hx hy hcx hcy
theorem E_not {t : TypeId} {x : Operand} {p : Bool} (hx : ev e x = .v (.bool p) := by rfl) (hcx : canonO x = true := by rfl) : EvalOp P G n e h (.unOp .not t x) ty (.v (.bool (!p))) := op_not hx hcx
theorem E_fneg {t : TypeId} {x : Operand} {k : FloatKind} {p : Nat} (hx : ev e x = .v (.float k p) := by rfl) (hcx : canonO x = true := by rfl) : EvalOp P G n e h (.unOp .neg t x) ty (.v (.float k (fneg k p))) := op_fneg hx hcx
theorem E_ineg {t : TypeId} {x : Operand} {p : Int} (hx : ev e x = .v (.int .i64 p) := by rfl) (hcx : canonO x = true := by rfl) (hb : -9223372036854775807 ≤ p ∧ p ≤ 9223372036854775807 := by omega) : EvalOp P G n e h (.unOp .neg t x) ty (.v (.int .i64 (-p))) := op_ineg hx hcx hb
theorem E_itof {s d : TypeId} {x : Operand} {q : IntKind} {k : FloatKind} {p : Int} [IntT P s q] [FloatT P d k] (hx : ev e x = .v (.int q p) := by rfl) (hcx : canonO x = true := by rfl) : EvalOp P G n e h (.convert s d x) ty (.v (.float k (floatOfInt k p))) := op_itof hx hcx
theorem E_itoi {s d : TypeId} {x : Operand} {q k : IntKind} {p : Int} [IntT P s q] [IntT P d k] (hx : ev e x = .v (.int q p) := by rfl) (hcx : canonO x = true := by rfl) : EvalOp P G n e h (.convert s d x) ty (.v (.int k (k.wrap p))) := op_itoi hx hcx
theorem E_itoi64 {s d : TypeId} {x : Operand} {q : IntKind} {p : Int} [IntT P s q] [IntT P d .i64] (hx : ev e x = .v (.int q p) := by rfl) (hcx : canonO x = true := by rfl) (hb : -9223372036854775808 ≤ p ∧ p ≤ 9223372036854775807 := by omega) : EvalOp P G n e h (.convert s d x) ty (.v (.int .i64 p)) := op_itoi64 hx hcx hb
theorem E_widen {s d : TypeId} {x : Operand} {p : Nat} [FloatT P s .f32] [FloatT P d .f64] (hx : ev e x = .v (.float .f32 p) := by rfl) (hcx : canonO x = true := by rfl) : EvalOp P G n e h (.convert s d x) ty (.v (.float .f64 (widen p))) := op_widen hx hcx
theorem E_narrow {s d : TypeId} {x : Operand} {p : Nat} [FloatT P s .f64] [FloatT P d .f32] (hx : ev e x = .v (.float .f64 p) := by rfl) (hcx : canonO x = true := by rfl) (hf : fits32 p = true := by assumption) : EvalOp P G n e h (.convert s d x) ty (.v (.float .f32 (narrow p))) := op_narrow hx hcx hf
theorem E_ftof {s d : TypeId} {x : Operand} {k : FloatKind} {p : Nat} [FloatT P s k] [FloatT P d k] (hx : ev e x = .v (.float k p) := by rfl) (hcx : canonO x = true := by rfl) : EvalOp P G n e h (.convert s d x) ty (.v (.float k p)) := op_ftof hx hcx
theorem E_extract {x : Operand} {i : Nat} {us : List AVal} {u : AVal} (hx : ev e x = .tup us := by rfl) (hi : us[i]? = some u := by rfl) (hcx : canonO x = true := by rfl) : EvalOp P G n e h (.extract x i) ty u := op_extract hx hi hcx
theorem E_load_p {t : TypeId} {x : Operand} {o : Nat} {cells : List AVal} {u : AVal} [OneT P t] (hx : ev e x = .ptr o cells := by rfl) (hu : cells[o]? = some u := by rfl) (hcx : canonO x = true := by rfl) (hf : flat0 u = true := by rfl) : EvalOp P G n e h (.load t x) ty u := op_load_p hx hu hcx hf
theorem E_load_f {t : TypeId} {x : Operand} {o : Nat} {xs : List Nat} [OneT P t] (hx : ev e x = .ptr o (fl xs) := by rfl) (hl : o < xs.length := by omega) (hcx : canonO x = true := by rfl) : EvalOp P G n e h (.load t x) ty (.v (.float .f32 (xs.getD o 0))) := op_load_f hx hl hcx
theorem E_load_i {t : TypeId} {x : Operand} {o : Nat} {xs : List Int} [OneT P t] (hx : ev e x = .ptr o (il xs) := by rfl) (hl : o < xs.length := by omega) (hcx : canonO x = true := by rfl) : EvalOp P G n e h (.load t x) ty (.v (.int .i64 (xs.getD o 0))) := op_load_i hx hl hcx
theorem E_load_o {t : TypeId} {x : Operand} {i b o : Nat} {cells : List AVal} {u : AVal} [OneT P t] (hx : ev e x = .own i b o := by rfl) (hi : h i = some (.box b cells) := by rfl) (hu : cells[o]? = some u := by rfl) (hcx : canonO x = true := by rfl) : EvalOp P G n e h (.load t x) ty u := op_load_o hx hi hu hcx
theorem E_load_oa {t : TypeId} {x : Operand} {i b sz : Nat} {cells : List AVal} [AggT P t sz] (hx : ev e x = .own i b 0 := by rfl) (hi : h i = some (.box b cells) := by rfl) (hs : cells.length = sz := by rfl) (hcx : canonO x = true := by rfl) : EvalOp P G n e h (.load t x) ty (.agg cells) := op_load_oa hx hi hs hcx
theorem E_load_r {t : TypeId} {x : Operand} {i b o ety sz m : Nat} {s : Value} {cells : List AVal} {u : AVal} [OneT P t] (hx : ev e x = .own i b o := by rfl) (hi : h i = some (.row s ety sz m cells) := by rfl) (hs : s.ownBlock = some b := by rfl) (hu : cells[o]? = some u := by rfl) (hcx : canonO x = true := by rfl) : EvalOp P G n e h (.load t x) ty u := op_load_r hx hi hs hu hcx
theorem E_field_p {s k off : Nat} {x : Operand} {o : Nat} {cells : List AVal} [FieldT P s k off] (hx : ev e x = .ptr o cells := by rfl) (hcx : canonO x = true := by rfl) : EvalOp P G n e h (.fieldAddr s x k) ty (.ptr (o + off) cells) := op_field_p hx hcx
theorem E_field_o {s k off : Nat} {x : Operand} {i b o : Nat} [FieldT P s k off] (hx : ev e x = .own i b o := by rfl) (hcx : canonO x = true := by rfl) : EvalOp P G n e h (.fieldAddr s x k) ty (.own i b (o + off)) := op_field_o hx hcx
theorem E_nilCheck_p {x : Operand} {o : Nat} {cells : List AVal} (hx : ev e x = .ptr o cells := by rfl) (hcx : canonO x = true := by rfl) : EvalOp P G n e h (.nilCheck x) ty (.ptr o cells) := op_nilCheck_p hx hcx
theorem E_nilCheck_o {x : Operand} {i b o : Nat} (hx : ev e x = .own i b o := by rfl) (hcx : canonO x = true := by rfl) : EvalOp P G n e h (.nilCheck x) ty (.own i b o) := op_nilCheck_o hx hcx
theorem E_index {t el sz : Nat} {x ix : Operand} {fr m : Nat} {i : Int} {cells : List AVal} [SliceT P t el] [SizeT P el sz] (hx : ev e x = .sl fr m cells := by rfl) (hi : ev e ix = .v (.int .i64 i) := by rfl) (h0 : 0 ≤ i ∧ i < m := by omega) (hcx : canonO x = true := by rfl) (hci : canonO ix = true := by rfl) : EvalOp P G n e h (.indexAddr t x ix) ty (.ptr (i.toNat * sz) cells) := op_index hx hi h0 hcx hci
theorem E_index1 {t el : Nat} {x ix : Operand} {fr m : Nat} {i : Nat} {cells : List AVal} [SliceT P t el] [SizeT P el 1] (hx : ev e x = .sl fr m cells := by rfl) (hi : ev e ix = .v (.int .i64 (i : Int)) := by rfl) (h0 : i < m := by omega) (hcx : canonO x = true := by rfl) (hci : canonO ix = true := by rfl) : EvalOp P G n e h (.indexAddr t x ix) ty (.ptr i cells) := op_index1 hx hi h0 hcx hci
theorem E_index1' {t el : Nat} {x ix : Operand} {fr m : Nat} {i : Int} {cells : List AVal} [SliceT P t el] [SizeT P el 1] (hx : ev e x = .sl fr m cells := by rfl) (hi : ev e ix = .v (.int .i64 i) := by rfl) (h0 : 0 ≤ i ∧ i < m := by omega) (hcx : canonO x = true := by rfl) (hci : canonO ix = true := by rfl) : EvalOp P G n e h (.indexAddr t x ix) ty (.ptr i.toNat cells) := op_index1' hx hi h0 hcx hci
theorem E_len {t el : Nat} {x : Operand} {fr m : Nat} {cells : List AVal} [SliceT P t el] (hx : ev e x = .sl fr m cells := by rfl) (hcx : canonO x = true := by rfl) : EvalOp P G n e h (.call { callee := .builtin .len, args := #[x], argTypes := #[t] }) ty (.v (.int .i64 m)) := op_len hx hcx
theorem E_len_nil {t el : Nat} {x : Operand} [SliceT P t el] (hx : ev e x = .v (.slice none 0 0) := by rfl) (hcx : canonO x = true := by rfl) : EvalOp P G n e h (.call { callee := .builtin .len, args := #[x], argTypes := #[t] }) ty (.v (.int .i64 0)) := op_len_nil hx hcx
theorem E_len_o {t el : Nat} {x : Operand} {i ety sz m : Nat} {s : Value} {cells : List AVal} [SliceT P t el] (hx : ev e x = .orow i s := by rfl) (hi : h i = some (.row s ety sz m cells) := by rfl) (hcx : canonO x = true := by rfl) : EvalOp P G n e h (.call { callee := .builtin .len, args := #[x], argTypes := #[t] }) ty (.v (.int .i64 m)) := op_len_o hx hi hcx
theorem E_makeFunc {f : FuncId} {caps : List Operand} (hc : caps.all canonO = true := by rfl) : EvalOp P G n e h (.makeFunc (.func f) #[] caps.toArray) ty (.fn f (caps.map (ev e))) := op_makeFunc hc
theorem E_lss_t {xt yt : TypeId} {x y : Operand} {k : IntKind} {p q : Int} (hx : ev e x = .v (.int k p) := by rfl) (hy : ev e y = .v (.int k q) := by rfl) (hcx : canonO x = true := by rfl) (hcy : canonO y = true := by rfl) (hd : p < q := by omega) : EvalOp P G n e h (.binOp .lss xt x y yt) ty (.v (.bool true)) := (op_lss hx hy hcx hcy).decided (decide_eq_true hd)
theorem E_lss_f {xt yt : TypeId} {x y : Operand} {k : IntKind} {p q : Int} (hx : ev e x = .v (.int k p) := by rfl) (hy : ev e y = .v (.int k q) := by rfl) (hcx : canonO x = true := by rfl) (hcy : canonO y = true := by rfl) (hd : ¬ (p < q) := by omega) : EvalOp P G n e h (.binOp .lss xt x y yt) ty (.v (.bool false)) := (op_lss hx hy hcx hcy).decided (decide_eq_false hd)
theorem E_leq_t {xt yt : TypeId} {x y : Operand} {k : IntKind} {p q : Int} (hx : ev e x = .v (.int k p) := by rfl) (hy : ev e y = .v (.int k q) := by rfl) (hcx : canonO x = true := by rfl) (hcy : canonO y = true := by rfl) (hd : p ≤ q := by omega) : EvalOp P G n e h (.binOp .leq xt x y yt) ty (.v (.bool true)) := (op_leq hx hy hcx hcy).decided (decide_eq_true hd)
theorem E_leq_f {xt yt : TypeId} {x y : Operand} {k : IntKind} {p q : Int} (hx : ev e x = .v (.int k p) := by rfl) (hy : ev e y = .v (.int k q) := by rfl) (hcx : canonO x = true := by rfl) (hcy : canonO y = true := by rfl) (hd : ¬ (p ≤ q) := by omega) : EvalOp P G n e h (.binOp .leq xt x y yt) ty (.v (.bool false)) := (op_leq hx hy hcx hcy).decided (decide_eq_false hd)
theorem E_gtr_t {xt yt : TypeId} {x y : Operand} {k : IntKind} {p q : Int} (hx : ev e x = .v (.int k p) := by rfl) (hy : ev e y = .v (.int k q) := by rfl) (hcx : canonO x = true := by rfl) (hcy : canonO y = true := by rfl) (hd : q < p := by omega) : EvalOp P G n e h (.binOp .gtr xt x y yt) ty (.v (.bool true)) := (op_gtr hx hy hcx hcy).decided (decide_eq_true hd)
theorem E_gtr_f {xt yt : TypeId} {x y : Operand} {k : IntKind} {p q : Int} (hx : ev e x = .v (.int k p) := by rfl) (hy : ev e y = .v (.int k q) := by rfl) (hcx : canonO x = true := by rfl) (hcy : canonO y = true := by rfl) (hd : ¬ (q < p) := by omega) : EvalOp P G n e h (.binOp .gtr xt x y yt) ty (.v (.bool false)) := (op_gtr hx hy hcx hcy).decided (decide_eq_false hd)
theorem E_geq_t {xt yt : TypeId} {x y : Operand} {k : IntKind} {p q : Int} (hx : ev e x = .v (.int k p) := by rfl) (hy : ev e y = .v (.int k q) := by rfl) (hcx : canonO x = true := by rfl) (hcy : canonO y = true := by rfl) (hd : q ≤ p := by omega) : EvalOp P G n e h (.binOp .geq xt x y yt) ty (.v (.bool true)) := (op_geq hx hy hcx hcy).decided (decide_eq_true hd)
theorem E_geq_f {xt yt : TypeId} {x y : Operand} {k : IntKind} {p q : Int} (hx : ev e x = .v (.int k p) := by rfl) (hy : ev e y = .v (.int k q) := by rfl) (hcx : canonO x = true := by rfl) (hcy : canonO y = true := by rfl) (hd : ¬ (q ≤ p) := by omega) : EvalOp P G n e h (.binOp .geq xt x y yt) ty (.v (.bool false)) := (op_geq hx hy hcx hcy).decided (decide_eq_false hd)
theorem E_eql_t {xt yt : TypeId} {x y : Operand} {k : IntKind} {p q : Int} (hx : ev e x = .v (.int k p) := by rfl) (hy : ev e y = .v (.int k q) := by rfl) (hcx : canonO x = true := by rfl) (hcy : canonO y = true := by rfl) (hd : p = q := by omega) : EvalOp P G n e h (.binOp .eql xt x y yt) ty (.v (.bool true)) := (op_eql hx hy hcx hcy).decided (decide_eq_true hd)
theorem E_eql_f {xt yt : TypeId} {x y : Operand} {k : IntKind} {p q : Int} (hx : ev e x = .v (.int k p) := by rfl) (hy : ev e y = .v (.int k q) := by rfl) (hcx : canonO x = true := by rfl) (hcy : canonO y = true := by rfl) (hd : ¬ (p = q) := by omega) : EvalOp P G n e h (.binOp .eql xt x y yt) ty (.v (.bool false)) := (op_eql hx hy hcx hcy).decided (decide_eq_false hd)
theorem E_neq_t {xt yt : TypeId} {x y : Operand} {k : IntKind} {p q : Int} (hx : ev e x = .v (.int k p) := by rfl) (hy : ev e y = .v (.int k q) := by rfl) (hcx : canonO x = true := by rfl) (hcy : canonO y = true := by rfl) (hd : p ≠ q := by omega) : EvalOp P G n e h (.binOp .neq xt x y yt) ty (.v (.bool true)) := (op_neq hx hy hcx hcy).decided (decide_eq_true hd)
theorem E_neq_f {xt yt : TypeId} {x y : Operand} {k : IntKind} {p q : Int} (hx : ev e x = .v (.int k p) := by rfl) (hy : ev e y = .v (.int k q) := by rfl) (hcx : canonO x = true := by rfl) (hcy : canonO y = true := by rfl) (hd : ¬ (p ≠ q) := by omega) : EvalOp P G n e h (.binOp .neq xt x y yt) ty (.v (.bool false)) := (op_neq hx hy hcx hcy).decided (decide_eq_false hd)
end
section
variable {P : Program} {G : Glob} {n : Nat} {Q : Post} {e : Env} {h : Hp} {ops : Array Oper} {rest : List Oper} {d : Nat} {ty : TypeId} {pos : String} {after : Array Edge}
/-- One operation of a region that draws its order. -/
theorem VQ_op {op : Op} {u : AVal} {K : Env → Prop} (he : EvalOp P G n e h op ty u) (hd : Nat.blt d n = true) (hk : VQ P G n h ops K rest (upd e d u)) : VQ P G n h ops K (⟨some d, op, ty, pos, after, none⟩ :: rest) e :=
  ⟨d, rfl, by simpa using hd, .inl ⟨.inl ⟨rfl, rfl⟩, u, evQ_of_op he, .inl (exU_of_op he), hk⟩⟩
theorem VQ_yes {op : Op} {u : AVal} {K : Env → Prop} {g j : Nat} {want : Bool} (hj : (ops[g]?).bind (·.dst) = some j) (hv : e j = .v (.bool want)) (he : EvalOp P G n e h op ty u) (hd : Nat.blt d n = true) (hk : VQ P G n h ops K rest (upd e d u)) : VQ P G n h ops K (⟨some d, op, ty, pos, after, some (g, want)⟩ :: rest) e :=
  ⟨d, rfl, by simpa using hd, .inl ⟨.inr ⟨g, want, j, rfl, hj, .inl ⟨want, hv, by simp⟩⟩, u, evQ_of_op he, .inl (exU_of_op he), hk⟩⟩
theorem VQ_no {op : Op} {K : Env → Prop} {g j : Nat} {want t : Bool} (hj : (ops[g]?).bind (·.dst) = some j) (hv : e j = .v (.bool t)) (ht : (t == want) = false) (hd : Nat.blt d n = true) (hk : VQ P G n h ops K rest (upd e d (.v undef))) : VQ P G n h ops K (⟨some d, op, ty, pos, after, some (g, want)⟩ :: rest) e :=
  ⟨d, rfl, by simpa using hd, .inr ⟨.inr ⟨g, want, j, rfl, hj, .inl ⟨t, hv, ht.symm⟩⟩, hk⟩⟩
theorem VQ_undef {op : Op} {K : Env → Prop} {g j : Nat} {want : Bool} (hj : (ops[g]?).bind (·.dst) = some j) (hv : e j = .v undef) (hd : Nat.blt d n = true) (hk : VQ P G n h ops K rest (upd e d (.v undef))) : VQ P G n h ops K (⟨some d, op, ty, pos, after, some (g, want)⟩ :: rest) e :=
  ⟨d, rfl, by simpa using hd, .inr ⟨.inr ⟨g, want, j, rfl, hj, .inr ⟨hv, rfl⟩⟩, hk⟩⟩
theorem VQ_known {o : Oper} {K : Env → Prop} {g j : Nat} {want t b : Bool} (_hg : o.guard = some (g, want)) (_hj : (ops[g]?).bind (·.dst) = some j) (hv : e j = .v (.bool t)) (ht : t = b) (h1 : VQ P G n h ops K (o :: rest) (upd e j (.v (.bool b)))) : VQ P G n h ops K (o :: rest) e := by
  subst ht; rwa [upd_self hv] at h1
theorem VQ_split {o : Oper} {K : Env → Prop} {g j : Nat} {want t : Bool} (_hg : o.guard = some (g, want)) (_hj : (ops[g]?).bind (·.dst) = some j) (hv : e j = .v (.bool t)) (h1 : t = true → VQ P G n h ops K (o :: rest) (upd e j (.v (.bool true)))) (h0 : t = false → VQ P G n h ops K (o :: rest) (upd e j (.v (.bool false)))) : VQ P G n h ops K (o :: rest) e := by
  cases t
  · have := h0 rfl; rwa [upd_self hv] at this
  · have := h1 rfl; rwa [upd_self hv] at this
theorem VQ_nil {K : Env → Prop} (hk : K e) : VQ P G n h ops K [] e := hk
/-- A call in such a region: what it hands back is plain. -/
theorem VQ_call {fo : Operand} {xs : List Operand} {ts : Array TypeId} {u : AVal} {f : FuncId} {caps ins : List AVal} {K : Env → Prop} (hf : ev e fo = .fn f caps) [CallT P f] (hl : LendL G h (fun _ => False) (xs.map (ev e) ++ caps) ins) (hc : Ct P f ins (· = u)) (hu : plainT u = true) (hcan : xs.all canonO = true) (hcf : canonO fo = true) (hd : Nat.blt d n = true) (hk : VQ P G n h ops K rest (upd e d u)) :
    VQ P G n h ops K (⟨some d, .call { callee := .value fo, args := xs.toArray, argTypes := ts }, ty, pos, after, none⟩ :: rest) e :=
  ⟨d, rfl, by simpa using hd, .inl ⟨.inl ⟨rfl, rfl⟩, u, evQ_of_call hf hl hc (fresh2_plain hu) hcan hcf, .inl (exU_plain hu (evQ_of_call (ts := ts) (ty := ty) (d := d) (pos := pos) (after := after) (gd := none) hf hl hc (fresh2_plain hu) hcan hcf)), hk⟩⟩
theorem VQ_call_yes {fo : Operand} {xs : List Operand} {ts : Array TypeId} {u : AVal} {f : FuncId} {caps ins : List AVal} {K : Env → Prop} {g j : Nat} {want : Bool} (hj : (ops[g]?).bind (·.dst) = some j) (hv : e j = .v (.bool want)) (hf : ev e fo = .fn f caps) [CallT P f] (hl : LendL G h (fun _ => False) (xs.map (ev e) ++ caps) ins) (hc : Ct P f ins (· = u)) (hu : plainT u = true) (hcan : xs.all canonO = true) (hcf : canonO fo = true) (hd : Nat.blt d n = true) (hk : VQ P G n h ops K rest (upd e d u)) :
    VQ P G n h ops K (⟨some d, .call { callee := .value fo, args := xs.toArray, argTypes := ts }, ty, pos, after, some (g, want)⟩ :: rest) e :=
  ⟨d, rfl, by simpa using hd, .inl ⟨.inr ⟨g, want, j, rfl, hj, .inl ⟨want, hv, by simp⟩⟩, u, evQ_of_call hf hl hc (fresh2_plain hu) hcan hcf, .inl (exU_plain hu (evQ_of_call (ts := ts) (ty := ty) (d := d) (pos := pos) (after := after) (gd := none) hf hl hc (fresh2_plain hu) hcan hcf)), hk⟩⟩
/-- A call in such a region that hands back new memory: nothing else is ready then. -/
theorem VQ_callF {fo : Operand} {xs : List Operand} {ts : Array TypeId} {u : AVal} {f : FuncId} {caps ins : List AVal} {K : Env → Prop} (hf : ev e fo = .fn f caps) [CallT P f] (hl : LendL G h (fun _ => False) (xs.map (ev e) ++ caps) ins) (hc : Ct P f ins (· = u)) (hu : Fresh2 u) (hs : soloB ops (ops.size - (rest.length + 1)) = true) (hcan : xs.all canonO = true) (hcf : canonO fo = true) (hd : Nat.blt d n = true) (hk : VQ P G n h ops K rest (upd e d u)) :
    VQ P G n h ops K (⟨some d, .call { callee := .value fo, args := xs.toArray, argTypes := ts }, ty, pos, after, none⟩ :: rest) e :=
  ⟨d, rfl, by simpa using hd, .inl ⟨.inl ⟨rfl, rfl⟩, u, evQ_of_call hf hl hc hu hcan hcf, .inr hs, hk⟩⟩
end
end Go.Av
/-
A round's end, a function's end.
-/
namespace Go.Av
open Go.RowKit

section
variable {P : Program} {G : Glob} {n : Nat} {Q : Post} {e : Env} {h : Hp}
theorem again_next {σ : Type} {L : σ → Env} {H : σ → Hp} {I : σ → Prop} {μ : σ → Nat} {x : σ} (x' : σ) (hI : I x') (hm : μ x' < μ x) (he : EnvLe e (L x')) (hh : HpLe h (H x')) : again L H I μ x Q .normal e h := ⟨x', hI, hm, he, hh⟩
theorem again_exit {σ : Type} {L : σ → Env} {H : σ → Hp} {I : σ → Prop} {μ : σ → Nat} {x : σ} {id : Nat} (hq : Q (.exit id) e h) : again L H I μ x Q (.exit id) e h := hq
theorem again_ret {σ : Type} {L : σ → Env} {H : σ → Hp} {I : σ → Prop} {μ : σ → Nat} {x : σ} (hq : Q .ret e h) : again L H I μ x Q .ret e h := hq
theorem again_goto {σ : Type} {L : σ → Env} {H : σ → Hp} {I : σ → Prop} {μ : σ → Nat} {x : σ} {l : Nat} (hq : Q (.goto l) e h) : again L H I μ x Q (.goto l) e h := hq

theorem Ct.of_le {f : FuncId} {ins : List AVal} {target : AVal} (hc : Ct P f ins (fun out => ALe out target)) : Ct P f ins (· = target) :=
  fun w args Z B h1 h2 h3 h4 => (hc w args Z B h1 h2 h3 h4).mono fun _ _ ⟨x, _, mu', h5, ⟨h6, h7⟩, h8, h9, h10⟩ => ⟨x, target, mu', h5, ⟨h6, rfl⟩, h8, h9, h7 _ _ _ _ _ h10⟩

theorem Ct.of_walk {f : FuncId} {fn : Func} {c : Code} {n : Nat} {ins : List AVal} {post : AVal → Prop} (hf : P.funcs[f]? = some fn) (hb : fn.body = some c) (hn : fn.ntmps = n) (hl : Nat.ble ins.length n = true)
    (hv : ∀ G : Glob, (∀ b, ¬ G.ms b) → V P G n c (fin P fn.results fun out mu' => mu' = [] ∧ post out) (argEnv ins) (fun _ => none)) : Ct P f ins post := by
  refine CtM.of_V (mu := []) hf hb hn hl (fun _ h => by cases h) fun G hms => ?_
  have e1 : muHp [] = fun _ => none := by funext i; unfold muHp; cases Nat.ble 900 i <;> simp
  rw [e1]
  exact hv G fun b hb => by rw [hms] at hb; obtain ⟨en, h1, _⟩ := hb; cases h1

section
variable {post : AVal → Prop}
theorem fin_b {t : Tmp} {b : Bool} (hp : post (.v (.bool b))) (ht : e t = .v (.bool b) := by rfl) : fin P #[.tmp t] (fun out mu' => mu' = [] ∧ post out) .ret e h := fin_1 (ht ▸ hp)
theorem fin_f {t : Tmp} {k : FloatKind} {b : Nat} (hp : post (.v (.float k b))) (ht : e t = .v (.float k b) := by rfl) : fin P #[.tmp t] (fun out mu' => mu' = [] ∧ post out) .ret e h := fin_1 (ht ▸ hp)
theorem fin_i {t : Tmp} {k : IntKind} {b : Int} (hp : post (.v (.int k b))) (ht : e t = .v (.int k b) := by rfl) : fin P #[.tmp t] (fun out mu' => mu' = [] ∧ post out) .ret e h := fin_1 (ht ▸ hp)
theorem fin_sl {t : Tmp} {fr m : Nat} {cs : List AVal} (hp : post (.sl fr m cs)) (ht : e t = .sl fr m cs := by rfl) : fin P #[.tmp t] (fun out mu' => mu' = [] ∧ post out) .ret e h := fin_1 (ht ▸ hp)
theorem fin_fb {t u : Tmp} {k : FloatKind} {b : Nat} {c : Bool} (hp : post (.tup [.v (.float k b), .v (.bool c)])) (ht : e t = .v (.float k b) := by rfl) (hu : e u = .v (.bool c) := by rfl) : fin P #[.tmp t, .tmp u] (fun out mu' => mu' = [] ∧ post out) .ret e h := fin_2 (by rw [ht, hu]; exact hp)
theorem fin_ib {t u : Tmp} {k : IntKind} {b : Int} {c : Bool} (hp : post (.tup [.v (.int k b), .v (.bool c)])) (ht : e t = .v (.int k b) := by rfl) (hu : e u = .v (.bool c) := by rfl) : fin P #[.tmp t, .tmp u] (fun out mu' => mu' = [] ∧ post out) .ret e h := fin_2 (by rw [ht, hu]; exact hp)
theorem fin_slb {t u : Tmp} {fr m : Nat} {cs : List AVal} {c : Bool} (hp : post (.tup [.sl fr m cs, .v (.bool c)])) (ht : e t = .sl fr m cs := by rfl) (hu : e u = .v (.bool c) := by rfl) : fin P #[.tmp t, .tmp u] (fun out mu' => mu' = [] ∧ post out) .ret e h := fin_2 (by rw [ht, hu]; exact hp)
theorem fin_nb {t u : Tmp} {c : Bool} (hp : post (.tup [.v (.slice none 0 0), .v (.bool c)])) (ht : e t = .v (.slice none 0 0) := by rfl) (hu : e u = .v (.bool c) := by rfl) : fin P #[.tmp t, .tmp u] (fun out mu' => mu' = [] ∧ post out) .ret e h := fin_2 (by rw [ht, hu]; exact hp)
theorem fin_ab {p ty i b : Nat} {t : Tmp} {c : Bool} {cells : List AVal} (hp : post (.tup [.agg cells, .v (.bool c)])) (h1 : e p = .own i b 0 := by rfl) (h2 : h i = some (.box b cells) := by rfl) (h3 : chkAgg P ty cells.length = true) (hu : e t = .v (.bool c) := by rfl) :
    fin P #[.cell p ty, .tmp t] (fun out mu' => mu' = [] ∧ post out) .ret e h := fin_c1 h1 h2 h3 (by rw [hu]; exact hp)
end
end
end Go.Av
namespace Go.Av
theorem elemT_of {P : Program} {t sz bytes : Nat} {z : Value} (h : (P.info? t).map (fun i => (i.zero, i.size, i.bytes)) = some (some z, sz, bytes)) (hz : z.cells.size = sz) (hp : Nat.blt 0 sz = true) : ElemT P t sz bytes z where
  ok := by
    cases hi : P.info? t with
    | none => rw [hi] at h; cases h
    | some i => rw [hi] at h; simp at h; exact ⟨i, rfl, h.2.1, h.2.2, h.1⟩
  szz := hz
  pos := by simpa using hp
theorem zeroT_of {P : Program} {t : Nat} {z : Value} {zs : List Value} (h : (P.info? t).map (fun i => i.zero) = some (some z)) (hz : z.cells.toList = zs) (hc : zs.all canonV = true) : ZeroT P t zs where
  ok := by
    cases hi : P.info? t with
    | none => rw [hi] at h; cases h
    | some i => rw [hi] at h; simp at h; exact ⟨i, z, rfl, h, hz, hc⟩

/-- An operation's answer, and what follows of it. -/
def OpThen (P : Program) (G : Glob) (n : Nat) (e : Env) (h : Hp) (op : Op) (ty : TypeId) (K : AVal → Prop) : Prop := ∃ u, EvalOp P G n e h op ty u ∧ K u
theorem op_then {P : Program} {G : Glob} {n : Nat} {e : Env} {h : Hp} {op : Op} {ty : TypeId} {K : AVal → Prop} {u : AVal} (he : EvalOp P G n e h op ty u) (hk : K u) : OpThen P G n e h op ty K := ⟨u, he, hk⟩
theorem VL_stepE {P : Program} {G : Glob} {n : Nat} {Q : Post} {e : Env} {h : Hp} {ops : Array Oper} {rest : List Oper} {d : Nat} {op : Op} {ty : TypeId} {pos : String} {after : Array Edge} (hd : Nat.blt d n = true)
    (hk : OpThen P G n e h op ty fun u => VL P G n ops rest Q (upd e d u) h) : VL P G n ops (⟨some d, op, ty, pos, after, none⟩ :: rest) Q e h :=
  let ⟨_, h1, h2⟩ := hk; VL_step h1 hd h2
theorem VQ_opE {P : Program} {G : Glob} {n d : Nat} {e : Env} {h : Hp} {ops : Array Oper} {rest : List Oper} {op : Op} {ty : TypeId} {pos : String} {after : Array Edge} {K : Env → Prop} (hd : Nat.blt d n = true)
    (hk : OpThen P G n e h op ty fun u => VQ P G n h ops K rest (upd e d u)) : VQ P G n h ops K (⟨some d, op, ty, pos, after, none⟩ :: rest) e :=
  let ⟨_, h1, h2⟩ := hk; VQ_op h1 hd h2
theorem VQ_yesE {P : Program} {G : Glob} {n d : Nat} {e : Env} {h : Hp} {ops : Array Oper} {rest : List Oper} {op : Op} {ty : TypeId} {pos : String} {after : Array Edge} {K : Env → Prop} {g j : Nat} {want : Bool} (hj : (ops[g]?).bind (·.dst) = some j) (hv : e j = .v (.bool want)) (hd : Nat.blt d n = true)
    (hk : OpThen P G n e h op ty fun u => VQ P G n h ops K rest (upd e d u)) : VQ P G n h ops K (⟨some d, op, ty, pos, after, some (g, want)⟩ :: rest) e :=
  let ⟨_, h1, h2⟩ := hk; VQ_yes hj hv h1 hd h2

theorem VL_lit2 {P : Program} {G : Glob} {n : Nat} {Q : Post} {e : Env} {h : Hp} {ops : Array Oper} {rest : List Oper} {d : Nat} {ty : TypeId} {pos : String} {after : Array Edge} {t el bytes : Nat} {z : Value} {arr : Array (Nat × Operand)} {xs : List Operand} {us : List AVal} {m : Nat} [SliceT P t el] [ElemT P el 1 bytes z]
    (hxs : arr.toList.map (·.2) = xs) (harr : (lits xs 0).toArray = arr) (hz1 : z.oneCell' = true) (hm : xs.length = m) (hm0 : Nat.ble m 16777216 = true) (hus : xs.map (ev e) = us) (hu : us.all cellA = true) (hfl : us.all flat0 = true) (hc : xs.all canonO = true) (hd : Nat.blt d n = true)
    (hk : VL P G n ops rest Q (upd e d (.sl 2 m us)) h) : VL P G n ops (⟨some d, .buildSlice t m arr, ty, pos, after, none⟩ :: rest) Q e h := by
  have _ := hxs
  subst harr
  exact VL_lit hz1 hm hm0 hus hu hfl hc hd hk

section
variable {P : Program} {G : Glob} {n d : Nat} {Q : Post} {e : Env} {h : Hp} {ops : Array Oper} {rest : List Oper} {ty : TypeId} {pos : String} {after : Array Edge}
theorem VL_index_r1 {t el : Nat} {x ix : Operand} {j ety m i : Nat} {s : Value} {cells : List AVal} [SliceT P t el] [SizeT P el 1] (hx : ev e x = .orow j s) (hj : h j = some (.row s ety 1 m cells)) (hi : ev e ix = .v (.int .i64 (i : Int))) (h0 : i < m) (hcx : canonO x = true) (hci : canonO ix = true) (hd : Nat.blt d n = true)
    (hk : ∀ b, s.ownBlock = some b → VL P G n ops rest Q (upd e d (.own j b i)) h) : VL P G n ops (⟨some d, .indexAddr t x ix, ty, pos, after, none⟩ :: rest) Q e h := by
  refine VL_index_r (sz := 1) hx hj hi (by omega) hcx hci hd fun b hb => ?_
  have := hk b hb
  simpa using this
end
section
theorem fill_length {α : Type} {f : α → AVal} {xs : List α} {n i : Nat} {z : AVal} (hi : i ≤ n) (hn : n = xs.length) : ((xs.take i).map f ++ List.replicate (n - i) z).length = n := by
  simp; omega
/-- A row that is being filled: the first i cells are done. -/
def filled (z : AVal) (us : List AVal) (i : Nat) : List AVal := us.take i ++ List.replicate (us.length - i) z
theorem filled_length (z : AVal) (us : List AVal) (i : Nat) : (filled z us i).length = us.length := by
  unfold filled; simp; omega
theorem filled_set {z : AVal} {us : List AVal} {i : Nat} (hi : i < us.length) {u : AVal} (hu : us[i]? = some u) : (filled z us i).set i u = filled z us (i + 1) := by
  unfold filled
  rw [List.set_append_right _ _ (by simp; omega)]
  rw [show i - (us.take i).length = 0 by simp; omega]
  rw [show us.length - i = (us.length - (i + 1)) + 1 by omega, List.replicate_succ, List.set_cons_zero]
  rw [List.take_succ_eq_append_getElem hi]
  simp [List.getElem?_eq_getElem hi] at hu
  simp [hu]
theorem filled_zero (z : AVal) (us : List AVal) : filled z us 0 = List.replicate us.length z := by simp [filled]
theorem filled_all (z : AVal) (us : List AVal) {i : Nat} (hi : i = us.length) : filled z us i = us := by subst hi; simp [filled]
theorem fl_at {xs : List Nat} {i : Nat} (h : i < xs.length) : (fl xs)[i]? = some (F32 (xs.getD i 0)) := fl_get h
end

/-- What is asked of no block's number is asked of every argument. -/
theorem Ct.flat {P : Program} {f : FuncId} {ins : List AVal} {post : AVal → Prop} (hc : Ct P f (ins.map (fl1 fun _ => 0)) post) : Ct P f ins post := by
  intro w args Z B h1 h2 h3 h4
  exact hc w args Z B h1 h2 h3 (RelL.map (g := fl1 fun _ => 0) (fun h => Rel.fl1 (f := fun _ => 0) (fun _ _ _ _ (h : (0 : Nat) = 1) => by cases h) (fun _ _ _ _ (h : (0 : Nat) = 2) => by cases h) (fun _ h => absurd rfl h) h) h4)
theorem VL_callZ {P : Program} {G : Glob} {n : Nat} {Q : Post} {e : Env} {h : Hp} {ops : Array Oper} {rest : List Oper} {d : Nat} {fo : Operand} {xs : List Operand} {ts : Array TypeId} {ty : TypeId} {pos : String} {after : Array Edge} {f : FuncId} {caps ins : List AVal} {post : AVal → Prop}
    (hf : ev e fo = .fn f caps) [CallT P f] (hins : (callIns e xs caps).map (fl1 fun _ => 0) = ins) (hc : Ct P f ins post) (hcan : xs.all canonO = true) (hcf : canonO fo = true) (hd : Nat.blt d n = true)
    (hk : ∀ out, post out → VL P G n ops rest Q (upd e d (fl2 outf out)) h) :
    VL P G n ops (⟨some d, .call { callee := .value fo, args := xs.toArray, argTypes := ts }, ty, pos, after, none⟩ :: rest) Q e h := by
  subst hins
  exact VL_call hf rfl (Ct.flat hc) hcan hcf hd hk
end Go.Av
