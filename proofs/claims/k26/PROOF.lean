import PyProof.Rows.All
import Wide.All
import OpenK.AllK
import Wide.FinOn
import KE.KStateDown
import Lean
import HandS.ForMost
import HandS.Wide
import HandS.WideBits
import HandS.TupAny
import HandS.Style
import HandS.Defaults
import HandS.Head0
import HandS.Head1
import HandS.Head2
import HandS.HeadEnd
import HandS.HeadHook1
import HandS.HeadHook2
import HandS.CallLocal
import HandS.NoneIn
import HandS.Zip
import PySem.Challenge.RW_roundedwithin_k26_whole_known_words_in_t
set_option Elab.async false
set_option linter.all false
set_option maxRecDepth 100000
set_option maxHeartbeats 8000000
/-! Rounded numbers in plain Lean: fractions are Rat. -/
namespace MA
/-! ### powers of two -/
def two (k : Int) : Rat := (2 : Rat) ^ k
theorem two_pos (k : Int) : 0 < two k := Rat.zpow_pos (by decide)
theorem two_ne (k : Int) : two k ≠ 0 := fun h => by have := two_pos k; rw [h] at this; exact absurd this (by decide)
theorem two_add (a b : Int) : two (a + b) = two a * two b := Rat.zpow_add (by decide) a b
theorem two_zero : two 0 = 1 := Rat.zpow_zero 2
theorem two_nat (n : Nat) : two (n : Int) = ((2 ^ n : Nat) : Rat) := by
  unfold two; rw [Rat.zpow_natCast, Rat.natCast_pow]; rfl
theorem two_of_nonneg {k : Int} (h : 0 ≤ k) : two k = ((2 ^ k.toNat : Int) : Rat) := by
  obtain ⟨n, rfl⟩ := Int.eq_ofNat_of_zero_le h
  rw [two_nat, Int.toNat_natCast, Rat.natCast_pow, Rat.intCast_pow]; rfl
theorem two_neg (k : Int) : two (-k) = (two k)⁻¹ := Rat.zpow_neg 2 k
theorem two_sub (a b : Int) : two (a - b) * two b = two a := by rw [← two_add]; congr 1; omega
theorem two_one : two 1 = 2 := Rat.zpow_one 2
theorem two_succ (k : Int) : two (k + 1) = 2 * two k := by rw [two_add, two_one]; grind
theorem two_ge_one {k : Int} (h : 0 ≤ k) : 1 ≤ two k := by
  rw [two_of_nonneg h, show (1 : Rat) = ((1 : Int) : Rat) from rfl, Rat.intCast_le_intCast]
  have : (0 : Int) < 2 ^ k.toNat := Int.pow_pos (by decide)
  omega
theorem two_le {a b : Int} (h : a ≤ b) : two a ≤ two b := by
  have e : two b = two (b - a) * two a := (two_sub b a).symm
  have h1 := two_ge_one (k := b - a) (by omega)
  have h2 := two_pos a
  have : two a * 1 ≤ two a * two (b - a) := Rat.mul_le_mul_of_nonneg_left h1 (Rat.le_of_lt h2)
  grind
theorem two_lt {a b : Int} (h : a < b) : two a < two b := by
  have h1 := two_le (a := a + 1) (b := b) (by omega)
  have h2 := two_succ a
  have h3 := two_pos a
  grind
theorem two_le_iff {a b : Int} : two a ≤ two b ↔ a ≤ b := ⟨fun h => by
  by_cases c : a ≤ b
  · exact c
  · have := two_lt (a := b) (b := a) (by omega); grind, two_le⟩
theorem two_lt_iff {a b : Int} : two a < two b ↔ a < b := ⟨fun h => by
  by_cases c : a < b
  · exact c
  · have := two_le (a := b) (b := a) (by omega); grind, two_lt⟩
/-- num and den of a power of two -/
theorem two_fr (k : Int) : (two k).num = (if 0 ≤ k then 2 ^ k.toNat else 1) ∧ ((two k).den : Int) = (if 0 ≤ k then 1 else 2 ^ (-k).toNat) := by
  by_cases h : 0 ≤ k
  · rw [if_pos h, if_pos h, two_of_nonneg h]
    exact ⟨Rat.num_intCast _, rfl⟩
  · rw [if_neg h, if_neg h]
    have e : two k = (two (-k))⁻¹ := by rw [two_neg, Rat.inv_inv]
    have hp : (0 : Int) < 2 ^ (-k).toNat := Int.pow_pos (by decide)
    rw [e, Rat.num_inv, Rat.den_inv, two_of_nonneg (by omega), Rat.num_intCast, if_neg (by omega), Rat.den_intCast]
    refine ⟨by rw [Int.sign_eq_one_of_pos hp]; rfl, by omega⟩
/-! ### sizes, lengths -/
def ab (q : Rat) : Rat := if q < 0 then -q else q
theorem num_neg_iff {q : Rat} : q.num < 0 ↔ q < 0 := by
  have := Rat.num_nonneg (q := q)
  constructor
  · intro h; rw [← Rat.not_le]; intro c; have := this.mpr c; omega
  · intro h; by_cases c : q.num < 0
    · exact c
    · exact absurd (this.mp (by omega)) (Rat.not_le.mpr h)
theorem ab_num (q : Rat) : (ab q).num = q.num.natAbs := by
  unfold ab
  split
  · rename_i h; have := num_neg_iff.mpr h; rw [Rat.neg_num]; omega
  · rename_i h; have : ¬ q.num < 0 := fun c => h (num_neg_iff.mp c); omega
theorem ab_den (q : Rat) : (ab q).den = q.den := by unfold ab; split <;> rfl
def bitLen (n : Nat) : Nat := if n = 0 then 0 else n.log2 + 1
theorem bitLen_lt (n : Nat) : n < 2 ^ bitLen n := by
  unfold bitLen
  split
  · rename_i h; subst h; decide
  · exact Nat.lt_log2_self
theorem bitLen_le {n k : Nat} (h : k < bitLen n) : 2 ^ k ≤ n := by
  unfold bitLen at h
  split at h
  · omega
  · rename_i h0
    exact Nat.le_trans (Nat.pow_le_pow_right (by decide) (by omega)) (Nat.log2_self_le h0)
/-! ### the forms -/
inductive Num where
  | none
  | nothing (s : Int)
  | endless (s : Int)
  | number (s w p : Int)
  deriving DecidableEq
structure Fmt where
  p : Nat
  lo : Int
  hi : Int
inductive Way where
  | even | away | up | down | cut
  deriving DecidableEq
inductive Mark where
  | inexact | overflow | underflow | invalid | division
  deriving DecidableEq
def Num.val : Num → Rat
  | .number s w p => if s = 1 then -((w : Rat) * two p) else (w : Rat) * two p
  | _ => 0
def Num.fin : Num → Bool
  | .number _ _ _ => true
  | .nothing _ => true
  | _ => false
def Num.turned : Num → Num
  | .none => .none
  | .nothing s => .nothing (1 - s)
  | .endless s => .endless (1 - s)
  | .number s w p => .number (1 - s) w p
def Num.sized : Num → Num
  | .none => .none
  | .nothing _ => .nothing 0
  | .endless _ => .endless 0
  | .number _ w p => .number 0 w p
/-! ### rounding -/
/-- the greatest power of two not above the size -/
def expo (q : Rat) : Int :=
  if two ((bitLen q.num.natAbs : Int) - (bitLen q.den : Int)) ≤ ab q then (bitLen q.num.natAbs : Int) - (bitLen q.den : Int) else (bitLen q.num.natAbs : Int) - (bitLen q.den : Int) - 1
def unitAt (F : Fmt) (q : Rat) : Int := if q.num = 0 then F.lo else max F.lo (expo q - F.p + 1)
def raised (way : Way) (s m r l : Int) : Bool :=
  match way with
  | .cut => false
  | .up => decide (s = 0)
  | .down => decide (s = 1)
  | .even => if 2 * r = l then decide (m % 2 = 1) else decide (l < 2 * r)
  | .away => if 2 * r = l then true else decide (l < 2 * r)
def greatest (F : Fmt) : Num := .number 0 (2 ^ F.p - 1) F.hi
def leastFull (F : Fmt) : Num := .number 0 (2 ^ (F.p - 1)) F.lo
def least (F : Fmt) : Num := .number 0 1 F.lo
def beyond (F : Fmt) (way : Way) (s : Int) : Num :=
  if way = .even ∨ way = .away ∨ (way = .up ∧ s = 0) ∨ (way = .down ∧ s = 1) then .endless s else .number s (2 ^ F.p - 1) F.hi
def marksOf (F : Fmt) (q : Rat) (r : Int) : List Mark :=
  if r = 0 then [] else if ab q < (leastFull F).val then [.inexact, .underflow] else [.inexact]
/-- |q| in units: what is rounded -/
def scaled (F : Fmt) (q : Rat) : Rat := ab (q * two (-unitAt F q))
def rndW (F : Fmt) (way : Way) (q : Rat) : Int :=
  let t := scaled F q
  let own : Int := if q.num < 0 then 1 else 0
  if 0 < t.num % (t.den : Int) ∧ raised way own (t.num / (t.den : Int)) (t.num % (t.den : Int)) (t.den : Int) = true then t.num / (t.den : Int) + 1 else t.num / (t.den : Int)
def rnd (F : Fmt) (way : Way) (q : Rat) (s : Int) : Num × List Mark :=
  if q.num = 0 then (.nothing s, []) else
    let own : Int := if q.num < 0 then 1 else 0
    let t := scaled F q
    let marks := marksOf F q (t.num % (t.den : Int))
    let m := rndW F way q
    let c := m = 2 ^ F.p
    let m2 := if c then m / 2 else m
    let u2 := if c then unitAt F q + 1 else unitAt F q
    if F.hi < u2 then (beyond F way own, [.inexact, .overflow])
    else if m2 = 0 then (.nothing own, marks) else (.number own m2 u2, marks)
def signN (way : Way) (a b : Int) : Int := if a = b then a else if way = .down then 1 else 0
def Num.sg : Num → Int
  | .none => 0
  | .nothing s => s
  | .endless s => s
  | .number s _ _ => s
def Num.inf : Num → Bool
  | .endless _ => true
  | _ => false
def Num.zero : Num → Bool
  | .nothing _ => true
  | _ => false
def plusM (F : Fmt) (way : Way) (a b : Num) : Num × List Mark :=
  if a = .none ∨ b = .none then (.none, [])
  else if a.inf = true ∨ b.inf = true then
    if a.inf = true ∧ b.inf = true then (if a.sg = b.sg then (a, []) else (.none, [.invalid]))
    else (if a.inf = true then a else b, [])
  else rnd F way (a.val + b.val) (signN way a.sg b.sg)
def minusM (F : Fmt) (way : Way) (a b : Num) : Num × List Mark := plusM F way a b.turned
def productM (F : Fmt) (way : Way) (a b : Num) : Num × List Mark :=
  if a = .none ∨ b = .none then (.none, [])
  else if a.inf = true ∨ b.inf = true then
    if a.zero = true ∨ b.zero = true then (.none, [.invalid]) else (.endless ((a.sg + b.sg) % 2), [])
  else rnd F way (a.val * b.val) ((a.sg + b.sg) % 2)
def overM (F : Fmt) (way : Way) (a b : Num) : Num × List Mark :=
  if a = .none ∨ b = .none then (.none, [])
  else if (a.inf = true ∧ b.inf = true) ∨ (a.zero = true ∧ b.zero = true) then (.none, [.invalid])
  else if a.inf = true then (.endless ((a.sg + b.sg) % 2), [])
  else if b.inf = true then (.nothing ((a.sg + b.sg) % 2), [])
  else if b.zero = true then (.endless ((a.sg + b.sg) % 2), [.division])
  else rnd F way (a.val / b.val) ((a.sg + b.sg) % 2)
end MA

/-! Rounding: what is near, what keeps order. -/
namespace MA
/-! ### sizes -/
theorem ab_nonneg (q : Rat) : 0 ≤ ab q := by unfold ab; split <;> grind
theorem ab_of_nonneg {q : Rat} (h : 0 ≤ q) : ab q = q := by unfold ab; rw [if_neg (by grind)]
theorem ab_of_neg {q : Rat} (h : q < 0) : ab q = -q := by unfold ab; rw [if_pos h]
theorem ab_neg (q : Rat) : ab (-q) = ab q := by unfold ab; split <;> split <;> grind
theorem ab_zero : ab 0 = 0 := by unfold ab; simp
theorem ab_eq_zero {q : Rat} : ab q = 0 ↔ q = 0 := by unfold ab; split <;> grind
theorem ab_pos {q : Rat} (h : q ≠ 0) : 0 < ab q := by unfold ab; split <;> grind
theorem ab_le {q b : Rat} : ab q ≤ b ↔ -b ≤ q ∧ q ≤ b := by unfold ab; split <;> grind
theorem ab_lt {q b : Rat} : ab q < b ↔ -b < q ∧ q < b := by unfold ab; split <;> grind
theorem le_ab (q : Rat) : q ≤ ab q := by unfold ab; split <;> grind
theorem neg_le_ab (q : Rat) : -q ≤ ab q := by unfold ab; split <;> grind
theorem ab_mul_pos {q t : Rat} (h : 0 < t) : ab (q * t) = ab q * t := by
  unfold ab
  by_cases c : q < 0
  · have : q * t < 0 := (Rat.mul_neg_iff_of_pos_right h).mpr c
    rw [if_pos c, if_pos this]; grind
  · have : 0 ≤ q * t := Rat.mul_nonneg (by grind) (by grind)
    rw [if_neg c, if_neg (by grind)]
theorem num_eq_zero_iff {q : Rat} : q.num = 0 ↔ q = 0 := Rat.num_eq_zero
theorem mul_den (q : Rat) : q * (q.den : Rat) = (q.num : Rat) := by
  have h : (q.den : Rat) ≠ 0 := fun e => q.den_nz (Rat.natCast_eq_zero_iff.mp e)
  have := Rat.num_divInt_den q
  rw [Rat.divInt_eq_div] at this
  conv => lhs; lhs; rw [← this]
  exact Rat.div_mul_cancel h
/-! ### the exponent -/
theorem cast_two (n : Nat) : ((2 ^ n : Nat) : Rat) = two (n : Int) := (two_nat n).symm
theorem natCast_le {a b : Nat} (h : a ≤ b) : (a : Rat) ≤ (b : Rat) := by
  rw [← Rat.intCast_natCast, ← Rat.intCast_natCast, Rat.intCast_le_intCast]; omega
theorem natCast_lt {a b : Nat} (h : a < b) : (a : Rat) < (b : Rat) := by
  rw [← Rat.intCast_natCast, ← Rat.intCast_natCast, Rat.intCast_lt_intCast]; omega
theorem bit_bounds {n : Nat} (h : n ≠ 0) : two ((bitLen n : Int) - 1) ≤ (n : Rat) ∧ (n : Rat) < two (bitLen n : Int) := by
  have h1 := bitLen_lt n
  have h0 : 0 < bitLen n := by unfold bitLen; rw [if_neg h]; omega
  have h2 := bitLen_le (n := n) (k := bitLen n - 1) (by omega)
  constructor
  · have := natCast_le h2
    rw [cast_two] at this
    rw [show (bitLen n : Int) - 1 = ((bitLen n - 1 : Nat) : Int) by omega]; exact this
  · have := natCast_lt h1
    rw [cast_two] at this; exact this
theorem expo_spec {q : Rat} (h : q ≠ 0) : two (expo q) ≤ ab q ∧ ab q < two (expo q + 1) := by
  have hn : q.num.natAbs ≠ 0 := by have := mt num_eq_zero_iff.mp h; omega
  obtain ⟨n1, n2⟩ := bit_bounds hn
  obtain ⟨d1, d2⟩ := bit_bounds q.den_nz
  have e : ab q * (q.den : Rat) = (q.num.natAbs : Rat) := by
    have := mul_den (ab q)
    rw [ab_den, ab_num, Rat.intCast_natCast] at this; exact this
  have a0 := ab_pos h
  unfold expo
  generalize (bitLen q.num.natAbs : Int) = bn at *
  generalize (bitLen q.den : Int) = bd at *
  have lo : two (bn - bd - 1) ≤ ab q := by
    have h1 : two (bn - bd - 1) * two bd = two (bn - 1) := by rw [← two_add]; congr 1; omega
    have h2 : ab q * (q.den : Rat) ≤ ab q * two bd := Rat.mul_le_mul_of_nonneg_left (Rat.le_of_lt d2) (Rat.le_of_lt a0)
    exact Rat.le_of_mul_le_mul_right (c := two bd) (by rw [h1]; grind) (two_pos bd)
  have hi : ab q < two (bn - bd + 1) := by
    have h1 : two (bn - bd + 1) * two (bd - 1) = two bn := by rw [← two_add]; congr 1; omega
    have h2 : ab q * two (bd - 1) ≤ ab q * (q.den : Rat) := Rat.mul_le_mul_of_nonneg_left d1 (Rat.le_of_lt a0)
    exact Rat.lt_of_mul_lt_mul_right (c := two (bd - 1)) (by rw [h1]; grind) (Rat.le_of_lt (two_pos _))
  split
  · rename_i c; exact ⟨c, hi⟩
  · rename_i c
    refine ⟨lo, ?_⟩
    rw [show bn - bd - 1 + 1 = bn - bd by omega]; grind
/-! ### units -/
theorem unit_ge (F : Fmt) (q : Rat) : F.lo ≤ unitAt F q := by unfold unitAt; split <;> omega
theorem unit_cases (F : Fmt) {q : Rat} (h : q ≠ 0) : unitAt F q = F.lo ∧ expo q - F.p + 1 ≤ F.lo ∨ unitAt F q = expo q - F.p + 1 ∧ F.lo ≤ expo q - F.p + 1 := by
  unfold unitAt; rw [if_neg (mt num_eq_zero_iff.mp h)]; omega
theorem scaled_eq (F : Fmt) (q : Rat) : scaled F q = ab q * two (-unitAt F q) := ab_mul_pos (two_pos _)
theorem scaled_mul (F : Fmt) (q : Rat) : scaled F q * two (unitAt F q) = ab q := by
  rw [scaled_eq, Rat.mul_assoc, ← two_add, show -unitAt F q + unitAt F q = 0 by omega, two_zero, Rat.mul_one]
theorem scaled_nonneg (F : Fmt) (q : Rat) : 0 ≤ scaled F q := ab_nonneg _
theorem scaled_lt (F : Fmt) (q : Rat) : scaled F q < two F.p := by
  by_cases h : q = 0
  · subst h
    rw [scaled_eq, ab_zero, Rat.zero_mul]; exact two_pos _
  · have h1 := (expo_spec h).2
    have h2 : two (expo q + 1) ≤ two F.p * two (unitAt F q) := by rw [← two_add]; exact two_le (by have := unit_cases F h; omega)
    rw [← Rat.mul_lt_mul_right (two_pos (unitAt F q)), scaled_mul]; grind
theorem scaled_ge {F : Fmt} {q : Rat} (h : F.lo < unitAt F q) : two (F.p - 1) ≤ scaled F q := by
  by_cases h0 : q = 0
  · subst h0; unfold unitAt at h; rw [if_pos (show (0 : Rat).num = 0 from rfl)] at h; omega
  · have h1 := (expo_spec h0).1
    have h2 : two (F.p - 1 : Int) * two (unitAt F q) = two (expo q) := by rw [← two_add]; congr 1; have := unit_cases F h0; omega
    refine Rat.le_of_mul_le_mul_right (c := two (unitAt F q)) ?_ (two_pos _)
    rw [scaled_mul, h2]; exact h1
/-! ### the whole part -/
def flo (F : Fmt) (q : Rat) : Int := (scaled F q).num / ((scaled F q).den : Int)
def rest (F : Fmt) (q : Rat) : Int := (scaled F q).num % ((scaled F q).den : Int)
theorem flo_eq (F : Fmt) (q : Rat) : flo F q = (scaled F q).floor := (Rat.floor_def _).symm
theorem flo_le (F : Fmt) (q : Rat) : (flo F q : Rat) ≤ scaled F q := by rw [flo_eq]; exact Rat.floor_le _
theorem lt_flo (F : Fmt) (q : Rat) : scaled F q < (flo F q : Rat) + 1 := by
  have := Rat.lt_floor_add_one (scaled F q)
  rw [← flo_eq, Rat.intCast_add] at this; exact this
theorem den_pos (q : Rat) : (0 : Int) < (q.den : Int) := by have := q.den_nz; omega
theorem rest_bounds (F : Fmt) (q : Rat) : 0 ≤ rest F q ∧ rest F q < ((scaled F q).den : Int) := ⟨Int.emod_nonneg _ (Int.ne_of_gt (den_pos _)), Int.emod_lt_of_pos _ (den_pos _)⟩
theorem rest_eq (F : Fmt) (q : Rat) : (rest F q : Rat) = (scaled F q - flo F q) * ((scaled F q).den : Rat) := by
  have h1 : (scaled F q).num = ((scaled F q).den : Int) * flo F q + rest F q := (Int.mul_ediv_add_emod _ _).symm
  have h2 := mul_den (scaled F q)
  have h3 : ((scaled F q).num : Rat) = ((scaled F q).den : Rat) * (flo F q : Rat) + (rest F q : Rat) := by
    rw [h1, Rat.intCast_add, Rat.intCast_mul, Rat.intCast_natCast]
  grind
theorem rest_zero {F : Fmt} {q : Rat} : rest F q = 0 ↔ scaled F q = flo F q := by
  have h := rest_eq F q
  have hd : ((scaled F q).den : Rat) ≠ 0 := fun e => (scaled F q).den_nz (Rat.natCast_eq_zero_iff.mp e)
  constructor
  · intro e
    rw [e] at h
    have : (scaled F q - flo F q) * ((scaled F q).den : Rat) = 0 := h.symm
    rcases Rat.mul_eq_zero.mp this with c | c
    · grind
    · exact absurd c hd
  · intro e
    rw [e, Rat.sub_self, Rat.zero_mul] at h
    exact Rat.intCast_eq_zero_iff.mp h
theorem rndW_cases (F : Fmt) (v : Way) (q : Rat) : rndW F v q = flo F q ∨ rndW F v q = flo F q + 1 ∧ 0 < rest F q := by
  show (if 0 < rest F q ∧ _ then flo F q + 1 else flo F q) = _ ∨ (if 0 < rest F q ∧ _ then flo F q + 1 else flo F q) = _ ∧ _
  by_cases h : 0 < rest F q ∧ raised v (if q.num < 0 then 1 else 0) (flo F q) (rest F q) ((scaled F q).den : Int) = true
  · exact .inr ⟨if_pos h, h.1⟩
  · exact .inl (if_neg h)
theorem int_lt_two {m : Int} {n : Nat} (h : (m : Rat) < two n) : m < 2 ^ n := by
  rw [two_nat, ← Rat.intCast_natCast, Rat.intCast_lt_intCast] at h
  have : ((2 ^ n : Nat) : Int) = 2 ^ n := by simp
  omega
theorem two_le_int {m : Int} {n : Nat} (h : two n ≤ (m : Rat)) : 2 ^ n ≤ m := by
  rw [two_nat, ← Rat.intCast_natCast, Rat.intCast_le_intCast] at h
  have : ((2 ^ n : Nat) : Int) = 2 ^ n := by simp
  omega
theorem flo_nonneg (F : Fmt) (q : Rat) : 0 ≤ flo F q := Int.ediv_nonneg (Rat.num_nonneg.mpr (scaled_nonneg F q)) (Int.le_of_lt (den_pos _))
theorem flo_lt (F : Fmt) (q : Rat) : flo F q < 2 ^ F.p := int_lt_two (by have := flo_le F q; have := scaled_lt F q; grind)
theorem le_flo {m : Int} {F : Fmt} {q : Rat} (h : (m : Rat) ≤ scaled F q) : m ≤ flo F q := by rw [flo_eq]; exact Rat.le_floor_iff.mpr h
theorem flo_ge {F : Fmt} {q : Rat} (hp : 1 ≤ F.p) (h : F.lo < unitAt F q) : 2 ^ (F.p - 1) ≤ flo F q := by
  have := scaled_ge h
  apply le_flo
  rw [show ((F.p : Int) - 1) = ((F.p - 1 : Nat) : Int) by omega, two_nat] at this
  rw [Rat.intCast_pow]
  rw [Rat.natCast_pow] at this
  exact this
theorem rndW_nonneg (F : Fmt) (v : Way) (q : Rat) : 0 ≤ rndW F v q := by have := flo_nonneg F q; rcases rndW_cases F v q with h | h <;> omega
theorem rndW_le (F : Fmt) (v : Way) (q : Rat) : rndW F v q ≤ 2 ^ F.p := by have := flo_lt F q; rcases rndW_cases F v q with h | h <;> omega
theorem rndW_ge {F : Fmt} {v : Way} {q : Rat} (hp : 1 ≤ F.p) (h : F.lo < unitAt F q) : 2 ^ (F.p - 1) ≤ rndW F v q := by have := flo_ge hp h; rcases rndW_cases F v q with h | h <;> omega
/-! ### what a fraction is rounded to, exponents without end -/
def sgn (q : Rat) : Rat := if q < 0 then -1 else 1
/-- the size -/
def rA (F : Fmt) (v : Way) (q : Rat) : Rat := (rndW F v q : Rat) * two (unitAt F q)
def rv (F : Fmt) (v : Way) (q : Rat) : Rat := if q < 0 then -rA F v q else rA F v q
/-- a number of the format, exponents without end -/
def rep (F : Fmt) (x : Rat) : Prop := ∃ k e : Int, x = (k : Rat) * two e ∧ F.lo ≤ e ∧ -(2 ^ F.p) ≤ k ∧ k ≤ 2 ^ F.p
theorem rep_neg {F : Fmt} {x : Rat} (h : rep F x) : rep F (-x) := by
  obtain ⟨k, e, rfl, h1, h2, h3⟩ := h
  exact ⟨-k, e, by rw [Rat.intCast_neg]; grind, h1, by omega, by omega⟩
theorem rep_zero (F : Fmt) : rep F 0 := ⟨0, F.lo, by simp, by omega, by have : (0 : Int) < 2 ^ F.p := Int.pow_pos (by decide); omega, by have : (0 : Int) < 2 ^ F.p := Int.pow_pos (by decide); omega⟩
theorem rA_nonneg (F : Fmt) (v : Way) (q : Rat) : 0 ≤ rA F v q := Rat.mul_nonneg (by have := rndW_nonneg F v q; exact_mod_cast this) (Rat.le_of_lt (two_pos _))
theorem rep_rA (F : Fmt) (v : Way) (q : Rat) : rep F (rA F v q) := ⟨_, _, rfl, unit_ge F q, by have := rndW_nonneg F v q; have : (0 : Int) < 2 ^ F.p := Int.pow_pos (by decide); omega, rndW_le F v q⟩
theorem rep_rv (F : Fmt) (v : Way) (q : Rat) : rep F (rv F v q) := by unfold rv; split; exact rep_neg (rep_rA F v q); exact rep_rA F v q
end MA

namespace MA
theorem pow_pos' (p : Nat) : (0 : Int) < 2 ^ p := Int.pow_pos (by decide)
theorem cast_pow (p : Nat) : ((2 ^ p : Int) : Rat) = two (p : Int) := by rw [two_nat, Rat.intCast_pow, Rat.natCast_pow]; rfl
theorem mul_le_r {a b c : Rat} (h : a ≤ b) (hc : 0 ≤ c) : a * c ≤ b * c := Rat.mul_le_mul_of_nonneg_right h hc
theorem mul_lt_r {a b c : Rat} (h : a < b) (hc : 0 < c) : a * c < b * c := Rat.mul_lt_mul_of_pos_right h hc
theorem ic_le {a b : Int} (h : a ≤ b) : (a : Rat) ≤ b := Rat.intCast_le_intCast.mpr h
theorem ic_lt {a b : Int} (h : a < b) : (a : Rat) < b := Rat.intCast_lt_intCast.mpr h
/-- no number lies between two neighbours -/
theorem no_between {F : Fmt} {u m : Int} (hp : 1 ≤ F.p) (hu : F.lo ≤ u) (hm : u = F.lo ∨ 2 ^ (F.p - 1) ≤ m) {x : Rat} (hx : rep F x) (h1 : (m : Rat) * two u < x) (h2 : x < ((m : Rat) + 1) * two u) : False := by
  obtain ⟨k, e, rfl, he, hk1, hk2⟩ := hx
  by_cases c : u ≤ e
  · have e1 : two e = two (e - u) * two u := (two_sub e u).symm
    obtain ⟨n, hn⟩ := Int.eq_ofNat_of_zero_le (show 0 ≤ e - u by omega)
    have e2 : two (e - u) = ((2 ^ n : Int) : Rat) := by rw [cast_pow, hn]
    rw [e1, ← Rat.mul_assoc, e2, ← Rat.intCast_mul] at h1 h2
    have h3 := Rat.intCast_lt_intCast.mp ((Rat.mul_lt_mul_right (two_pos u)).mp h1)
    have h4 := (Rat.mul_lt_mul_right (two_pos u)).mp h2
    rw [show (m : Rat) + 1 = ((m + 1 : Int) : Rat) by rw [Rat.intCast_add]; rfl] at h4
    have h5 := Rat.intCast_lt_intCast.mp h4
    omega
  · have hm' : (2 : Int) ^ (F.p - 1) ≤ m := by rcases hm with h | h; omega; exact h
    have a1 : two ((F.p - 1 : Nat) : Int) * two u ≤ (m : Rat) * two u := mul_le_r (by rw [← cast_pow]; exact ic_le hm') (Rat.le_of_lt (two_pos u))
    have a2 : two (F.p : Int) * two e ≤ two ((F.p - 1 : Nat) : Int) * two u := by rw [← two_add, ← two_add]; exact two_le (by omega)
    have a3 : (k : Rat) * two e ≤ two (F.p : Int) * two e := mul_le_r (by rw [← cast_pow]; exact ic_le hk2) (Rat.le_of_lt (two_pos e))
    grind
section
variable {F : Fmt} {v : Way} {q : Rat}
theorem unit_or (hp : 1 ≤ F.p) : unitAt F q = F.lo ∨ 2 ^ (F.p - 1) ≤ flo F q := by
  by_cases c : unitAt F q = F.lo
  · exact .inl c
  · exact .inr (flo_ge hp (by have := unit_ge F q; omega))
/-- the cell of a size -/
theorem cell : (flo F q : Rat) * two (unitAt F q) ≤ ab q ∧ ab q < ((flo F q : Rat) + 1) * two (unitAt F q) := by
  rw [← scaled_mul F q]
  exact ⟨mul_le_r (flo_le F q) (Rat.le_of_lt (two_pos _)), mul_lt_r (lt_flo F q) (two_pos _)⟩
theorem cell_eq (h : rest F q = 0) : ab q = (flo F q : Rat) * two (unitAt F q) := by rw [← scaled_mul F q, rest_zero.mp h]
theorem cell_lt (h : 0 < rest F q) : (flo F q : Rat) * two (unitAt F q) < ab q := by
  rw [← scaled_mul F q]
  refine mul_lt_r ?_ (two_pos _)
  have h1 := flo_le F q
  by_cases c : scaled F q = flo F q
  · have := rest_zero.mpr c; omega
  · grind
theorem rA_cases : rA F v q = (flo F q : Rat) * two (unitAt F q) ∨ rA F v q = ((flo F q : Rat) + 1) * two (unitAt F q) ∧ 0 < rest F q := by
  unfold rA
  rcases rndW_cases F v q with h | ⟨h, r⟩
  · rw [h]; exact .inl rfl
  · rw [h, Rat.intCast_add]; exact .inr ⟨rfl, r⟩
theorem rep_le_flo (hp : 1 ≤ F.p) {x : Rat} (hx : rep F x) (h : x < ((flo F q : Rat) + 1) * two (unitAt F q)) : x ≤ (flo F q : Rat) * two (unitAt F q) := by
  rw [← Rat.not_lt]; intro c
  exact no_between hp (unit_ge F q) (unit_or hp) hx c h
theorem rA_ge (hp : 1 ≤ F.p) {x : Rat} (hx : rep F x) (h : x ≤ ab q) : x ≤ rA F v q := by
  have h1 := rep_le_flo hp hx (q := q) (by have := cell (F := F) (q := q); grind)
  have t := two_pos (unitAt F q)
  rcases rA_cases (F := F) (v := v) (q := q) with e | ⟨e, _⟩ <;> rw [e] <;> grind
theorem rA_le (hp : 1 ≤ F.p) {x : Rat} (hx : rep F x) (h : ab q ≤ x) : rA F v q ≤ x := by
  have c := cell (F := F) (q := q)
  rcases rA_cases (F := F) (v := v) (q := q) with e | ⟨e, r⟩ <;> rw [e]
  · grind
  · rw [← Rat.not_lt]; intro c2
    have := rep_le_flo hp hx (q := q) c2
    have := cell_lt r
    grind
theorem rv_ge (hp : 1 ≤ F.p) {x : Rat} (hx : rep F x) (h : x ≤ q) : x ≤ rv F v q := by
  unfold rv
  split
  · rename_i c
    have := rA_le (v := v) (q := q) hp (rep_neg hx) (by rw [ab_of_neg c]; grind)
    grind
  · rename_i c
    exact rA_ge hp hx (by rw [ab_of_nonneg (by grind)]; exact h)
theorem rv_le (hp : 1 ≤ F.p) {x : Rat} (hx : rep F x) (h : q ≤ x) : rv F v q ≤ x := by
  unfold rv
  split
  · rename_i c
    have := rA_ge (v := v) (q := q) hp (rep_neg hx) (by rw [ab_of_neg c]; grind)
    grind
  · rename_i c
    exact rA_le hp hx (by rw [ab_of_nonneg (by grind)]; exact h)
theorem rv_rep (hp : 1 ≤ F.p) (h : rep F q) : rv F v q = q := Rat.le_antisymm (rv_le hp h Rat.le_refl) (rv_ge hp h Rat.le_refl)
theorem rA_off : ab (rA F v q - ab q) < two (unitAt F q) := by
  have c := cell (F := F) (q := q)
  have t := two_pos (unitAt F q)
  rw [ab_lt]
  rcases rA_cases (F := F) (v := v) (q := q) with e | ⟨e, r⟩ <;> rw [e]
  · grind
  · have := cell_lt r; grind
theorem rv_off_eq : ab (rv F v q - q) = ab (rA F v q - ab q) := by
  unfold rv
  split
  · rename_i c
    rw [ab_of_neg c, show -rA F v q - q = -(rA F v q - -q) by grind, ab_neg]
  · rename_i c
    rw [ab_of_nonneg (q := q) (by grind)]
theorem rv_off : ab (rv F v q - q) < two (unitAt F q) := by rw [rv_off_eq]; exact rA_off
/-- nearest -/
def near (v : Way) : Prop := v = .even ∨ v = .away
theorem rA_half (hn : near v) : 2 * ab (rA F v q - ab q) ≤ two (unitAt F q) := by
  have t := two_pos (unitAt F q)
  have hs := scaled_mul F q
  have hr := rest_eq F q
  have hd : (0 : Rat) < ((scaled F q).den : Rat) := by
    have := ic_lt (den_pos (scaled F q)); rw [Rat.intCast_natCast] at this; exact this
  have hb := rest_bounds F q
  have key : rndW F v q = flo F q ∧ 2 * rest F q ≤ ((scaled F q).den : Int) ∨ rndW F v q = flo F q + 1 ∧ ((scaled F q).den : Int) ≤ 2 * rest F q := by
    show (if 0 < rest F q ∧ raised v (if q.num < 0 then 1 else 0) (flo F q) (rest F q) ((scaled F q).den : Int) = true then flo F q + 1 else flo F q) = _ ∧ _ ∨ (if 0 < rest F q ∧ raised v (if q.num < 0 then 1 else 0) (flo F q) (rest F q) ((scaled F q).den : Int) = true then flo F q + 1 else flo F q) = _ ∧ _
    by_cases h : 0 < rest F q ∧ raised v (if q.num < 0 then 1 else 0) (flo F q) (rest F q) ((scaled F q).den : Int) = true
    · refine .inr ⟨if_pos h, ?_⟩
      obtain ⟨h1, h2⟩ := h
      rcases hn with e | e <;> subst e <;> simp only [raised] at h2 <;> split at h2 <;> simp at h2 <;> omega
    · refine .inl ⟨if_neg h, ?_⟩
      by_cases h0 : 0 < rest F q
      · have h2 : ¬ raised v (if q.num < 0 then 1 else 0) (flo F q) (rest F q) ((scaled F q).den : Int) = true := fun z => h ⟨h0, z⟩
        rcases hn with e | e <;> subst e <;> simp only [raised] at h2 <;> split at h2 <;> simp at h2 <;> omega
      · omega
  have ca (x : Int) : ((2 * x : Int) : Rat) = 2 * (x : Rat) := by rw [Rat.intCast_mul]; rfl
  rcases key with ⟨e, h⟩ | ⟨e, h⟩
  · have h1 : 2 * (scaled F q - flo F q) * ((scaled F q).den : Rat) ≤ 1 * ((scaled F q).den : Rat) := by
      have := ic_le h; rw [ca, hr, Rat.intCast_natCast] at this; grind
    have h2 := Rat.le_of_mul_le_mul_right h1 hd
    have h3 := mul_le_r h2 (Rat.le_of_lt t)
    have h4 := cell (F := F) (q := q)
    have h5 : ab (rA F v q - ab q) = ab q - rA F v q := by
      unfold rA; rw [e, ← ab_neg, ab_of_nonneg (by grind)]; grind
    rw [h5]; unfold rA; rw [e, ← hs]; grind
  · have h1 : 1 * ((scaled F q).den : Rat) ≤ 2 * (scaled F q - flo F q) * ((scaled F q).den : Rat) := by
      have := ic_le h; rw [ca, hr, Rat.intCast_natCast] at this; grind
    have h2 := Rat.le_of_mul_le_mul_right h1 hd
    have h3 := mul_le_r h2 (Rat.le_of_lt t)
    have h4 := cell (F := F) (q := q)
    have h5 : ab (rA F v q - ab q) = rA F v q - ab q := by
      unfold rA; rw [e, Rat.intCast_add, ab_of_nonneg (by grind)]
    rw [h5]; unfold rA; rw [e, Rat.intCast_add, ← hs]; grind
theorem rv_half (hn : near v) : 2 * ab (rv F v q - q) ≤ two (unitAt F q) := by rw [rv_off_eq]; exact rA_half hn
theorem rA_near (hp : 1 ≤ F.p) (hn : near v) {x : Rat} (hx : rep F x) : ab (rA F v q - ab q) ≤ ab (x - ab q) := by
  have c := cell (F := F) (q := q)
  have hh := rA_half (F := F) (q := q) hn
  have hx1 := le_ab (x - ab q)
  have hx2 := neg_le_ab (x - ab q)
  rcases rA_cases (F := F) (v := v) (q := q) with e | ⟨e, r⟩
  · -- down: the upper neighbour is as far
    have h5 : ab (rA F v q - ab q) = ab q - rA F v q := by rw [e, ← ab_neg, ab_of_nonneg (by grind)]; grind
    rw [h5] at hh ⊢
    by_cases d : x < ((flo F q : Rat) + 1) * two (unitAt F q)
    · have := rep_le_flo hp hx d; grind
    · grind
  · have h5 : ab (rA F v q - ab q) = rA F v q - ab q := by rw [e, ab_of_nonneg (by grind)]
    rw [h5] at hh ⊢
    by_cases d : x < ((flo F q : Rat) + 1) * two (unitAt F q)
    · have := rep_le_flo hp hx d; grind
    · grind
theorem rv_near (hp : 1 ≤ F.p) (hn : near v) {x : Rat} (hx : rep F x) : ab (rv F v q - q) ≤ ab (x - q) := by
  rw [rv_off_eq]
  by_cases c : q < 0
  · have := rA_near (q := q) hp hn (rep_neg hx)
    rw [show -x - ab q = -(x - q) by rw [ab_of_neg c]; grind, ab_neg] at this
    exact this
  · have := rA_near (q := q) hp hn hx
    rw [ab_of_nonneg (q := q) (by grind)] at this ⊢
    exact this
/-! ways with a side -/
theorem raised_own (q : Rat) : (if q.num < 0 then (1 : Int) else 0) = if q < 0 then 1 else 0 := by
  by_cases c : q < 0
  · rw [if_pos c, if_pos (num_neg_iff.mpr c)]
  · rw [if_neg c, if_neg (fun z => c (num_neg_iff.mp z))]
theorem rndW_def : rndW F v q = if 0 < rest F q ∧ raised v (if q < 0 then 1 else 0) (flo F q) (rest F q) ((scaled F q).den : Int) = true then flo F q + 1 else flo F q := by
  rw [← raised_own]; rfl
theorem rA_cut (h : raised v (if q < 0 then 1 else 0) (flo F q) (rest F q) ((scaled F q).den : Int) = false) : rA F v q ≤ ab q := by
  unfold rA
  rw [rndW_def, if_neg (by rw [h]; simp)]
  exact (cell (F := F) (q := q)).1
theorem rA_rise (h : raised v (if q < 0 then 1 else 0) (flo F q) (rest F q) ((scaled F q).den : Int) = true) : ab q ≤ rA F v q := by
  unfold rA
  rw [rndW_def]
  by_cases c : 0 < rest F q
  · rw [if_pos ⟨c, h⟩, Rat.intCast_add]
    exact Rat.le_of_lt (cell (F := F) (q := q)).2
  · rw [if_neg (fun z => c z.1), ← cell_eq (by have := rest_bounds F q; omega)]
    exact Rat.le_refl
theorem rv_up : q ≤ rv F .up q := by
  unfold rv
  split
  · rename_i c
    have := rA_cut (F := F) (v := .up) (q := q) (by rw [if_pos c]; rfl)
    rw [ab_of_neg c] at this; grind
  · rename_i c
    have := rA_rise (F := F) (v := .up) (q := q) (by rw [if_neg c]; rfl)
    rw [ab_of_nonneg (by grind)] at this; exact this
theorem rv_down : rv F .down q ≤ q := by
  unfold rv
  split
  · rename_i c
    have := rA_rise (F := F) (v := .down) (q := q) (by rw [if_pos c]; rfl)
    rw [ab_of_neg c] at this; grind
  · rename_i c
    have := rA_cut (F := F) (v := .down) (q := q) (by rw [if_neg c]; rfl)
    rw [ab_of_nonneg (by grind)] at this; exact this
theorem rA_cutW : rA F .cut q ≤ ab q := rA_cut rfl
/-- order is kept -/
theorem rv_mono (hp : 1 ≤ F.p) {q' : Rat} (h : q ≤ q') : rv F v q ≤ rv F v q' := by
  by_cases h1 : q ≤ rv F v q'
  · exact rv_le hp (rep_rv F v q') h1
  by_cases h2 : rv F v q ≤ q'
  · exact rv_ge hp (rep_rv F v q) h2
  have n1 : near v → False := fun hn => by
    have a := rv_near (q := q) hp hn (rep_rv F v q')
    have b := rv_near (q := q') hp hn (rep_rv F v q)
    rw [ab_of_nonneg (q := rv F v q - q) (by grind), ← ab_neg (rv F v q' - q), ab_of_nonneg (q := -(rv F v q' - q)) (by grind)] at a
    rw [ab_of_nonneg (q := rv F v q - q') (by grind), ← ab_neg (rv F v q' - q'), ab_of_nonneg (q := -(rv F v q' - q')) (by grind)] at b
    have e : q = q' := by grind
    subst e
    grind
  cases v with
  | even => exact (n1 (.inl rfl)).elim
  | away => exact (n1 (.inr rfl)).elim
  | up => have := rv_up (F := F) (q := q'); grind
  | down => have := rv_down (F := F) (q := q); grind
  | cut =>
    by_cases c : q < 0
    · by_cases c' : q' < 0
      · have := rA_cutW (F := F) (q := q')
        unfold rv at h1 h2
        rw [if_pos c'] at h1
        rw [ab_of_neg c'] at this
        grind
      · have := rA_nonneg F .cut q'
        unfold rv at h1
        rw [if_neg c'] at h1
        grind
    · have := rA_cutW (F := F) (q := q)
      unfold rv at h2
      rw [if_neg c] at h2
      rw [ab_of_nonneg (by grind)] at this
      grind
end
end MA

namespace MA
def Way.flip : Way → Way
  | .up => .down
  | .down => .up
  | v => v
section
variable {F : Fmt} {v : Way} {q : Rat} {s : Int}
/-! ### the other sign -/
theorem expo_neg : expo (-q) = expo q := by unfold expo; rw [Rat.neg_num, Int.natAbs_neg, Rat.neg_den, ab_neg]
theorem unit_neg : unitAt F (-q) = unitAt F q := by
  unfold unitAt; rw [expo_neg, Rat.neg_num]
  by_cases c : q.num = 0 <;> simp [c]
theorem scaled_neg : scaled F (-q) = scaled F q := by rw [scaled_eq, scaled_eq, ab_neg, unit_neg]
theorem flo_neg : flo F (-q) = flo F q := by unfold flo; rw [scaled_neg]
theorem rest_neg : rest F (-q) = rest F q := by unfold rest; rw [scaled_neg]
theorem rndW_neg (h : q ≠ 0) : rndW F v.flip (-q) = rndW F v q := by
  rw [rndW_def, rndW_def, rest_neg, flo_neg, scaled_neg]
  have e : raised v.flip (if -q < 0 then 1 else 0) (flo F q) (rest F q) ((scaled F q).den : Int) = raised v (if q < 0 then 1 else 0) (flo F q) (rest F q) ((scaled F q).den : Int) := by
    by_cases c : q < 0
    · rw [if_pos c, if_neg (by grind)]; cases v <;> simp [raised, Way.flip]
    · rw [if_neg c, if_pos (by grind)]; cases v <;> simp [raised, Way.flip]
  rw [e]
theorem rA_neg : rA F v.flip (-q) = rA F v q := by
  by_cases h : q = 0
  · subst h
    have z : ∀ v, rA F v 0 = 0 := fun v => Rat.le_antisymm (by
      by_cases hp : (scaled F 0) = 0
      · unfold rA
        rcases rndW_cases F v 0 with e | ⟨e, r⟩
        · have : flo F 0 = 0 := by unfold flo; rw [hp]; rfl
          rw [e, this]; simp
        · have : rest F 0 = 0 := by unfold rest; rw [hp]; rfl
          omega
      · exact absurd (by rw [scaled_eq, ab_zero, Rat.zero_mul]) hp) (rA_nonneg F v 0)
    rw [Rat.neg_zero, z, z]
  · unfold rA; rw [rndW_neg h, unit_neg]
theorem rA_zero : rA F v 0 = 0 := by
  have hp : scaled F 0 = 0 := by rw [scaled_eq, ab_zero, Rat.zero_mul]
  unfold rA
  rcases rndW_cases F v 0 with e | ⟨e, r⟩
  · have : flo F 0 = 0 := by unfold flo; rw [hp]; rfl
    rw [e, this]; simp
  · have : rest F 0 = 0 := by unfold rest; rw [hp]; rfl
    omega
theorem rv_neg : rv F v.flip (-q) = -rv F v q := by
  unfold rv
  rw [rA_neg]
  by_cases h : q = 0
  · subst h; simp [rA_zero]
  by_cases c : q < 0
  · rw [if_pos c, if_neg (by grind)]; grind
  · rw [if_neg c, if_pos (by grind)]
theorem rv_zero : rv F v 0 = 0 := by unfold rv; rw [if_neg (by decide), rA_zero]
theorem ab_rv : ab (rv F v q) = rA F v q := by
  unfold rv
  split
  · rw [ab_neg, ab_of_nonneg (rA_nonneg F v q)]
  · exact ab_of_nonneg (rA_nonneg F v q)
/-! ### overflow -/
def m2 (F : Fmt) (v : Way) (q : Rat) : Int := if rndW F v q = 2 ^ F.p then rndW F v q / 2 else rndW F v q
def u2 (F : Fmt) (v : Way) (q : Rat) : Int := if rndW F v q = 2 ^ F.p then unitAt F q + 1 else unitAt F q
theorem m2_u2 (hp : 1 ≤ F.p) : (m2 F v q : Rat) * two (u2 F v q) = rA F v q := by
  unfold m2 u2 rA
  by_cases c : rndW F v q = 2 ^ F.p
  · rw [if_pos c, if_pos c, c]
    have e : (2 : Int) ^ F.p = 2 * 2 ^ (F.p - 1) := by rw [← Int.pow_succ']; congr 1; omega
    rw [e, Int.mul_ediv_cancel_left _ (by decide), two_succ, Rat.intCast_mul]
    have : ((2 : Int) : Rat) = 2 := rfl
    grind
  · rw [if_neg c, if_neg c]
theorem m2_lt (hp : 1 ≤ F.p) : m2 F v q < 2 ^ F.p := by
  have h1 := rndW_le F v q
  have h2 := pow_pos' F.p
  unfold m2; split <;> omega
theorem m2_nonneg : 0 ≤ m2 F v q := by have := rndW_nonneg F v q; unfold m2; split <;> omega
theorem u2_ge : F.lo ≤ u2 F v q := by have := unit_ge F q; unfold u2; split <;> omega
theorem m2_ge (hp : 1 ≤ F.p) (h : F.lo < u2 F v q) : 2 ^ (F.p - 1) ≤ m2 F v q := by
  unfold u2 at h; unfold m2
  split at h
  · rename_i c
    rw [if_pos c, c]
    have e : (2 : Int) ^ F.p = 2 * 2 ^ (F.p - 1) := by rw [← Int.pow_succ']; congr 1; omega
    rw [e, Int.mul_ediv_cancel_left _ (by decide)]; exact Int.le_refl _
  · rename_i c
    rw [if_neg c]; exact rndW_ge hp h
theorem ov_iff (hp : 1 ≤ F.p) (hl : F.lo ≤ F.hi) : F.hi < u2 F v q ↔ two (F.p + F.hi) ≤ rA F v q := by
  rw [← m2_u2 hp]
  have t := two_pos (u2 F v q)
  constructor
  · intro h
    have h1 := m2_ge (v := v) (q := q) hp (by omega)
    have h2 : two ((F.p - 1 : Nat) : Int) * two (u2 F v q) ≤ (m2 F v q : Rat) * two (u2 F v q) := mul_le_r (by rw [← cast_pow]; exact ic_le h1) (Rat.le_of_lt t)
    have h3 : two (F.p + F.hi) ≤ two ((F.p - 1 : Nat) : Int) * two (u2 F v q) := by rw [← two_add]; exact two_le (by omega)
    grind
  · intro h
    by_cases c : F.hi < u2 F v q
    · exact c
    · exfalso
      have h1 := m2_lt (v := v) (q := q) hp
      have h2 : (m2 F v q : Rat) * two (u2 F v q) < two F.p * two (u2 F v q) := mul_lt_r (by rw [← cast_pow]; exact ic_lt h1) t
      have h3 : two F.p * two (u2 F v q) ≤ two (F.p + F.hi) := by rw [← two_add]; exact two_le (by omega)
      grind
theorem num_ne (h : q ≠ 0) : ¬ q.num = 0 := mt num_eq_zero_iff.mp h
theorem rnd_zero : rnd F v 0 s = (.nothing s, []) := if_pos rfl
theorem rnd_eq (h : q ≠ 0) : rnd F v q s = if F.hi < u2 F v q then (beyond F v (if q < 0 then 1 else 0), [.inexact, .overflow])
    else if m2 F v q = 0 then (.nothing (if q < 0 then 1 else 0), marksOf F q (rest F q)) else (.number (if q < 0 then 1 else 0) (m2 F v q) (u2 F v q), marksOf F q (rest F q)) := by
  unfold rnd
  rw [if_neg (num_ne h), raised_own]
  rfl
theorem rnd_sgn {a : Rat} : (if (if q < 0 then (1 : Int) else 0) = 1 then -a else a) = if q < 0 then -a else a := by
  by_cases c : q < 0 <;> simp [c]
/-- no overflow: finite, the value, the marks -/
theorem rnd_fin (hp : 1 ≤ F.p) (hl : F.lo ≤ F.hi) (h : rA F v q < two (F.p + F.hi)) : (rnd F v q s).1.fin = true ∧ (rnd F v q s).1.val = rv F v q ∧ (rnd F v q s).2 = marksOf F q (rest F q) := by
  by_cases h0 : q = 0
  · subst h0
    rw [rnd_zero, rv_zero]
    refine ⟨rfl, rfl, ?_⟩
    unfold marksOf
    rw [if_pos]
    unfold rest; rw [show scaled F 0 = 0 by rw [scaled_eq, ab_zero, Rat.zero_mul]]; rfl
  rw [rnd_eq h0, if_neg (fun z => by have := (ov_iff hp hl).mp z; grind)]
  by_cases c : m2 F v q = 0
  · rw [if_pos c]
    refine ⟨rfl, ?_, rfl⟩
    show (0 : Rat) = _
    have := m2_u2 (v := v) (q := q) hp
    rw [c] at this
    unfold rv
    rw [← this]; split <;> grind
  · rw [if_neg c]
    refine ⟨rfl, ?_, rfl⟩
    show (if (if q < 0 then (1 : Int) else 0) = 1 then -((m2 F v q : Rat) * two (u2 F v q)) else (m2 F v q : Rat) * two (u2 F v q)) = _
    rw [rnd_sgn, m2_u2 hp]; rfl
theorem rnd_ov (hp : 1 ≤ F.p) (hl : F.lo ≤ F.hi) (h : two (F.p + F.hi) ≤ rA F v q) : rnd F v q s = (beyond F v (if q < 0 then 1 else 0), [.inexact, .overflow]) := by
  have h0 : q ≠ 0 := fun z => by subst z; rw [rA_zero] at h; have := two_pos (F.p + F.hi); grind
  rw [rnd_eq h0, if_pos ((ov_iff hp hl).mpr h)]
/-- marks -/
theorem marksOf_nil {r : Int} : marksOf F q r = [] ↔ r = 0 := by
  unfold marksOf
  by_cases c : r = 0
  · simp [c]
  · rw [if_neg c]; constructor
    · intro h; split at h <;> cases h
    · intro h; exact absurd h c
theorem marksOf_over {r : Int} : Mark.overflow ∉ marksOf F q r := by
  unfold marksOf; split
  · simp
  · split <;> simp
theorem rest_iff (hp : 1 ≤ F.p) : rest F q = 0 ↔ rv F v q = q := by
  constructor
  · intro h
    have e : rA F v q = ab q := by
      rcases rA_cases (F := F) (v := v) (q := q) with e | ⟨e, r⟩
      · rw [e, cell_eq h]
      · omega
    unfold rv
    rw [e]
    split
    · rename_i c; rw [ab_of_neg c]; grind
    · rename_i c; exact ab_of_nonneg (by grind)
  · intro h
    have e : rA F v q = ab q := by rw [← ab_rv, h]
    have hb := rest_bounds F q
    by_cases c : rest F q = 0
    · exact c
    · have c1 := cell_lt (F := F) (q := q) (by omega)
      have c2 := cell (F := F) (q := q)
      rcases rA_cases (F := F) (v := v) (q := q) with e2 | ⟨e2, r⟩ <;> rw [e2] at e <;> grind
/-- what a number of the format is rounded to: itself, without marks -/
theorem rnd_exact (hp : 1 ≤ F.p) (hl : F.lo ≤ F.hi) (hq : rep F q) (h : ab q < two (F.p + F.hi)) : (rnd F v q s).1.fin = true ∧ (rnd F v q s).1.val = q ∧ (rnd F v q s).2 = [] := by
  have e := rv_rep (v := v) hp hq
  have e2 : rA F v q = ab q := by rw [← ab_rv, e]
  obtain ⟨h1, h2, h3⟩ := rnd_fin (s := s) hp hl (by rw [e2]; exact h)
  exact ⟨h1, by rw [h2, e], by rw [h3]; exact marksOf_nil.mpr ((rest_iff hp).mpr e)⟩
/-- not overflow: what it tells -/
theorem no_ov (hp : 1 ≤ F.p) (hl : F.lo ≤ F.hi) (h : Mark.overflow ∉ (rnd F v q s).2) : rA F v q < two (F.p + F.hi) := by
  rw [← Rat.not_le]; intro c
  rw [rnd_ov hp hl c] at h
  simp at h
theorem marks_nil_iff (hp : 1 ≤ F.p) (hl : F.lo ≤ F.hi) : (rnd F v q s).2 = [] ↔ rv F v q = q ∧ rA F v q < two (F.p + F.hi) := by
  constructor
  · intro h
    have h1 := no_ov (s := s) (v := v) hp hl (q := q) (by rw [h]; simp)
    have h2 := (rnd_fin (s := s) hp hl h1).2.2
    rw [h] at h2
    exact ⟨(rest_iff hp).mp (marksOf_nil.mp h2.symm), h1⟩
  · intro ⟨h1, h2⟩
    rw [(rnd_fin (s := s) hp hl h2).2.2]
    exact marksOf_nil.mpr ((rest_iff hp).mpr h1)
/-- finite, though beyond: the greatest -/
theorem beyond_fin {s : Int} (h : (beyond F v s).fin = true) : beyond F v s = .number s (2 ^ F.p - 1) F.hi := by
  unfold beyond at h ⊢
  split
  · rename_i c; rw [if_pos c] at h; cases h
  · rfl
end
/-! ### numbers of the format -/
def OfF (F : Fmt) : Num → Prop
  | .number s w e => (s = 0 ∨ s = 1) ∧ (F.lo ≤ e ∧ e ≤ F.hi) ∧ (1 ≤ w ∧ w < 2 ^ F.p) ∧ (2 ^ (F.p - 1) ≤ w ∨ e = F.lo)
  | .nothing s => s = 0 ∨ s = 1
  | .endless s => s = 0 ∨ s = 1
  | .none => True
section
variable {F : Fmt} {v : Way} {q : Rat} {s : Int}
theorem own01 : (if q < 0 then (1 : Int) else 0) = 0 ∨ (if q < 0 then (1 : Int) else 0) = 1 := by split <;> simp
theorem ofF_beyond (hl : F.lo ≤ F.hi) (hp : 1 ≤ F.p) (hs : s = 0 ∨ s = 1) : OfF F (beyond F v s) := by
  unfold beyond
  split
  · exact hs
  · have e : (2 : Int) ^ F.p = 2 * 2 ^ (F.p - 1) := by rw [← Int.pow_succ']; congr 1; omega
    have := pow_pos' (F.p - 1)
    exact ⟨hs, ⟨hl, Int.le_refl _⟩, ⟨by omega, by omega⟩, .inl (by omega)⟩
theorem ofF_rnd (hl : F.lo ≤ F.hi) (hp : 1 ≤ F.p) (hs : s = 0 ∨ s = 1) : OfF F (rnd F v q s).1 := by
  by_cases h0 : q = 0
  · subst h0; rw [rnd_zero]; exact hs
  rw [rnd_eq h0]
  split
  · exact ofF_beyond hl hp own01
  · rename_i c
    split
    · exact own01
    · rename_i c2
      refine ⟨own01, ⟨u2_ge, by omega⟩, ⟨by have := m2_nonneg (F := F) (v := v) (q := q); omega, m2_lt hp⟩, ?_⟩
      by_cases c3 : u2 F v q = F.lo
      · exact .inr c3
      · exact .inl (m2_ge hp (by have := u2_ge (F := F) (v := v) (q := q); omega))
theorem num_val {s w e : Int} : (Num.number s w e).val = if s = 1 then -((w : Rat) * two e) else (w : Rat) * two e := rfl
theorem ab_num_val {s w e : Int} (hw : 0 ≤ w) : ab (Num.number s w e).val = (w : Rat) * two e := by
  have h : (0 : Rat) ≤ (w : Rat) * two e := Rat.mul_nonneg (by exact_mod_cast hw) (Rat.le_of_lt (two_pos e))
  rw [num_val]; split
  · rw [ab_neg, ab_of_nonneg h]
  · exact ab_of_nonneg h
theorem ofF_rep {n : Num} (h : OfF F n) : rep F n.val := by
  cases n with
  | number s w e =>
    obtain ⟨hs, he, hw, _⟩ := h
    have := pow_pos' F.p
    rw [num_val]; split
    · exact ⟨-w, e, by rw [Rat.intCast_neg]; grind, he.1, by omega, by omega⟩
    · exact ⟨w, e, rfl, he.1, by omega, by omega⟩
  | _ => exact rep_zero F
theorem ofF_lt {n : Num} (h : OfF F n) : ab n.val < two (F.p + F.hi) := by
  cases n with
  | number s w e =>
    obtain ⟨hs, he, hw, _⟩ := h
    rw [ab_num_val (by omega)]
    have h1 : (w : Rat) * two e < two F.p * two e := mul_lt_r (by rw [← cast_pow]; exact ic_lt hw.2) (two_pos e)
    have h2 : two F.p * two e ≤ two (F.p + F.hi) := by rw [← two_add]; exact two_le (by omega)
    grind
  | _ => exact two_pos _
/-- two exponents of one size -/
theorem expo_uniq {j : Int} (h : q ≠ 0) (h1 : two j ≤ ab q) (h2 : ab q < two (j + 1)) : expo q = j := by
  obtain ⟨a, b⟩ := expo_spec h
  have c1 : two j < two (expo q + 1) := by grind
  have c2 : two (expo q) < two (j + 1) := by grind
  have := two_lt_iff.mp c1
  have := two_lt_iff.mp c2
  omega
/-- the unit of a number of the format is its own exponent -/
theorem unit_num {s w e : Int} (hp : 1 ≤ F.p) (h : OfF F (.number s w e)) : unitAt F (Num.number s w e).val = e := by
  obtain ⟨hs, he, hw, hn⟩ := h
  have hv : (Num.number s w e).val ≠ 0 := fun z => by
    have := ab_num_val (s := s) (e := e) (w := w) (by omega)
    rw [z, ab_zero] at this
    have h1 : (0 : Rat) < (w : Rat) * two e := Rat.mul_pos (by exact_mod_cast (show (0 : Int) < w by omega)) (two_pos e)
    grind
  have hub : ab (Num.number s w e).val < two (F.p + e) := by
    rw [ab_num_val (by omega), two_add]
    exact mul_lt_r (by rw [← cast_pow]; exact ic_lt hw.2) (two_pos e)
  have hx := expo_spec hv
  have c2 : two (expo (Num.number s w e).val) < two (F.p + e) := by grind
  have c3 := two_lt_iff.mp c2
  have hc := unit_cases F hv
  rcases hn with hn | hn
  · have hlb : two (F.p - 1 + e) ≤ ab (Num.number s w e).val := by
      rw [ab_num_val (by omega), two_add, show ((F.p : Int) - 1) = ((F.p - 1 : Nat) : Int) by omega]
      exact mul_le_r (by rw [← cast_pow]; exact ic_le hn) (Rat.le_of_lt (two_pos e))
    have c1 : two (F.p - 1 + e) < two (expo (Num.number s w e).val + 1) := by grind
    have := two_lt_iff.mp c1
    omega
  · omega
theorem num_ne_zero {s w e : Int} (hw : 1 ≤ w) : (Num.number s w e).val ≠ 0 := fun z => by
  have := ab_num_val (s := s) (e := e) (w := w) (by omega)
  rw [z, ab_zero] at this
  have h1 : (0 : Rat) < (w : Rat) * two e := Rat.mul_pos (by exact_mod_cast (show (0 : Int) < w by omega)) (two_pos e)
  grind
theorem num_neg_val {s w e : Int} (hw : 1 ≤ w) (hs : s = 0 ∨ s = 1) : (if (Num.number s w e).val < 0 then (1 : Int) else 0) = s := by
  have h1 : (0 : Rat) < (w : Rat) * two e := Rat.mul_pos (by exact_mod_cast (show (0 : Int) < w by omega)) (two_pos e)
  rcases hs with c | c <;> subst c
  · have e1 : (Num.number 0 w e).val = (w : Rat) * two e := num_val.trans (if_neg (by decide))
    rw [e1, if_neg (by grind)]
  · have e1 : (Num.number 1 w e).val = -((w : Rat) * two e) := num_val.trans (if_pos rfl)
    rw [e1, if_pos (by grind)]
/-- a number of the format, rounded, is itself -/
theorem rnd_self {n : Num} (hp : 1 ≤ F.p) (hl : F.lo ≤ F.hi) (h : OfF F n) (hf : n.fin = true) : rnd F v n.val n.sg = (n, []) := by
  cases n with
  | number s w e =>
    have hu := unit_num hp h
    have hx := rnd_exact (s := s) (v := v) hp hl (ofF_rep h) (ofF_lt h)
    have h' := h
    obtain ⟨hs, he, hw, hn⟩ := h'
    have h0 := num_ne_zero (s := s) (e := e) hw.1
    have e1 : scaled F (Num.number s w e).val = (w : Rat) := by
      rw [scaled_eq, hu, ab_num_val (by omega), Rat.mul_assoc, ← two_add, show e + -e = 0 by omega, two_zero, Rat.mul_one]
    have e2 : flo F (Num.number s w e).val = w := by unfold flo; rw [e1, Rat.num_intCast, Rat.den_intCast]; exact Int.ediv_one _
    have e3 : rest F (Num.number s w e).val = 0 := by unfold rest; rw [e1, Rat.num_intCast, Rat.den_intCast]; exact Int.emod_one _
    have e4 : rndW F v (Num.number s w e).val = w := by rcases rndW_cases F v (Num.number s w e).val with c | ⟨c, r⟩; rw [c, e2]; omega
    have e5 : m2 F v (Num.number s w e).val = w := by unfold m2; rw [if_neg (by omega), e4]
    have e6 : u2 F v (Num.number s w e).val = e := by unfold u2; rw [if_neg (by omega), hu]
    show rnd F v (Num.number s w e).val s = _
    rw [rnd_eq h0, e5, e6, if_neg (by omega), if_neg (by omega), num_neg_val hw.1 hs, marksOf_nil.mpr e3]
  | nothing s => exact rnd_zero
  | endless s => cases hf
  | none => cases hf
end
end MA

/-! Laws of rounded numbers. -/
namespace MA
section
variable {F : Fmt} {v : Way}
theorem turned_val {n : Num} (h : OfF F n) : n.turned.val = -n.val := by
  cases n with
  | number s w e =>
    show (Num.number (1 - s) w e).val = _
    rw [num_val, num_val]
    rcases h.1 with c | c <;> subst c
    · rw [if_pos (by decide), if_neg (by decide)]
    · rw [if_neg (by decide), if_pos rfl, Rat.neg_neg]
  | _ => show (0 : Rat) = -0; decide +kernel
theorem turned_ofF {n : Num} (h : OfF F n) : OfF F n.turned := by
  cases n with
  | number s w e => exact ⟨by rcases h.1 with c | c <;> subst c <;> decide, h.2⟩
  | nothing s => rcases h with c | c <;> subst c <;> simp [Num.turned, OfF]
  | endless s => rcases h with c | c <;> subst c <;> simp [Num.turned, OfF]
  | none => trivial
theorem turned_fin {n : Num} : n.turned.fin = n.fin := by cases n <;> rfl
theorem turned_none {n : Num} : n.turned = .none ↔ n = .none := by cases n <;> simp [Num.turned]
theorem fin_ne {n : Num} (h : n.fin = true) : n ≠ .none ∧ n.inf = false := by
  cases n with
  | number s w e => exact ⟨fun z => Num.noConfusion z, rfl⟩
  | nothing s => exact ⟨fun z => Num.noConfusion z, rfl⟩
  | endless s => cases h
  | none => cases h
theorem plus_fin {a b : Num} (ha : a.fin = true) (hb : b.fin = true) : plusM F v a b = rnd F v (a.val + b.val) (signN v a.sg b.sg) := by
  obtain ⟨a1, a2⟩ := fin_ne ha
  obtain ⟨b1, b2⟩ := fin_ne hb
  unfold plusM
  rw [if_neg (by simp [a1, b1]), if_neg (by simp [a2, b2])]
theorem minus_fin {a b : Num} (ha : a.fin = true) (hb : b.fin = true) (ob : OfF F b) : minusM F v a b = rnd F v (a.val - b.val) (signN v a.sg b.turned.sg) := by
  unfold minusM
  rw [plus_fin ha (by rw [turned_fin]; exact hb), turned_val ob, ← Rat.sub_eq_add_neg]
theorem product_fin {a b : Num} (ha : a.fin = true) (hb : b.fin = true) : productM F v a b = rnd F v (a.val * b.val) ((a.sg + b.sg) % 2) := by
  obtain ⟨a1, a2⟩ := fin_ne ha
  obtain ⟨b1, b2⟩ := fin_ne hb
  unfold productM
  rw [if_neg (by simp [a1, b1]), if_neg (by simp [a2, b2])]
theorem zero_val {n : Num} (h : n.zero = true) : n.val = 0 := by
  cases n with
  | nothing s => rfl
  | _ => cases h
theorem over_fin {a b : Num} (ha : a.fin = true) (hb : b.fin = true) (hz : b.val ≠ 0) : overM F v a b = rnd F v (a.val / b.val) ((a.sg + b.sg) % 2) := by
  obtain ⟨a1, a2⟩ := fin_ne ha
  obtain ⟨b1, b2⟩ := fin_ne hb
  have b3 : ¬ b.zero = true := fun z => hz (zero_val z)
  unfold overM
  rw [if_neg (by simp [a1, b1]), if_neg (by simp [a2, b2, b3]), if_neg (by simp [a2]), if_neg (by simp [b2]), if_neg b3]
/-- whole times a power -/
theorem parts_of {n : Num} (h : OfF F n) (hl : F.lo ≤ F.hi) : ∃ k e : Int, n.val = (k : Rat) * two e ∧ F.lo ≤ e ∧ e ≤ F.hi ∧ -(2 ^ F.p) < k ∧ k < 2 ^ F.p := by
  have := pow_pos' F.p
  cases n with
  | number s w e =>
    obtain ⟨hs, he, hw, _⟩ := h
    rw [num_val]; split
    · exact ⟨-w, e, by rw [Rat.intCast_neg]; grind, he.1, he.2, by omega, by omega⟩
    · exact ⟨w, e, rfl, he.1, he.2, by omega, by omega⟩
  | _ => exact ⟨0, F.lo, by simp [Num.val], Int.le_refl _, hl, by omega, by omega⟩
theorem grid_up {k e e' : Int} (h : e' ≤ e) : ∃ j : Int, (k : Rat) * two e = (j : Rat) * two e' := by
  obtain ⟨n, hn⟩ := Int.eq_ofNat_of_zero_le (show 0 ≤ e - e' by omega)
  refine ⟨k * 2 ^ n, ?_⟩
  rw [Rat.intCast_mul, cast_pow, Rat.mul_assoc, ← hn, two_sub]
theorem ab_cast {k e : Int} : ab ((k : Rat) * two e) = ((k.natAbs : Int) : Rat) * two e := by
  have t := two_pos e
  rw [ab_mul_pos t]
  congr 1
  by_cases c : k < 0
  · rw [ab_of_neg (by rw [show (0 : Rat) = ((0 : Int) : Rat) from rfl]; exact ic_lt c), ← Rat.intCast_neg]; congr 1; omega
  · rw [ab_of_nonneg (by rw [show (0 : Rat) = ((0 : Int) : Rat) from rfl]; exact ic_le (by omega))]; congr 1; omega
/-- on a grid, no more than a full number of steps: a number -/
theorem rep_grid {k e : Int} (he : F.lo ≤ e) (h : ab ((k : Rat) * two e) ≤ two (F.p + e)) : rep F ((k : Rat) * two e) := by
  rw [ab_cast, two_add] at h
  have h1 := (Rat.le_of_mul_le_mul_right h (two_pos e))
  rw [← cast_pow] at h1
  have h2 := Rat.intCast_le_intCast.mp h1
  exact ⟨k, e, rfl, he, by omega, by omega⟩
theorem parts_lt {k e : Int} (h1 : -(2 ^ F.p) < k) (h2 : k < 2 ^ F.p) : ab ((k : Rat) * two e) < two (F.p + e) := by
  rw [ab_cast, two_add]
  refine mul_lt_r ?_ (two_pos e)
  rw [← cast_pow]
  exact ic_lt (by omega)
/-! ### what is near is taken off exactly -/
theorem near_rep {a b : Num} (hl : F.lo ≤ F.hi) (oa : OfF F a) (ob : OfF F b) (ha : 0 < a.val) (hb : 0 < b.val) (h1 : b.val ≤ 2 * a.val) (h2 : a.val ≤ 2 * b.val) : rep F (a.val - b.val) ∧ ab (a.val - b.val) < two (F.p + F.hi) := by
  obtain ⟨k1, e1, q1, l1, u1, n1, m1⟩ := parts_of oa hl
  obtain ⟨k2, e2, q2, l2, u2, n2, m2⟩ := parts_of ob hl
  have a1 := parts_lt (F := F) (e := e1) n1 m1
  have a2 := parts_lt (F := F) (e := e2) n2 m2
  rw [← q1, ab_of_nonneg (Rat.le_of_lt ha)] at a1
  rw [← q2, ab_of_nonneg (Rat.le_of_lt hb)] at a2
  have s1 : ab (a.val - b.val) ≤ a.val := by rw [ab_le]; grind
  have s2 : ab (a.val - b.val) ≤ b.val := by rw [ab_le]; grind
  have t1 : two (F.p + e1) ≤ two (F.p + F.hi) := two_le (by omega)
  refine ⟨?_, by grind⟩
  by_cases c : e1 ≤ e2
  · obtain ⟨j, hj⟩ := grid_up (k := k2) c
    have e : a.val - b.val = ((k1 - j : Int) : Rat) * two e1 := by rw [q1, q2, hj, Rat.intCast_sub]; grind
    rw [e] at s1 ⊢
    exact rep_grid l1 (by grind)
  · obtain ⟨j, hj⟩ := grid_up (k := k1) (show e2 ≤ e1 by omega)
    have e : a.val - b.val = ((j - k2 : Int) : Rat) * two e2 := by rw [q1, q2, hj, Rat.intCast_sub]; grind
    rw [e] at s2 ⊢
    exact rep_grid l2 (by grind)
theorem law_near {a b : Num} (hp : 1 ≤ F.p) (hl : F.lo ≤ F.hi) (oa : OfF F a) (ob : OfF F b) (fa : a.fin = true) (fb : b.fin = true) (ha : 0 < a.val) (hb : 0 < b.val) (h1 : b.val ≤ 2 * a.val) (h2 : a.val ≤ 2 * b.val) :
    (minusM F v a b).1.fin = true ∧ (minusM F v a b).1.val = a.val - b.val ∧ (minusM F v a b).2 = [] := by
  rw [minus_fin fa fb ob]
  obtain ⟨r1, r2⟩ := near_rep hl oa ob ha hb h1 h2
  exact rnd_exact hp hl r1 r2
end
end MA

namespace MA
/-- whether a fraction is a number of the format -/
def isRep (F : Fmt) (q : Rat) : Bool := if q.num = 0 then true else (decide ((q * two (-unitAt F q)).den = 1) && decide (unitAt F q ≤ F.hi))
def numberOf (F : Fmt) (q : Rat) : Num := if q.num = 0 then .nothing 0 else .number (if q.num < 0 then 1 else 0) ((q * two (-unitAt F q)).num.natAbs : Int) (unitAt F q)
def joinedM (F : Fmt) (v : Way) (a b c : Num) : Num × List Mark :=
  if a = .none ∨ b = .none ∨ c = .none then (.none, [])
  else if a.inf = true ∨ b.inf = true then
    if (a.zero = true ∨ b.zero = true) ∨ c = .endless (1 - (a.sg + b.sg) % 2) then (.none, [.invalid]) else (.endless ((a.sg + b.sg) % 2), [])
  else if c.inf = true then (c, [])
  else rnd F v (a.val * b.val + c.val) (signN v ((a.sg + b.sg) % 2) c.sg)
/-- the greatest whole number whose square is not above -/
def isq : Nat → Nat
  | 0 => 0
  | n + 1 => if (isq n + 1) * (isq n + 1) ≤ n + 1 then isq n + 1 else isq n
theorem isq_spec : ∀ n : Nat, isq n * isq n ≤ n ∧ n < (isq n + 1) * (isq n + 1)
  | 0 => by decide
  | n + 1 => by
    obtain ⟨h1, h2⟩ := isq_spec n
    unfold isq
    by_cases c : (isq n + 1) * (isq n + 1) ≤ n + 1
    · rw [if_pos c]
      refine ⟨c, ?_⟩
      have : (isq n + 1 + 1) * (isq n + 1 + 1) = (isq n + 1) * (isq n + 1) + 2 * (isq n + 1) + 1 := by grind
      omega
    · rw [if_neg c]; omega
theorem isq_uniq {n r : Nat} (h1 : r * r ≤ n) (h2 : n < (r + 1) * (r + 1)) : r = isq n := by
  obtain ⟨a, b⟩ := isq_spec n
  rcases Nat.lt_trichotomy r (isq n) with c | c | c
  · have : (r + 1) * (r + 1) ≤ isq n * isq n := Nat.mul_le_mul c c
    omega
  · exact c
  · have : (isq n + 1) * (isq n + 1) ≤ r * r := Nat.mul_le_mul c c
    omega
def rtW (w p : Int) : Int := if p % 2 = 1 then 2 * w else w
def rtP (p : Int) : Int := if p % 2 = 1 then p - 1 else p
def rtMore (F : Fmt) : Nat := 2 * F.p + 4
def rtN (F : Fmt) (w p : Int) : Nat := (rtW w p).toNat * 2 ^ (2 * rtMore F)
def rtHalf (F : Fmt) (w p : Int) : Int := 2 * (isq (rtN F w p) : Int) + (if isq (rtN F w p) * isq (rtN F w p) = rtN F w p then 0 else 1)
/-- what a root is rounded from -/
def rtQ (F : Fmt) (w p : Int) : Rat := (rtHalf F w p : Rat) * two (rtP p / 2 - (rtMore F : Int) - 1)
def rootM (F : Fmt) (v : Way) (n : Num) : Num × List Mark :=
  if n = .none ∨ n.zero = true ∨ n = .endless 0 then (n, [])
  else if n.sg = 1 then (.none, [.invalid])
  else match n with
    | .number _ w p => rnd F v (rtQ F w p) 0
    | _ => (.none, [])
def stepUp (F : Fmt) (s w p : Int) : Num := if w + 1 < 2 ^ F.p then .number s (w + 1) p else if p < F.hi then .number s (2 ^ (F.p - 1)) (p + 1) else .endless s
def stepDown (F : Fmt) (s w p : Int) : Num := if w = 1 then .nothing s else if 2 ^ (F.p - 1) < w ∨ p = F.lo then .number s (w - 1) p else .number s (2 ^ F.p - 1) (p - 1)
def nextUp (F : Fmt) : Num → Num
  | .none => .none
  | .endless s => if s = 0 then .endless 0 else .number 1 (2 ^ F.p - 1) F.hi
  | .nothing _ => .number 0 1 F.lo
  | .number s w p => if s = 0 then stepUp F s w p else stepDown F s w p
def nextDown (F : Fmt) (n : Num) : Num := (nextUp F n.turned).turned
inductive Cmp where
  | less | equal | more | unordered
  deriving DecidableEq
def rankI (n : Num) : Int := if n.inf = true then 1 - 2 * n.sg else 0
def compareM (a b : Num) : Cmp :=
  if a = .none ∨ b = .none then .unordered
  else if rankI a ≠ rankI b then (if rankI a < rankI b then .less else .more)
  else if a.val < b.val then .less else if b.val < a.val then .more else .equal
end MA

/-! What is lost, what keeps order: plain laws. -/
namespace MA
section
variable {F : Fmt} {v : Way} {q : Rat} {s : Int}
theorem int_of_den {q : Rat} (h : q.den = 1) : q = (q.num : Rat) := by
  have := mul_den q
  rw [h] at this
  have e : ((1 : Nat) : Rat) = 1 := rfl
  rw [e, Rat.mul_one] at this
  exact this
theorem ab_num_int (k : Int) : ab (k : Rat) = ((k.natAbs : Int) : Rat) := by
  have := ab_cast (k := k) (e := 0)
  rw [two_zero, Rat.mul_one, Rat.mul_one] at this
  exact this
theorem unit_back (F : Fmt) (q : Rat) : q = q * two (-unitAt F q) * two (unitAt F q) := by
  rw [Rat.mul_assoc, ← two_add, show -unitAt F q + unitAt F q = 0 by omega, two_zero, Rat.mul_one]
theorem expo_lt {j : Int} (h : q ≠ 0) (hb : ab q < two j) : expo q < j := two_lt_iff.mp (by have := (expo_spec h).1; grind)
theorem isRep_of (hp : 1 ≤ F.p) (hl : F.lo ≤ F.hi) (h : rep F q) (hb : ab q < two (F.p + F.hi)) : isRep F q = true := by
  unfold isRep
  by_cases c : q.num = 0
  · rw [if_pos c]
  have c' : q ≠ 0 := fun z => c (num_eq_zero_iff.mpr z)
  rw [if_neg c, Bool.and_eq_true, decide_eq_true_eq, decide_eq_true_eq]
  constructor
  · have h1 : rest F q = 0 := (rest_iff (v := .cut) hp).mpr (rv_rep hp h)
    have h2 := rest_zero.mp h1
    have h3 : (scaled F q).den = 1 := by rw [h2]; rfl
    unfold scaled at h3
    rw [ab_den] at h3; exact h3
  · have := expo_lt c' hb
    have := unit_cases F c'
    omega
theorem rep_of_isRep (hl : F.lo ≤ F.hi) (h : isRep F q = true) : rep F q ∧ ab q < two (F.p + F.hi) := by
  unfold isRep at h
  by_cases c : q.num = 0
  · have := num_eq_zero_iff.mp c
    subst this
    exact ⟨rep_zero F, by rw [ab_zero]; exact two_pos _⟩
  rw [if_neg c, Bool.and_eq_true, decide_eq_true_eq, decide_eq_true_eq] at h
  obtain ⟨h1, h2⟩ := h
  have e := int_of_den h1
  have hs := scaled_lt F q
  have e2 : scaled F q = (((q * two (-unitAt F q)).num.natAbs : Int) : Rat) := by
    unfold scaled; rw [← ab_num_int, ← e]
  rw [e2] at hs
  have hk := int_lt_two hs
  have hq := unit_back F q
  rw [e] at hq
  refine ⟨⟨_, _, hq, unit_ge F q, by omega, by omega⟩, ?_⟩
  rw [← scaled_mul F q, e2]
  have h3 := mul_lt_r hs (two_pos (unitAt F q))
  have h4 : two F.p * two (unitAt F q) ≤ two (F.p + F.hi) := by rw [← two_add]; exact two_le (by omega)
  grind
theorem isRep_iff (hp : 1 ≤ F.p) (hl : F.lo ≤ F.hi) : isRep F q = true ↔ rep F q ∧ ab q < two (F.p + F.hi) :=
  ⟨fun h => rep_of_isRep hl h, fun h => isRep_of hp hl h.1 h.2⟩
/-- what is rounded stays on its grid -/
theorem rv_grid (hp : 1 ≤ F.p) {j e : Int} (hq : q = (j : Rat) * two e) : ∃ i : Int, rv F v q = (i : Rat) * two e := by
  by_cases c : e ≤ unitAt F q
  · obtain ⟨i, hi⟩ := grid_up (k := rndW F v q) c
    unfold rv rA
    split
    · exact ⟨-i, by rw [hi, Rat.intCast_neg]; grind⟩
    · exact ⟨i, hi⟩
  · obtain ⟨i, hi⟩ := grid_up (k := j) (show unitAt F q ≤ e by omega)
    have hr : rep F q := by
      have hs := scaled_lt F q
      have e1 : q * two (-unitAt F q) = (i : Rat) := by
        rw [show q = (i : Rat) * two (unitAt F q) by rw [← hi]; exact hq, Rat.mul_assoc, ← two_add]
        conv => lhs; rw [← hi, ← hq]
        rw [show unitAt F q + -unitAt F q = 0 by omega, two_zero, Rat.mul_one]
      unfold scaled at hs
      rw [e1, ab_num_int] at hs
      have hk := int_lt_two hs
      exact ⟨i, unitAt F q, by rw [← hi]; exact hq, unit_ge F q, by omega, by omega⟩
    exact ⟨j, by rw [rv_rep hp hr]; exact hq⟩
theorem grid_sub {i j e : Int} : (i : Rat) * two e - (j : Rat) * two e = ((i - j : Int) : Rat) * two e := by rw [Rat.intCast_sub]; grind
theorem grid_add {i j e : Int} : (i : Rat) * two e + (j : Rat) * two e = ((i + j : Int) : Rat) * two e := by rw [Rat.intCast_add]; grind
theorem ab_sub_comm (a b : Rat) : ab (a - b) = ab (b - a) := by rw [← ab_neg (a - b)]; congr 1; grind
/-- finite, to the nearest: not beyond -/
theorem near_no_ov (hp : 1 ≤ F.p) (hl : F.lo ≤ F.hi) (hn : near v) (h : (rnd F v q s).1.fin = true) : rA F v q < two (F.p + F.hi) := by
  rw [← Rat.not_le]; intro c
  rw [rnd_ov hp hl c] at h
  have := beyond_fin h
  unfold beyond at this
  rw [if_pos (by rcases hn with e | e; exact .inl e; exact .inr (.inl e))] at this
  cases this
theorem sum_lost (hp : 1 ≤ F.p) (hl : F.lo ≤ F.hi) (hn : near v) {a b : Num} (oa : OfF F a) (ob : OfF F b) : rep F (a.val + b.val - rv F v (a.val + b.val)) ∧ ab (a.val + b.val - rv F v (a.val + b.val)) < two (F.p + F.hi) := by
  obtain ⟨k1, e1, q1, l1, u1, n1, m1⟩ := parts_of oa hl
  obtain ⟨k2, e2, q2, l2, u2, n2, m2⟩ := parts_of ob hl
  have a1 := parts_lt (F := F) (e := e1) n1 m1
  have a2 := parts_lt (F := F) (e := e2) n2 m2
  rw [← q1] at a1
  rw [← q2] at a2
  have s1 := rv_near (q := a.val + b.val) hp hn (ofF_rep ob)
  have s2 := rv_near (q := a.val + b.val) hp hn (ofF_rep oa)
  rw [show b.val - (a.val + b.val) = -a.val by grind, ab_neg, ab_sub_comm] at s1
  rw [show a.val - (a.val + b.val) = -b.val by grind, ab_neg, ab_sub_comm] at s2
  have t1 : two (F.p + e1) ≤ two (F.p + F.hi) := two_le (by omega)
  refine ⟨?_, by grind⟩
  by_cases c : e1 ≤ e2
  · obtain ⟨j, hj⟩ := grid_up (k := k2) c
    have e : a.val + b.val = ((k1 + j : Int) : Rat) * two e1 := by rw [q1, q2, hj, grid_add]
    obtain ⟨i, hi⟩ := rv_grid (v := v) hp e
    have e' : a.val + b.val - rv F v (a.val + b.val) = ((k1 + j - i : Int) : Rat) * two e1 := by rw [hi, e, grid_sub]
    rw [e'] at s1 ⊢
    exact rep_grid l1 (by grind)
  · obtain ⟨j, hj⟩ := grid_up (k := k1) (show e2 ≤ e1 by omega)
    have e : a.val + b.val = ((j + k2 : Int) : Rat) * two e2 := by rw [q1, q2, hj, grid_add]
    obtain ⟨i, hi⟩ := rv_grid (v := v) hp e
    have e' : a.val + b.val - rv F v (a.val + b.val) = ((j + k2 - i : Int) : Rat) * two e2 := by rw [hi, e, grid_sub]
    rw [e'] at s2 ⊢
    exact rep_grid l2 (by grind)
theorem unit_le_hi (hp : 1 ≤ F.p) (hl : F.lo ≤ F.hi) (h : rA F v q < two (F.p + F.hi)) : unitAt F q ≤ F.hi := by
  have h1 : ¬ F.hi < u2 F v q := fun z => by have := (ov_iff hp hl).mp z; grind
  unfold u2 at h1
  split at h1 <;> omega
/-- what lies on a grid, and is not more than twice as long: what is lost is a number -/
theorem grid_lost (hp : 1 ≤ F.p) (hl : F.lo ≤ F.hi) {j e : Int} (hq : q = (j : Rat) * two e) (he : F.lo ≤ e) (hs : ab q < two (2 * F.p + e)) (ho : rA F v q < two (F.p + F.hi)) : rep F (q - rv F v q) ∧ ab (q - rv F v q) < two (F.p + F.hi) := by
  obtain ⟨i, hi⟩ := rv_grid (v := v) hp hq
  have h1 := rv_off (F := F) (v := v) (q := q)
  rw [ab_sub_comm] at h1
  have hu := unit_le_hi hp hl ho
  have h2 : two (unitAt F q) ≤ two (F.p + F.hi) := two_le (by omega)
  refine ⟨?_, by grind⟩
  by_cases h0 : q = 0
  · subst h0; rw [rv_zero, Rat.sub_self]; exact rep_zero F
  have h3 : unitAt F q ≤ F.p + e := by
    have a1 := expo_lt h0 hs
    have a4 := unit_cases F h0
    omega
  have h4 : two (unitAt F q) ≤ two (F.p + e) := two_le h3
  have e1 : q - rv F v q = ((j - i : Int) : Rat) * two e := by rw [← grid_sub, ← hq, ← hi]
  rw [e1] at h1 ⊢
  exact rep_grid he (by grind)
/-- whole times a power: numbers -/
theorem prod_parts {a b : Num} (hl : F.lo ≤ F.hi) (oa : OfF F a) (ob : OfF F b) : ∃ k1 e1 k2 e2 : Int, a.val = (k1 : Rat) * two e1 ∧ b.val = (k2 : Rat) * two e2 ∧ a.val * b.val = ((k1 * k2 : Int) : Rat) * two (e1 + e2) := by
  obtain ⟨k1, e1, q1, _⟩ := parts_of oa hl
  obtain ⟨k2, e2, q2, _⟩ := parts_of ob hl
  exact ⟨k1, e1, k2, e2, q1, q2, by rw [q1, q2, Rat.intCast_mul, two_add]; grind⟩
theorem ab_mul (a b : Rat) : ab (a * b) = ab a * ab b := by
  by_cases h : b < 0
  · have := ab_mul_pos (q := a) (t := -b) (by grind)
    rw [ab_of_neg h, ← this, ← ab_neg]; congr 1; grind
  by_cases h' : b = 0
  · subst h'; rw [Rat.mul_zero, ab_zero, Rat.mul_zero]
  · have h2 : 0 < b := by grind
    rw [ab_mul_pos h2, ab_of_nonneg (q := b) (by grind)]
def Num.ex : Num → Int
  | .number _ _ p => p
  | _ => 0
theorem num_parts {s w e : Int} : (Num.number s w e).val = ((if s = 1 then -w else w : Int) : Rat) * two e := by
  rw [num_val]; split
  · rw [Rat.intCast_neg]; grind
  · rfl
theorem num_ab_lt {s w e : Int} (h : OfF F (.number s w e)) : ab (Num.number s w e).val < two (F.p + e) := by
  rw [ab_num_val (by have := h.2.2.1; omega), two_add]
  exact mul_lt_r (by rw [← cast_pow]; exact ic_lt h.2.2.1.2) (two_pos e)
theorem ab_mul_lt {x y c d : Rat} (hx : ab x < c) (hy : ab y < d) : ab (x * y) < c * d := by
  rw [ab_mul]
  have h0 := ab_nonneg x
  have h1 := ab_nonneg y
  have h3 : ab x * ab y ≤ ab x * d := Rat.mul_le_mul_of_nonneg_left (Rat.le_of_lt hy) h0
  have h4 : ab x * d < c * d := mul_lt_r hx (by grind)
  grind
theorem prod_lost (hp : 1 ≤ F.p) (hl : F.lo ≤ F.hi) {s w e s' w' e' : Int} (oa : OfF F (.number s w e)) (ob : OfF F (.number s' w' e')) (he : F.lo ≤ e + e') (ho : rA F v ((Num.number s w e).val * (Num.number s' w' e').val) < two (F.p + F.hi)) :
    rep F ((Num.number s w e).val * (Num.number s' w' e').val - rv F v ((Num.number s w e).val * (Num.number s' w' e').val)) ∧ ab ((Num.number s w e).val * (Num.number s' w' e').val - rv F v ((Num.number s w e).val * (Num.number s' w' e').val)) < two (F.p + F.hi) := by
  refine grid_lost (j := (if s = 1 then -w else w) * (if s' = 1 then -w' else w')) (e := e + e') hp hl (by rw [num_parts, num_parts, Rat.intCast_mul, two_add]; grind) he ?_ ho
  have := ab_mul_lt (num_ab_lt oa) (num_ab_lt ob)
  rw [← two_add, show (F.p : Int) + e + (F.p + e') = 2 * F.p + (e + e') by omega] at this
  exact this
/-! ### quotients -/
theorem rnd_num_ex (hp : 1 ≤ F.p) (hl : F.lo ≤ F.hi) {s' w e : Int} (h : (rnd F v q s).1 = .number s' w e) (ho : rA F v q < two (F.p + F.hi)) : q ≠ 0 ∧ unitAt F q ≤ e := by
  by_cases h0 : q = 0
  · subst h0; rw [rnd_zero] at h; cases h
  refine ⟨h0, ?_⟩
  rw [rnd_eq h0, if_neg (fun z => by have := (ov_iff hp hl).mp z; grind)] at h
  split at h
  · cases h
  · injection h with _ _ h3
    rw [← h3]
    unfold u2; split <;> omega
theorem quot_lost (hp : 1 ≤ F.p) (hl : F.lo ≤ F.hi) {s w e s' w' e' t x : Int} (oa : OfF F (.number s w e)) (ob : OfF F (.number s' w' e')) {tn : Num}
    (h : (rnd F v ((Num.number s w e).val / (Num.number s' w' e').val) t).1 = tn) (hn : ∃ m n, tn = .number m n x) (ho : rA F v ((Num.number s w e).val / (Num.number s' w' e').val) < two (F.p + F.hi)) (h1 : F.lo ≤ x + e') (h2 : x + e' ≤ e) :
    rep F ((Num.number s w e).val - tn.val * (Num.number s' w' e').val) ∧ ab ((Num.number s w e).val - tn.val * (Num.number s' w' e').val) < two (F.p + F.hi) := by
  obtain ⟨m, n, rfl⟩ := hn
  have hu := (rnd_num_ex hp hl h ho).2
  have hv : (Num.number m n x).val = rv F v ((Num.number s w e).val / (Num.number s' w' e').val) := by
    rw [← h]; exact (rnd_fin hp hl ho).2.1
  have hoff := rv_off (F := F) (v := v) (q := (Num.number s w e).val / (Num.number s' w' e').val)
  rw [← hv, ab_sub_comm] at hoff
  have hb := num_ab_lt ob
  have hb0 : (Num.number s' w' e').val ≠ 0 := num_ne_zero ob.2.2.1.1
  have key : ab ((Num.number s w e).val - (Num.number m n x).val * (Num.number s' w' e').val) < two (F.p + (x + e')) := by
    have e1 : (Num.number s w e).val - (Num.number m n x).val * (Num.number s' w' e').val = ((Num.number s w e).val / (Num.number s' w' e').val - (Num.number m n x).val) * (Num.number s' w' e').val := by
      have := Rat.div_mul_cancel (a := (Num.number s w e).val) hb0
      grind
    rw [e1]
    have := ab_mul_lt hoff hb
    rw [← two_add] at this
    have h3 : two (unitAt F ((Num.number s w e).val / (Num.number s' w' e').val) + (F.p + e')) ≤ two (F.p + (x + e')) := two_le (by omega)
    grind
  have hx : x + e' ≤ F.hi := by have := oa.2.1.2; omega
  refine ⟨?_, ?_⟩
  · obtain ⟨j, hj⟩ := grid_up (k := if s = 1 then -w else w) h2
    have e1 : (Num.number s w e).val - (Num.number m n x).val * (Num.number s' w' e').val = ((j - (if m = 1 then -n else n) * (if s' = 1 then -w' else w') : Int) : Rat) * two (x + e') := by
      rw [← grid_sub, ← hj, ← num_parts, Rat.intCast_mul, two_add, num_parts (s := m), num_parts (s := s')]; grind
    rw [e1] at key ⊢
    exact rep_grid h1 (Rat.le_of_lt key)
  · have h3 : two (F.p + (x + e')) ≤ two (F.p + F.hi) := two_le (by omega)
    grind
/-! ### order -/
def topV (F : Fmt) : Rat := ((2 ^ F.p - 1 : Int) : Rat) * two F.hi
theorem rep_top (F : Fmt) (hl : F.lo ≤ F.hi) : rep F (topV F) := ⟨_, _, rfl, hl, by have := pow_pos' F.p; omega, by omega⟩
theorem topV_lt (F : Fmt) : topV F < two (F.p + F.hi) := by
  unfold topV; rw [two_add]
  exact mul_lt_r (by rw [← cast_pow]; exact ic_lt (by omega)) (two_pos _)
theorem rA_top (hp : 1 ≤ F.p) (h : rA F v q < two (F.p + F.hi)) (hl : F.lo ≤ F.hi) : rA F v q ≤ topV F := by
  have h1 := m2_lt (v := v) (q := q) hp
  have h2 : u2 F v q ≤ F.hi := by
    by_cases c : F.hi < u2 F v q
    · have := (ov_iff hp hl).mp c; grind
    · omega
  rw [← m2_u2 hp]
  unfold topV
  have h3 : (m2 F v q : Rat) * two (u2 F v q) ≤ ((2 ^ F.p - 1 : Int) : Rat) * two (u2 F v q) := mul_le_r (ic_le (by omega)) (Rat.le_of_lt (two_pos _))
  have h4 : ((2 ^ F.p - 1 : Int) : Rat) * two (u2 F v q) ≤ ((2 ^ F.p - 1 : Int) : Rat) * two F.hi := Rat.mul_le_mul_of_nonneg_left (two_le h2) (by
    have := pow_pos' F.p
    exact_mod_cast (show (0 : Int) ≤ 2 ^ F.p - 1 by omega))
  grind
def clamp (F : Fmt) (x : Rat) : Rat := if x < -topV F then -topV F else if topV F < x then topV F else x
theorem topV_pos (hp : 1 ≤ F.p) : 0 < topV F := by
  refine Rat.mul_pos ?_ (two_pos _)
  have : (2 : Int) ^ F.p = 2 * 2 ^ (F.p - 1) := by rw [← Int.pow_succ']; congr 1; omega
  have h2 := pow_pos' (F.p - 1)
  exact_mod_cast (show (0 : Int) < 2 ^ F.p - 1 by omega)
theorem top_val {s : Int} : (Num.number s (2 ^ F.p - 1) F.hi).val = if s = 1 then -topV F else topV F := rfl
/-- finite: rounded, kept within -/
theorem fin_val (hp : 1 ≤ F.p) (hl : F.lo ≤ F.hi) (h : (rnd F v q s).1.fin = true) : (rnd F v q s).1.val = clamp F (rv F v q) := by
  have tp := topV_pos (F := F) hp
  by_cases c : rA F v q < two (F.p + F.hi)
  · rw [(rnd_fin hp hl c).2.1]
    have h1 := rA_top hp c hl
    rw [← ab_rv, ab_le] at h1
    unfold clamp
    rw [if_neg (by grind), if_neg (by grind)]
  · have c' : two (F.p + F.hi) ≤ rA F v q := Rat.not_lt.mp c
    have t := topV_lt F
    rw [rnd_ov hp hl c'] at h ⊢
    show (beyond F v (if q < 0 then 1 else 0)).val = _
    rw [beyond_fin h, top_val]
    unfold clamp rv
    by_cases d : q < 0
    · rw [if_pos d, if_pos rfl, if_pos d, if_pos (by grind)]
    · rw [if_neg d, if_neg (by decide), if_neg d, if_neg (by grind), if_pos (by grind)]
theorem clamp_mono {x y : Rat} (hp : 1 ≤ F.p) (h : x ≤ y) : clamp F x ≤ clamp F y := by
  have tp := topV_pos (F := F) hp
  unfold clamp
  split <;> split <;> grind
theorem fin_mono {q' : Rat} {s' : Int} (hp : 1 ≤ F.p) (hl : F.lo ≤ F.hi) (h : q ≤ q') (h1 : (rnd F v q s).1.fin = true) (h2 : (rnd F v q' s').1.fin = true) : (rnd F v q s).1.val ≤ (rnd F v q' s').1.val := by
  rw [fin_val hp hl h1, fin_val hp hl h2]
  exact clamp_mono hp (rv_mono hp h)
theorem plus_mono (hp : 1 ≤ F.p) (hl : F.lo ≤ F.hi) {a b c : Num} (fa : a.fin = true) (fb : b.fin = true) (fc : c.fin = true) (h : a.val ≤ b.val) (h1 : (plusM F v a c).1.fin = true) (h2 : (plusM F v b c).1.fin = true) : (plusM F v a c).1.val ≤ (plusM F v b c).1.val := by
  rw [plus_fin fa fc] at *
  rw [plus_fin fb fc] at *
  exact fin_mono hp hl (by grind) h1 h2
theorem prod_mono (hp : 1 ≤ F.p) (hl : F.lo ≤ F.hi) {a b c : Num} (fa : a.fin = true) (fb : b.fin = true) (fc : c.fin = true) (h : a.val ≤ b.val) (h0 : 0 ≤ c.val) (h1 : (productM F v a c).1.fin = true) (h2 : (productM F v b c).1.fin = true) : (productM F v a c).1.val ≤ (productM F v b c).1.val := by
  rw [product_fin fa fc] at *
  rw [product_fin fb fc] at *
  exact fin_mono hp hl (Rat.mul_le_mul_of_nonneg_right h h0) h1 h2
/-! ### nought, small sums, small parts -/
theorem on_lo {n : Num} (h : OfF F n) (hl : F.lo ≤ F.hi) : ∃ k : Int, n.val = (k : Rat) * two F.lo := by
  obtain ⟨k, e, q1, l1, _⟩ := parts_of h hl
  obtain ⟨j, hj⟩ := grid_up (k := k) l1
  exact ⟨j, by rw [q1, hj]⟩
theorem rep_lo (F : Fmt) : rep F (two F.lo) := ⟨1, F.lo, by simp, Int.le_refl _, by have := pow_pos' F.p; omega, by have := pow_pos' F.p; omega⟩
theorem grid_ne (hp : 1 ≤ F.p) {k : Int} (hq : q = (k : Rat) * two F.lo) (h0 : q ≠ 0) : rv F v q ≠ 0 := by
  have t := two_pos F.lo
  have k0 : k ≠ 0 := fun z => h0 (by rw [hq, z]; simp)
  have h1 : two F.lo ≤ ab q := by
    rw [hq, ab_cast]
    have : (1 : Rat) ≤ ((k.natAbs : Int) : Rat) := by exact_mod_cast (show 1 ≤ (k.natAbs : Int) by omega)
    have := mul_le_r this (Rat.le_of_lt t)
    grind
  have h2 := rA_ge (v := v) hp (rep_lo F) h1
  intro z
  have := ab_rv (F := F) (v := v) (q := q)
  rw [z, ab_zero] at this
  grind
theorem minus_zero_iff (hp : 1 ≤ F.p) (hl : F.lo ≤ F.hi) {a b : Num} (oa : OfF F a) (ob : OfF F b) (fa : a.fin = true) (fb : b.fin = true) (h : (minusM F v a b).1.fin = true) : (minusM F v a b).1.val = 0 ↔ a.val = b.val := by
  rw [minus_fin fa fb ob] at *
  rw [fin_val hp hl h]
  have tp := topV_pos (F := F) hp
  constructor
  · intro z
    by_cases c : a.val - b.val = 0
    · grind
    exfalso
    obtain ⟨k1, h1⟩ := on_lo oa hl
    obtain ⟨k2, h2⟩ := on_lo ob hl
    have := grid_ne (v := v) (q := a.val - b.val) hp (k := k1 - k2) (by rw [h1, h2, grid_sub]) c
    unfold clamp at z
    split at z
    · grind
    · split at z <;> grind
  · intro z
    rw [show a.val - b.val = 0 by grind, rv_zero]
    unfold clamp; rw [if_neg (by grind), if_neg (by grind)]
theorem small_sum (hp : 1 ≤ F.p) (hl : F.lo < F.hi) {a b : Num} (oa : OfF F a) (ob : OfF F b) (fa : a.fin = true) (fb : b.fin = true) (h : ab (a.val + b.val) ≤ two (F.p + F.lo)) : (plusM F v a b).1.fin = true ∧ (plusM F v a b).1.val = a.val + b.val ∧ (plusM F v a b).2 = [] := by
  rw [plus_fin fa fb]
  obtain ⟨k1, h1⟩ := on_lo oa (Int.le_of_lt hl)
  obtain ⟨k2, h2⟩ := on_lo ob (Int.le_of_lt hl)
  refine rnd_exact hp (Int.le_of_lt hl) ?_ ?_
  · rw [h1, h2, grid_add] at h ⊢
    exact rep_grid (Int.le_refl _) h
  · have : two (F.p + F.lo) < two (F.p + F.hi) := two_lt (by omega)
    grind
theorem rep_one (hp : 1 ≤ F.p) (h : F.lo ≤ 0) : rep F 1 := ⟨1, 0, by rw [two_zero]; simp, h, by have := pow_pos' F.p; omega, by have := pow_pos' F.p; omega⟩
theorem ab_div (a b : Rat) : ab (a / b) = ab a / ab b := by
  by_cases h : b = 0
  · subst h; rw [ab_zero, Rat.div_def, Rat.div_def, Rat.inv_zero, Rat.mul_zero, Rat.mul_zero, ab_zero]
  have hb : ab b ≠ 0 := fun z => h (ab_eq_zero.mp z)
  have e : ab (a / b) * ab b = ab a := by rw [← ab_mul, Rat.div_mul_cancel h]
  rw [← e, Rat.mul_div_cancel hb]
theorem part_le_one (hp : 1 ≤ F.p) (hl : F.lo ≤ 0) (hh : 0 ≤ F.hi) {a b : Num} (fa : a.fin = true) (fb : b.fin = true) (h0 : b.val ≠ 0) (h : ab a.val ≤ ab b.val) : (overM F v a b).1.fin = true ∧ ab (overM F v a b).1.val ≤ 1 := by
  rw [over_fin fa fb h0]
  have h1 : ab (a.val / b.val) ≤ 1 := by
    rw [ab_div]
    have hb := ab_pos h0
    refine Rat.le_of_mul_le_mul_right (c := ab b.val) ?_ hb
    rw [Rat.div_mul_cancel (by grind)]; grind
  have h2 := rA_le (v := v) hp (rep_one hp hl) h1
  have h3 : (1 : Rat) < two (F.p + F.hi) := by rw [← two_zero]; exact two_lt (by omega)
  obtain ⟨g1, g2, _⟩ := rnd_fin (s := (a.sg + b.sg) % 2) hp (show F.lo ≤ F.hi by omega) (show rA F v (a.val / b.val) < two (F.p + F.hi) by grind)
  exact ⟨g1, by rw [g2, ab_rv]; exact h2⟩
end
end MA

/-! Laws of rounded numbers, said of numbers. -/
namespace MA
section
variable {F : Fmt} {v : Way} {q : Rat} {s : Int}
theorem fin_num {a : Num} (f : a.fin = true) (z : a.zero = false) : ∃ s w e, a = .number s w e := by
  cases a with
  | number s w e => exact ⟨s, w, e, rfl⟩
  | nothing s => cases z
  | endless s => cases f
  | none => cases f
/-- what a product loses -/
theorem prod_law (hp : 1 ≤ F.p) (hl : F.lo ≤ F.hi) {a b : Num} (oa : OfF F a) (ob : OfF F b) (fa : a.fin = true) (fb : b.fin = true) (za : a.zero = false) (zb : b.zero = false) (he : F.lo ≤ a.ex + b.ex) (ho : Mark.overflow ∉ (productM F v a b).2) :
    (productM F v a b).1.fin = true ∧ rep F (a.val * b.val - (productM F v a b).1.val) ∧ ab (a.val * b.val - (productM F v a b).1.val) < two (F.p + F.hi) := by
  obtain ⟨s, w, e, rfl⟩ := fin_num fa za
  obtain ⟨s', w', e', rfl⟩ := fin_num fb zb
  rw [product_fin fa fb] at *
  have h := no_ov hp hl ho
  obtain ⟨g1, g2, _⟩ := rnd_fin (s := ((Num.number s w e).sg + (Num.number s' w' e').sg) % 2) hp hl h
  refine ⟨g1, ?_⟩
  rw [g2]
  exact prod_lost hp hl oa ob he h
/-- what a quotient leaves -/
theorem quot_law (hp : 1 ≤ F.p) (hl : F.lo ≤ F.hi) {a b : Num} (oa : OfF F a) (ob : OfF F b) (fa : a.fin = true) (fb : b.fin = true) (za : a.val ≠ 0) (zb : b.val ≠ 0) (ho : Mark.overflow ∉ (overM F v a b).2) (zt : (overM F v a b).1.zero = false) (h1 : F.lo ≤ (overM F v a b).1.ex + b.ex) (h2 : (overM F v a b).1.ex + b.ex ≤ a.ex) :
    (overM F v a b).1.fin = true ∧ rep F (a.val - (overM F v a b).1.val * b.val) ∧ ab (a.val - (overM F v a b).1.val * b.val) < two (F.p + F.hi) := by
  have za' : a.zero = false := eq_false_of_ne_true fun z => za (zero_val z)
  have zb' : b.zero = false := eq_false_of_ne_true fun z => zb (zero_val z)
  obtain ⟨s, w, e, rfl⟩ := fin_num fa za'
  obtain ⟨s', w', e', rfl⟩ := fin_num fb zb'
  rw [over_fin fa fb zb] at *
  have h := no_ov hp hl ho
  have g1 := (rnd_fin (s := ((Num.number s w e).sg + (Num.number s' w' e').sg) % 2) hp hl h).1
  refine ⟨g1, ?_⟩
  obtain ⟨m, n, x, ht⟩ := fin_num g1 zt
  rw [ht] at h1 h2
  rw [ht]
  exact quot_lost hp hl oa ob ht ⟨m, n, rfl⟩ h h1 h2
theorem fin_zero_ov (hp : 1 ≤ F.p) (hl : F.lo ≤ F.hi) {a b : Num} (fa : a.fin = true) (fb : b.fin = true) (zb : b.val ≠ 0) (ho : Mark.overflow ∉ (overM F v a b).2) : (overM F v a b).1.fin = true := by
  rw [over_fin fa fb zb] at *
  exact (rnd_fin hp hl (no_ov hp hl ho)).1
/-! ### halves -/
theorem rep_dbl {x : Rat} (h : rep F x) : rep F (2 * x) := by
  obtain ⟨k, e, rfl, h1, h2, h3⟩ := h
  exact ⟨k, e + 1, by rw [two_succ]; grind, by omega, h2, h3⟩
theorem half_le {x : Rat} : ab (x / 2) ≤ ab x := by
  have h := ab_nonneg x
  rw [ab_div, show ab 2 = 2 from ab_of_nonneg (by decide)]
  have := Rat.div_mul_cancel (a := ab x) (b := 2) (by decide)
  grind
theorem half_law (hp : 1 ≤ F.p) (hl : F.lo ≤ F.hi) {a b t d : Num} (oa : OfF F a) (ob : OfF F b) (fa : a.fin = true) (fb : b.fin = true) (ht : t = (plusM F v a b).1) (ho : Mark.overflow ∉ (plusM F v a b).2) (fd : d.fin = true) (hd : d.val = 2) :
    (plusM F v a b).1.fin = true ∧ (overM F v t d).1.fin = true ∧ ∀ x y : Num, OfF F x → OfF F y → x.val ≤ y.val → x.val + y.val = a.val + b.val → x.val ≤ (overM F v t d).1.val ∧ (overM F v t d).1.val ≤ y.val := by
  subst ht
  rw [plus_fin fa fb] at *
  have h := no_ov hp hl ho
  obtain ⟨g1, g2, _⟩ := rnd_fin (s := signN v a.sg b.sg) hp hl h
  refine ⟨g1, ?_⟩
  rw [over_fin g1 fd (by rw [hd]; decide), hd, g2]
  have h2 : rA F v (rv F v (a.val + b.val) / 2) < two (F.p + F.hi) := by
    have e1 : ab (rv F v (a.val + b.val)) = rA F v (a.val + b.val) := ab_rv
    have := rA_le (v := v) (q := rv F v (a.val + b.val) / 2) hp (rep_rA F v (a.val + b.val)) (by rw [← e1]; exact half_le)
    grind
  obtain ⟨k1, k2, _⟩ := rnd_fin (s := ((rnd F v (a.val + b.val) (signN v a.sg b.sg)).1.sg + d.sg) % 2) hp hl h2
  refine ⟨k1, fun x y ox oy hxy hs => ?_⟩
  rw [k2]
  have c1 := rv_ge (v := v) (q := a.val + b.val) hp (rep_dbl (ofF_rep ox)) (by grind)
  have c2 := rv_le (v := v) (q := a.val + b.val) hp (rep_dbl (ofF_rep oy)) (by grind)
  have e2 := Rat.div_mul_cancel (a := rv F v (a.val + b.val)) (b := 2) (by decide)
  exact ⟨rv_ge hp (ofF_rep ox) (by grind), rv_le hp (ofF_rep oy) (by grind)⟩
/-! ### numbers of fractions -/
theorem numberOf_spec (hp : 1 ≤ F.p) (h : isRep F q = true) : OfF F (numberOf F q) ∧ (numberOf F q).fin = true ∧ (numberOf F q).val = q := by
  unfold isRep at h
  unfold numberOf
  by_cases c : q.num = 0
  · rw [if_pos c]
    exact ⟨.inl rfl, rfl, (num_eq_zero_iff.mp c).symm⟩
  have c' : q ≠ 0 := fun z => c (num_eq_zero_iff.mpr z)
  rw [if_neg c] at h ⊢
  rw [Bool.and_eq_true, decide_eq_true_eq, decide_eq_true_eq] at h
  obtain ⟨h1, h2⟩ := h
  have e := int_of_den h1
  have hs := scaled_lt F q
  have e2 : scaled F q = (((q * two (-unitAt F q)).num.natAbs : Int) : Rat) := by
    unfold scaled; rw [← ab_num_int, ← e]
  have hq := unit_back F q
  have hb : (((q * two (-unitAt F q)).num.natAbs : Int) : Rat) * two (unitAt F q) = ab q := by rw [← e2]; exact scaled_mul F q
  have h0 : (1 : Int) ≤ ((q * two (-unitAt F q)).num.natAbs : Int) := by
    have : (q * two (-unitAt F q)).num ≠ 0 := fun z => c' (by rw [hq, e, z]; simp)
    omega
  rw [raised_own]
  refine ⟨⟨own01, ⟨unit_ge F q, h2⟩, ⟨h0, int_lt_two (by rw [← e2]; exact hs)⟩, ?_⟩, rfl, ?_⟩
  · by_cases d : unitAt F q = F.lo
    · exact .inr d
    · have := scaled_ge (F := F) (q := q) (by have := unit_ge F q; omega)
      rw [e2, show ((F.p : Int) - 1) = ((F.p - 1 : Nat) : Int) by omega] at this
      exact .inl (two_le_int this)
  · rw [num_val, rnd_sgn, hb]
    by_cases d : q < 0
    · rw [if_pos d, ab_of_neg d, Rat.neg_neg]
    · rw [if_neg d, ab_of_nonneg (by grind)]
theorem numberOf_sg (h : ¬ q < 0) : (numberOf F q).sg = 0 := by
  unfold numberOf
  split
  · rfl
  · rw [raised_own, if_neg h]; rfl
/-- the sign that nothing has is only asked for at nothing -/
theorem rnd_sign {s s' : Int} (h : q ≠ 0) : rnd F v q s = rnd F v q s' := by rw [rnd_eq h, rnd_eq h]
/-! ### too small -/
theorem only_near (hp : 1 ≤ F.p) {w e : Int} {x : Rat} (h : OfF F (.number 0 w e)) (hx : rep F x) (hd : ab (x - (w : Rat) * two e) < two (e - 1)) : x = (w : Rat) * two e := by
  obtain ⟨_, he, hw, hn⟩ := h
  rw [ab_lt] at hd
  have t := two_pos (e - 1)
  have te : two e = 2 * two (e - 1) := by rw [← two_succ]; congr 1; omega
  by_cases c : x = (w : Rat) * two e
  · exact c
  exfalso
  by_cases c2 : (w : Rat) * two e < x
  · exact no_between (F := F) (u := e) (m := w) hp he.1 (by rcases hn with h | h; exact .inr h; exact .inl h) hx c2 (by rw [Rat.add_mul]; grind)
  · by_cases c3 : w = 2 ^ (F.p - 1) ∧ F.lo < e
    · obtain ⟨c3, c4⟩ := c3
      have e1 : (2 : Int) ^ F.p = 2 * 2 ^ (F.p - 1) := by rw [← Int.pow_succ']; congr 1; omega
      have e2 : ((2 ^ F.p - 1 : Int) : Rat) = 2 * (w : Rat) - 1 := by rw [e1, ← c3, Rat.intCast_sub, Rat.intCast_mul]; rfl
      have := pow_pos' (F.p - 1)
      exact no_between (F := F) (u := e - 1) (m := 2 ^ F.p - 1) hp (by omega) (.inr (by omega)) hx (by rw [e2]; rw [te] at hd c c2; generalize two (e - 1) = Y at *; grind) (by rw [e2]; rw [te] at hd c c2; generalize two (e - 1) = Y at *; grind)
    · have e2 : ((w - 1 : Int) : Rat) = (w : Rat) - 1 := by rw [Rat.intCast_sub]; rfl
      exact no_between (F := F) (u := e) (m := w - 1) hp he.1 (by omega) hx (by rw [e2]; grind) (by rw [e2]; grind)
theorem lost_small (hp : 1 ≤ F.p) (hl : F.lo ≤ F.hi) (hn : near v) {a b : Num} (oa : OfF F a) (fa : a.fin = true) (fb : b.fin = true) (za : a.val ≠ 0) (h : ab b.val < two (a.ex - 2)) : (plusM F v a b).1.fin = true ∧ (plusM F v a b).1.val = a.val := by
  rw [plus_fin fa fb]
  obtain ⟨s, w, e, rfl⟩ := fin_num fa (eq_false_of_ne_true fun z => za (zero_val z))
  have h1 := rv_near (q := (Num.number s w e).val + b.val) hp hn (ofF_rep oa)
  rw [show (Num.number s w e).val - ((Num.number s w e).val + b.val) = -b.val by grind, ab_neg] at h1
  have t : two (e - 1) = 2 * two (e - 2) := by rw [← two_succ]; congr 1; omega
  have h2 : ab (rv F v ((Num.number s w e).val + b.val) - (Num.number s w e).val) < two (e - 1) := by
    have h' : ab b.val < two (e - 2) := h
    rw [ab_le] at h1
    have h'' := ab_lt.mp h'
    rw [ab_lt]
    generalize two (e - 2) = Y at *
    generalize rv F v ((Num.number s w e).val + b.val) = R at *
    generalize (Num.number s w e).val = A at *
    grind
  have key : rv F v ((Num.number s w e).val + b.val) = (Num.number s w e).val := by
    have o0 : OfF F (.number 0 w e) := ⟨.inl rfl, oa.2⟩
    rw [num_val] at h2 ⊢
    by_cases c : s = 1
    · rw [if_pos c] at h2 ⊢
      have := only_near hp o0 (rep_neg (rep_rv F v (-((w : Rat) * two e) + b.val))) (by
        rw [show -rv F v (-((w : Rat) * two e) + b.val) - (w : Rat) * two e = -(rv F v (-((w : Rat) * two e) + b.val) - -((w : Rat) * two e)) by grind, ab_neg]; exact h2)
      grind
    · rw [if_neg c] at h2 ⊢
      exact only_near hp o0 (rep_rv F v _) h2
  have h3 := ofF_lt oa
  rw [← key, ab_rv] at h3
  obtain ⟨g1, g2, _⟩ := rnd_fin (s := signN v (Num.number s w e).sg b.sg) hp hl h3
  exact ⟨g1, by rw [g2, key]⟩
end
end MA
namespace MA
theorem joined_rest {F : Fmt} {v : Way} {a b t : Num} (hp : 1 ≤ F.p) (hl : F.lo ≤ F.hi) (fa : a.fin = true) (fb : b.fin = true) (ot : OfF F t) (ft : t.fin = true) (h : rep F (a.val * b.val - t.val)) (hs : ab (a.val * b.val - t.val) < two (F.p + F.hi)) :
    (joinedM F v a b t.turned).1.fin = true ∧ (joinedM F v a b t.turned).1.val = a.val * b.val - t.val ∧ (joinedM F v a b t.turned).2 = [] := by
  obtain ⟨a1, a2⟩ := fin_ne fa
  obtain ⟨b1, b2⟩ := fin_ne fb
  obtain ⟨t1, t2⟩ := fin_ne (show t.turned.fin = true by rw [turned_fin]; exact ft)
  unfold joinedM
  rw [if_neg (by simp [a1, b1, t1]), if_neg (by simp [a2, b2]), if_neg (by simp [t2]), turned_val ot, ← Rat.sub_eq_add_neg]
  exact rnd_exact hp hl h hs
theorem ofF_joined {F : Fmt} {v : Way} {a b t : Num} (hp : 1 ≤ F.p) (hl : F.lo ≤ F.hi) (ot : OfF F t) : OfF F (joinedM F v a b t).1 := by
  unfold joinedM
  split
  · trivial
  · split
    · split
      · trivial
      · show _ ∨ _; omega
    · split
      · exact ot
      · exact ofF_rnd hl hp (by unfold signN; split; omega; split <;> simp)
end MA

namespace MA
section
variable {F : Fmt} {v : Way} {q : Rat} {s : Int}
/-! ### by itself, by one, by two -/
theorem rep_numZ {k : Int} (hp : 1 ≤ F.p) (h : F.lo ≤ 0) (h1 : 0 ≤ k) (h2 : k ≤ 2) : rep F (k : Rat) := by
  have e : (2 : Int) ^ F.p = 2 * 2 ^ (F.p - 1) := by rw [← Int.pow_succ']; congr 1; omega
  have := pow_pos' (F.p - 1)
  exact ⟨k, 0, by rw [two_zero, Rat.mul_one], h, by omega, by omega⟩
theorem one_isRep (hp : 1 ≤ F.p) (hl : F.lo ≤ 0) (hh : 0 < F.hi) : isRep F 1 = true := by
  refine isRep_of hp (by omega) (rep_one hp hl) ?_
  rw [show ab 1 = two 0 by rw [two_zero]; exact ab_of_nonneg (by decide)]
  exact two_lt (by omega)
theorem two_isRep (hp : 1 ≤ F.p) (hl : F.lo ≤ 0) (hh : 0 < F.hi) : isRep F 2 = true := by
  refine isRep_of hp (by omega) (rep_numZ (k := 2) hp hl (by decide) (by decide)) ?_
  rw [show ab 2 = two 1 by rw [two_one]; exact ab_of_nonneg (by decide)]
  exact two_lt (by omega)
theorem over_self (hp : 1 ≤ F.p) (hl : F.lo ≤ 0) (hh : 0 < F.hi) {a : Num} (fa : a.fin = true) (h0 : a.val ≠ 0) : (overM F v a a).1.fin = true ∧ (overM F v a a).1.val = 1 ∧ (overM F v a a).2 = [] := by
  rw [over_fin fa fa h0, Rat.div_def, Rat.mul_inv_cancel _ h0]
  obtain ⟨r1, r2⟩ := rep_of_isRep (by omega) (one_isRep hp hl hh)
  exact rnd_exact hp (by omega) r1 r2
theorem sg_mod {a : Num} (o : OfF F a) (f : a.fin = true) : a.sg % 2 = a.sg := by
  cases a with
  | number s w e => have h : s = 0 ∨ s = 1 := o.1; show s % 2 = s; omega
  | nothing s => have h : s = 0 ∨ s = 1 := o; show s % 2 = s; omega
  | endless s => cases f
  | none => cases f
theorem by_one (hp : 1 ≤ F.p) (hl : F.lo ≤ F.hi) {a d : Num} (oa : OfF F a) (fa : a.fin = true) (fd : d.fin = true) (hd : d.val = 1) (sd : d.sg = 0) : productM F v a d = (a, []) ∧ overM F v a d = (a, []) := by
  rw [product_fin fa fd, over_fin fa fd (by rw [hd]; decide), hd, sd, Int.add_zero, sg_mod oa fa, Rat.mul_one, Rat.div_def, show (1 : Rat)⁻¹ = 1 by decide +kernel, Rat.mul_one]
  exact ⟨rnd_self hp hl oa fa, rnd_self hp hl oa fa⟩
theorem minus_self (hp : 1 ≤ F.p) (hl : F.lo ≤ F.hi) {a : Num} (oa : OfF F a) (fa : a.fin = true) : (minusM F v a a).1.fin = true ∧ (minusM F v a a).1.val = 0 ∧ (minusM F v a a).2 = [] := by
  rw [minus_fin fa fa oa, Rat.sub_self, rnd_zero]
  exact ⟨rfl, rfl, rfl⟩
theorem plus_nought (hp : 1 ≤ F.p) (hl : F.lo ≤ F.hi) {a : Num} {s : Int} (oa : OfF F a) (fa : a.fin = true) : (plusM F v a (.nothing s)).1.fin = true ∧ (plusM F v a (.nothing s)).1.val = a.val := by
  rw [plus_fin fa rfl, show a.val + (Num.nothing s).val = a.val by show a.val + 0 = a.val; grind]
  obtain ⟨h1, h2, _⟩ := rnd_exact (v := v) (s := signN v a.sg (Num.nothing s).sg) hp hl (ofF_rep oa) (ofF_lt oa)
  exact ⟨h1, h2⟩
theorem by_two (hp : 1 ≤ F.p) (hl : F.lo ≤ F.hi) {a d : Num} (oa : OfF F a) (fa : a.fin = true) (fd : d.fin = true) (hd : d.val = 2) :
    (Mark.overflow ∉ (productM F v a d).2 → (productM F v a d).2 = [] ∧ (productM F v a d).1.fin = true ∧ (productM F v a d).1.val = a.val * 2) ∧ (a.val ≠ 0 → (plusM F v a a).1 = (productM F v a d).1) := by
  rw [product_fin fa fd, plus_fin fa fa, hd]
  have hr : rep F (a.val * 2) := by rw [Rat.mul_comm]; exact rep_dbl (ofF_rep oa)
  constructor
  · intro ho
    have h := no_ov hp hl ho
    rw [show rA F v (a.val * 2) = ab (a.val * 2) by rw [← ab_rv, rv_rep hp hr]] at h
    obtain ⟨h1, h2, h3⟩ := rnd_exact (v := v) (s := (a.sg + d.sg) % 2) hp hl hr h
    exact ⟨h3, h1, h2⟩
  · intro h0
    have e : a.val * 2 = a.val + a.val := by grind
    rw [e, rnd_sign (s := signN v a.sg a.sg) (s' := (a.sg + d.sg) % 2) (by grind)]
theorem half_iff (hp : 1 ≤ F.p) (hl : F.lo ≤ F.hi) {a d : Num} (oa : OfF F a) (fa : a.fin = true) (fd : d.fin = true) (hd : d.val = 2) :
    ((overM F v a d).2 = [] ↔ isRep F (a.val * (1 / 2)) = true) ∧ (overM F v a d).1.fin = true ∧ (isRep F (a.val * (1 / 2)) = true → (overM F v a d).1.val = a.val * (1 / 2)) := by
  have e : a.val / 2 = a.val * (1 / 2) := by rw [Rat.div_def, show (2 : Rat)⁻¹ = 1 / 2 by decide +kernel]
  rw [over_fin fa fd (by rw [hd]; decide), hd]
  have hs : rA F v (a.val / 2) < two (F.p + F.hi) := by
    have h1 := ofF_lt oa
    have h2 : rep F (ab a.val) := by unfold ab; split; exact rep_neg (ofF_rep oa); exact ofF_rep oa
    have := rA_le (v := v) (q := a.val / 2) hp h2 half_le
    grind
  obtain ⟨k1, k2, k3⟩ := rnd_fin (s := (a.sg + d.sg) % 2) hp hl hs
  rw [← e]
  refine ⟨?_, k1, fun h => ?_⟩
  · rw [marks_nil_iff hp hl, isRep_iff hp hl]
    constructor
    · rintro ⟨h1, h2⟩
      exact ⟨by rw [← h1]; exact rep_rv F v _, by have h3 := ab_rv (F := F) (v := v) (q := a.val / 2); rw [h1] at h3; grind⟩
    · rintro ⟨h1, h2⟩
      exact ⟨rv_rep hp h1, hs⟩
  · rw [k2]
    exact rv_rep hp (rep_of_isRep hl h).1
/-! ### order by differences -/
theorem clamp_pos {x : Rat} (hp : 1 ≤ F.p) : (0 < clamp F x ↔ 0 < x) ∧ (clamp F x < 0 ↔ x < 0) := by
  have tp := topV_pos (F := F) hp
  unfold clamp
  split
  · grind
  · split <;> grind
theorem rv_nonneg {x : Rat} (h : 0 ≤ x) : 0 ≤ rv F v x := by
  unfold rv; rw [if_neg (by grind)]; exact rA_nonneg F v x
theorem rv_nonpos {x : Rat} (h : x ≤ 0) : rv F v x ≤ 0 := by
  by_cases c : x = 0
  · subst c; rw [rv_zero]; exact Rat.le_refl
  · unfold rv; rw [if_pos (by grind)]; have := rA_nonneg F v x; grind
theorem sign_law (hp : 1 ≤ F.p) (hl : F.lo ≤ F.hi) {a b : Num} (oa : OfF F a) (ob : OfF F b) (fa : a.fin = true) (fb : b.fin = true) :
    ((minusM F v a b).1.fin = true → ((minusM F v a b).1.val < 0 ↔ a.val < b.val) ∧ (0 < (minusM F v a b).1.val ↔ b.val < a.val)) ∧
    ((minusM F v a b).1.fin = false → ∃ s, (minusM F v a b).1 = .endless s ∧ (s = 0 ∨ s = 1) ∧ (s = 1 ↔ a.val < b.val) ∧ (s = 0 ↔ b.val < a.val)) := by
  rw [minus_fin fa fb ob]
  obtain ⟨k1, h1⟩ := on_lo oa hl
  obtain ⟨k2, h2⟩ := on_lo ob hl
  have hq : a.val - b.val = ((k1 - k2 : Int) : Rat) * two F.lo := by rw [h1, h2, grid_sub]
  constructor
  · intro h
    rw [fin_val hp hl h]
    have c := clamp_pos (F := F) (x := rv F v (a.val - b.val)) hp
    have p1 := rv_nonneg (F := F) (v := v) (x := a.val - b.val)
    have p2 := rv_nonpos (F := F) (v := v) (x := a.val - b.val)
    have p3 := grid_ne (v := v) hp hq
    rw [c.1, c.2]
    generalize rv F v (a.val - b.val) = R at *
    constructor <;> constructor <;> intro z
    · by_cases y : a.val < b.val
      · exact y
      · have := p1 (by grind); grind
    · have := p2 (by grind); have := p3 (by grind); grind
    · by_cases y : b.val < a.val
      · exact y
      · have := p2 (by grind); grind
    · have := p1 (by grind); have := p3 (by grind); grind
  · intro h
    have hov : two (F.p + F.hi) ≤ rA F v (a.val - b.val) := by
      rw [← Rat.not_lt]; intro c
      have := (rnd_fin (s := signN v a.sg b.turned.sg) hp hl c).1
      rw [this] at h; cases h
    have h0 : a.val - b.val ≠ 0 := fun z => by rw [z, rA_zero] at hov; have := two_pos (F.p + F.hi); grind
    rw [rnd_ov hp hl hov] at h ⊢
    change (beyond F v (if a.val - b.val < 0 then 1 else 0)).fin = false at h
    refine ⟨if a.val - b.val < 0 then 1 else 0, ?_, own01, ?_, ?_⟩
    · show beyond F v _ = _
      generalize (if a.val - b.val < 0 then (1 : Int) else 0) = o at h ⊢
      unfold beyond at h ⊢
      by_cases c : v = .even ∨ v = .away ∨ (v = .up ∧ o = 0) ∨ (v = .down ∧ o = 1)
      · rw [if_pos c]
      · rw [if_neg c] at h; cases h
    · by_cases c : a.val - b.val < 0
      · rw [if_pos c]; grind
      · rw [if_neg c]; grind
    · by_cases c : a.val - b.val < 0
      · rw [if_pos c]; grind
      · rw [if_neg c]; grind
/-! ### what a sum loses by two differences -/
theorem ex_order (hp : 1 ≤ F.p) {s w e s' w' e' : Int} (oa : OfF F (.number s w e)) (ob : OfF F (.number s' w' e')) (h : ab (Num.number s' w' e').val ≤ ab (Num.number s w e).val) : e' ≤ e := by
  by_cases c : e' ≤ e
  · exact c
  exfalso
  have h1 := num_ab_lt oa
  rw [ab_num_val (s := s') (by have := ob.2.2.1; omega)] at h
  have h2 : 2 ^ (F.p - 1) ≤ w' := by rcases ob.2.2.2 with h | h; exact h; have := oa.2.1.1; omega
  have h3 : two ((F.p - 1 : Nat) : Int) * two e' ≤ (w' : Rat) * two e' := mul_le_r (by rw [← cast_pow]; exact ic_le h2) (Rat.le_of_lt (two_pos e'))
  rw [← two_add] at h3
  have h4 : two (F.p + e) ≤ two (((F.p - 1 : Nat) : Int) + e') := two_le (by omega)
  grind
theorem ab_tri (x y : Rat) : ab (x + y) ≤ ab x + ab y := by unfold ab; split <;> split <;> split <;> grind
theorem num_ab_le {s w e : Int} (h : OfF F (.number s w e)) : ab (Num.number s w e).val ≤ two (F.p + e) - two e := by
  rw [ab_num_val (by have := h.2.2.1; omega), two_add, ← cast_pow]
  have h1 : w ≤ 2 ^ F.p - 1 := by have := h.2.2.1; omega
  have h2 := mul_le_r (ic_le h1) (Rat.le_of_lt (two_pos e))
  rw [Rat.intCast_sub] at h2
  have : ((1 : Int) : Rat) = 1 := rfl
  rw [this] at h2
  generalize ((2 ^ F.p : Int) : Rat) = X at *
  grind
theorem fast_rep (hp : 1 ≤ F.p) (hl : F.lo ≤ F.hi) (hn : near v) {a b : Num} (oa : OfF F a) (ob : OfF F b) (fa : a.fin = true) (fb : b.fin = true) (h : ab b.val ≤ ab a.val) (ho : rA F v (a.val + b.val) < two (F.p + F.hi)) :
    rep F (rv F v (a.val + b.val) - a.val) ∧ ab (rv F v (a.val + b.val) - a.val) < two (F.p + F.hi) := by
  by_cases zb : b.val = 0
  · rw [zb, show a.val + 0 = a.val by grind, rv_rep hp (ofF_rep oa), Rat.sub_self]
    exact ⟨rep_zero F, by rw [ab_zero]; exact two_pos _⟩
  have za : a.val ≠ 0 := fun z => by rw [z, ab_zero] at h; have := ab_pos zb; grind
  obtain ⟨s, w, e, rfl⟩ := fin_num fa (eq_false_of_ne_true fun z => za (zero_val z))
  obtain ⟨s', w', e', rfl⟩ := fin_num fb (eq_false_of_ne_true fun z => zb (zero_val z))
  have he := ex_order hp oa ob h
  have hlt := num_ab_lt ob
  have hle := num_ab_le ob
  have qa := num_parts (s := s) (w := w) (e := e)
  have qb := num_parts (s := s') (w := w') (e := e')
  have hu := unit_le_hi hp hl ho
  have hnear := rv_near (q := (Num.number s w e).val + (Num.number s' w' e').val) hp hn (ofF_rep oa)
  rw [show (Num.number s w e).val - ((Num.number s w e).val + (Num.number s' w' e').val) = -(Num.number s' w' e').val by grind, ab_neg] at hnear
  have hhalf := rv_half (F := F) (q := (Num.number s w e).val + (Num.number s' w' e').val) hn
  obtain ⟨j, hj⟩ := grid_up (k := if s = 1 then -w else w) he
  have qq : (Num.number s w e).val + (Num.number s' w' e').val = ((j + (if s' = 1 then -w' else w') : Int) : Rat) * two e' := by rw [qa, qb, hj, grid_add]
  by_cases c1 : unitAt F ((Num.number s w e).val + (Num.number s' w' e').val) ≤ e'
  · -- nothing is lost
    have hr : rv F v ((Num.number s w e).val + (Num.number s' w' e').val) = (Num.number s w e).val + (Num.number s' w' e').val := by
      obtain ⟨i, hi⟩ := grid_up (k := j + (if s' = 1 then -w' else w')) c1
      have hs := scaled_lt F ((Num.number s w e).val + (Num.number s' w' e').val)
      rw [scaled_eq, qq, hi] at hs
      rw [qq, hi] at c1
      rw [qq, hi]
      refine rv_rep hp (rep_grid (unit_ge F _) ?_)
      rw [← hi, ← qq, hi] at *
      rw [two_add]
      have t := two_pos (unitAt F ((Num.number s w e).val + (Num.number s' w' e').val))
      have := scaled_lt F ((Num.number s w e).val + (Num.number s' w' e').val)
      have h2 := mul_lt_r this t
      rw [scaled_mul] at h2
      exact Rat.le_of_lt h2
    rw [hr, show (Num.number s w e).val + (Num.number s' w' e').val - (Num.number s w e).val = (Num.number s' w' e').val by grind]
    exact ⟨ofF_rep ob, ofF_lt ob⟩
  generalize hR : rv F v ((Num.number s w e).val + (Num.number s' w' e').val) = R at *
  have hRg : ∃ i : Int, R = (i : Rat) * two (unitAt F ((Num.number s w e).val + (Num.number s' w' e').val)) := by
    rw [← hR]; unfold rv rA
    split
    · exact ⟨_, by rw [← Rat.neg_mul, ← Rat.intCast_neg]⟩
    · exact ⟨_, rfl⟩
  obtain ⟨i, hi⟩ := hRg
  by_cases c2 : e' + 1 ≤ e
  · obtain ⟨i2, hi2⟩ := grid_up (k := i) (show e' + 1 ≤ unitAt F ((Num.number s w e).val + (Num.number s' w' e').val) by omega)
    obtain ⟨j2, hj2⟩ := grid_up (k := if s = 1 then -w else w) c2
    have e1 : R - (Num.number s w e).val = ((i2 - j2 : Int) : Rat) * two (e' + 1) := by rw [hi, hi2, qa, hj2, grid_sub]
    have b1 : ab (R - (Num.number s w e).val) < two (F.p + (e' + 1)) := by
      have t1 := ab_tri (R - ((Num.number s w e).val + (Num.number s' w' e').val)) (Num.number s' w' e').val
      rw [show R - ((Num.number s w e).val + (Num.number s' w' e').val) + (Num.number s' w' e').val = R - (Num.number s w e).val by grind] at t1
      have t2 : two (F.p + (e' + 1)) = 2 * two (F.p + e') := by rw [← two_succ]; congr 1; omega
      grind
    have b2 : two (F.p + (e' + 1)) ≤ two (F.p + F.hi) := two_le (by omega)
    refine ⟨?_, by grind⟩
    rw [e1] at b1 ⊢
    exact rep_grid (by have := ob.2.1.1; omega) (Rat.le_of_lt b1)
  · have ee : e = e' := by omega
    subst ee
    have hu1 : unitAt F ((Num.number s w e).val + (Num.number s' w' e).val) = e + 1 := by
      have t1 := ab_tri (Num.number s w e).val (Num.number s' w' e).val
      have t2 := num_ab_lt oa
      have t3 : two (F.p + (e + 1)) = 2 * two (F.p + e) := by rw [← two_succ]; congr 1; omega
      by_cases z : (Num.number s w e).val + (Num.number s' w' e).val = 0
      · exfalso; apply c1; unfold unitAt; rw [if_pos (by rw [z]; rfl)]; exact oa.2.1.1
      have := expo_lt (j := F.p + (e + 1)) z (by grind)
      have := unit_cases F z
      have := oa.2.1.1
      omega
    obtain ⟨i2, hi2⟩ := grid_up (k := i) (show e ≤ unitAt F ((Num.number s w e).val + (Num.number s' w' e).val) by omega)
    have e1 : R - (Num.number s w e).val = ((i2 - (if s = 1 then -w else w) : Int) : Rat) * two e := by rw [hi, hi2, qa, grid_sub]
    have b1 : ab (R - (Num.number s w e).val) ≤ two (F.p + e) := by
      have t1 := ab_tri (R - ((Num.number s w e).val + (Num.number s' w' e).val)) (Num.number s' w' e).val
      rw [show R - ((Num.number s w e).val + (Num.number s' w' e).val) + (Num.number s' w' e).val = R - (Num.number s w e).val by grind] at t1
      rw [hu1, two_succ] at hhalf
      grind
    have b2 : two (F.p + e) < two (F.p + F.hi) := two_lt (by omega)
    refine ⟨?_, by grind⟩
    rw [e1] at b1 ⊢
    exact rep_grid oa.2.1.1 b1
theorem fast_law (hp : 1 ≤ F.p) (hl : F.lo ≤ F.hi) (hn : near v) {a b : Num} (oa : OfF F a) (ob : OfF F b) (fa : a.fin = true) (fb : b.fin = true) (h : ab b.val ≤ ab a.val) (ft : (plusM F v a b).1.fin = true) :
    (minusM F v (plusM F v a b).1 a).1.fin = true ∧ (minusM F v b (minusM F v (plusM F v a b).1 a).1).1.fin = true ∧ (plusM F v a b).1.val + (minusM F v b (minusM F v (plusM F v a b).1 a).1).1.val = a.val + b.val := by
  have ft' := ft
  rw [plus_fin fa fb] at ft'
  have ho := near_no_ov hp hl hn ft'
  have ev : (plusM F v a b).1.val = rv F v (a.val + b.val) := by rw [plus_fin fa fb]; exact (rnd_fin hp hl ho).2.1
  obtain ⟨r1, r2⟩ := fast_rep hp hl hn oa ob fa fb h ho
  obtain ⟨r3, r4⟩ := sum_lost hp hl hn oa ob
  rw [← ev] at r1 r2 r3 r4
  have m1 : (minusM F v (plusM F v a b).1 a).1.fin = true ∧ (minusM F v (plusM F v a b).1 a).1.val = (plusM F v a b).1.val - a.val := by
    rw [minus_fin ft fa oa]
    obtain ⟨x, y, _⟩ := rnd_exact (v := v) (s := signN v (plusM F v a b).1.sg a.turned.sg) hp hl r1 r2
    exact ⟨x, y⟩
  have om : OfF F (minusM F v (plusM F v a b).1 a).1 := by
    rw [minus_fin ft fa oa]
    refine ofF_rnd hl hp ?_
    have sga : a.turned.sg = 0 ∨ a.turned.sg = 1 := by
      have := turned_ofF oa
      cases a with
      | number s w e => exact this.1
      | nothing s => exact this
      | endless s => exact this
      | none => exact .inl rfl
    unfold signN
    split
    · rename_i c; rw [c]; exact sga
    · split <;> simp
  refine ⟨m1.1, ?_⟩
  have e1 : b.val - (minusM F v (plusM F v a b).1 a).1.val = a.val + b.val - (plusM F v a b).1.val := by rw [m1.2]; grind
  have m2 : (minusM F v b (minusM F v (plusM F v a b).1 a).1).1.fin = true ∧ (minusM F v b (minusM F v (plusM F v a b).1 a).1).1.val = a.val + b.val - (plusM F v a b).1.val := by
    rw [minus_fin fb m1.1 om, e1]
    obtain ⟨x, y, _⟩ := rnd_exact (v := v) (s := signN v b.sg (minusM F v (plusM F v a b).1 a).1.turned.sg) hp hl r3 r4
    exact ⟨x, y⟩
  exact ⟨m2.1, by rw [m2.2]; grind⟩
end
end MA

/-! next numbers; ways beside one another -/
namespace MA
section
variable {F : Fmt} {v : Way} {q : Rat} {s : Int}
theorem pow_half (p : Nat) (hp : 1 ≤ p) : (2 : Int) ^ p = 2 * 2 ^ (p - 1) := by rw [← Int.pow_succ']; congr 1; omega
theorem cast_add1 (w : Int) : ((w + 1 : Int) : Rat) = (w : Rat) + 1 := by rw [Rat.intCast_add]; rfl
theorem cast_sub1 (w : Int) : ((w - 1 : Int) : Rat) = (w : Rat) - 1 := by rw [Rat.intCast_sub]; rfl
theorem val0 {w e : Int} : (Num.number 0 w e).val = (w : Rat) * two e := by rw [num_val, if_neg (by decide)]
theorem val1 {w e : Int} : (Num.number 1 w e).val = -((w : Rat) * two e) := by rw [num_val, if_pos rfl]
/-- up, and down again; nothing lies between -/
theorem next_law (hp : 2 ≤ F.p) (hl : F.lo ≤ F.hi) {a : Num} (oa : OfF F a) (fa : a.fin = true) : OfF F (nextUp F a) ∧ ((nextUp F a).fin = true → a.val < (nextUp F a).val ∧ (nextDown F (nextUp F a)).fin = true ∧ (nextDown F (nextUp F a)).val = a.val ∧ ∀ x, rep F x → a.val < x → x < (nextUp F a).val → False) ∧ ((nextUp F a).fin = false → nextUp F a = .endless 0 ∧ a.val = topV F) := by
  have hP := pow_half F.p (by omega)
  have h1 := pow_pos' (F.p - 1)
  have hP2 : (2 : Int) ≤ 2 ^ (F.p - 1) := by
    have := pow_half (F.p - 1) (by omega)
    have := pow_pos' (F.p - 1 - 1)
    omega
  have c2 : ((2 : Int) : Rat) = 2 := rfl
  cases a with
  | none => cases fa
  | endless s => cases fa
  | nothing s =>
    have t := two_pos F.lo
    have e : nextUp F (.nothing s) = .number 0 1 F.lo := rfl
    have e2 : nextDown F (.number 0 1 F.lo) = .nothing 0 := by
      show (nextUp F (.number 1 1 F.lo)).turned = _
      show (stepDown F 1 1 F.lo).turned = _
      unfold stepDown; rw [if_pos rfl]; rfl
    have ev : (Num.number 0 1 F.lo).val = two F.lo := by rw [val0]; simp
    rw [e, e2]
    refine ⟨⟨.inl rfl, ⟨Int.le_refl _, hl⟩, ⟨Int.le_refl _, by omega⟩, .inr rfl⟩, fun _ => ⟨by rw [ev]; exact t, rfl, rfl, fun x hx k1 k2 => ?_⟩, fun z => by cases z⟩
    rw [ev] at k2
    exact no_between (F := F) (u := F.lo) (m := 0) (by omega) (Int.le_refl _) (.inl rfl) hx (by rw [show ((0 : Int) : Rat) = 0 from rfl, Rat.zero_mul]; exact k1) (by rw [show ((0 : Int) : Rat) = 0 from rfl, Rat.zero_add, Rat.one_mul]; exact k2)
  | number s w e =>
    obtain ⟨hs, he, hw, hn⟩ := oa
    have t := two_pos e
    rcases hs with hs | hs <;> subst hs
    · -- above nought
      have e0 : nextUp F (.number 0 w e) = stepUp F 0 w e := rfl
      rw [e0, val0]
      unfold stepUp
      by_cases c : w + 1 < 2 ^ F.p
      · rw [if_pos c]
        have e2 : nextDown F (.number 0 (w + 1) e) = .number 0 w e := by
          show (stepDown F 1 (w + 1) e).turned = _
          unfold stepDown; rw [if_neg (by omega), if_pos (by omega), show w + 1 - 1 = w by omega]; rfl
        rw [e2, val0, val0, cast_add1]
        refine ⟨⟨.inl rfl, he, ⟨by omega, c⟩, by omega⟩, fun _ => ⟨by grind, rfl, rfl, fun x hx k1 k2 => ?_⟩, fun z => by cases z⟩
        exact no_between (F := F) (u := e) (m := w) (by omega) he.1 (by omega) hx k1 k2
      · rw [if_neg c]
        have ew : w = 2 ^ F.p - 1 := by omega
        by_cases c2 : e < F.hi
        · rw [if_pos c2]
          have e2 : nextDown F (.number 0 (2 ^ (F.p - 1)) (e + 1)) = .number 0 w e := by
            show (stepDown F 1 (2 ^ (F.p - 1)) (e + 1)).turned = _
            unfold stepDown; rw [if_neg (by omega), if_neg (by omega), show e + 1 - 1 = e by omega, ← ew]; rfl
          have ev : (Num.number 0 (2 ^ (F.p - 1)) (e + 1)).val = ((w : Rat) + 1) * two e := by
            rw [val0, two_succ, ← cast_add1, show w + 1 = 2 * 2 ^ (F.p - 1) by omega, Rat.intCast_mul]
            have : ((2 : Int) : Rat) = 2 := rfl
            grind
          rw [e2, val0 (w := w) (e := e), ev]
          refine ⟨⟨.inl rfl, ⟨by omega, by omega⟩, ⟨by omega, by omega⟩, .inl (Int.le_refl _)⟩, fun _ => ⟨by grind, rfl, rfl, fun x hx k1 k2 => ?_⟩, fun z => by cases z⟩
          exact no_between (F := F) (u := e) (m := w) (by omega) he.1 (by omega) hx k1 k2
        · rw [if_neg c2]
          refine ⟨.inl rfl, fun z => (by cases z), fun _ => ⟨rfl, ?_⟩⟩
          rw [ew, show e = F.hi by omega]; rfl
    · have e0 : nextUp F (.number 1 w e) = stepDown F 1 w e := rfl
      rw [e0, val1]
      unfold stepDown
      by_cases c : w = 1
      · rw [if_pos c]
        have el : e = F.lo := by omega
        have e2 : nextDown F (.nothing 1) = .number 1 1 F.lo := rfl
        rw [e2, val1]
        have ev : (w : Rat) * two e = two F.lo := by rw [c, el]; simp
        have tl := two_pos F.lo
        refine ⟨.inr rfl, fun _ => ⟨by rw [ev]; show _ < (0 : Rat); grind, rfl, by rw [ev]; simp, fun x hx k1 k2 => ?_⟩, fun z => by cases z⟩
        have k2' : x < 0 := k2
        exact no_between (F := F) (u := F.lo) (m := 0) (by omega) (Int.le_refl _) (.inl rfl) (rep_neg hx) (by rw [show ((0 : Int) : Rat) = 0 from rfl, Rat.zero_mul]; grind) (by rw [show ((0 : Int) : Rat) = 0 from rfl, Rat.zero_add, Rat.one_mul]; grind)
      · rw [if_neg c]
        by_cases c3 : 2 ^ (F.p - 1) < w ∨ e = F.lo
        · rw [if_pos c3]
          have e2 : nextDown F (.number 1 (w - 1) e) = .number 1 w e := by
            show (stepUp F 0 (w - 1) e).turned = _
            unfold stepUp; rw [if_pos (by omega), show w - 1 + 1 = w by omega]; rfl
          rw [e2, val1, val1, cast_sub1]
          refine ⟨⟨.inr rfl, he, ⟨by omega, by omega⟩, by omega⟩, fun _ => ⟨by grind, rfl, rfl, fun x hx k1 k2 => ?_⟩, fun z => by cases z⟩
          exact no_between (F := F) (u := e) (m := w - 1) (by omega) he.1 (by omega) (rep_neg hx) (by rw [cast_sub1]; grind) (by rw [cast_sub1]; grind)
        · rw [if_neg c3]
          have ew : w = 2 ^ (F.p - 1) := by omega
          have te : two e = 2 * two (e - 1) := by rw [← two_succ]; congr 1; omega
          have t1 := two_pos (e - 1)
          have e2 : nextDown F (.number 1 (2 ^ F.p - 1) (e - 1)) = .number 1 w e := by
            show (stepUp F 0 (2 ^ F.p - 1) (e - 1)).turned = _
            unfold stepUp; rw [if_neg (by omega), if_pos (by omega), show e - 1 + 1 = e by omega, ← ew]; rfl
          have ec : ((2 ^ F.p - 1 : Int) : Rat) = 2 * (w : Rat) - 1 := by rw [hP, ← ew, Rat.intCast_sub, Rat.intCast_mul]; rfl
          rw [e2, val1, val1, ec, te]
          refine ⟨⟨.inr rfl, ⟨by omega, by omega⟩, ⟨by omega, by omega⟩, .inl (by omega)⟩, fun _ => ⟨?_, rfl, rfl, fun x hx k1 k2 => ?_⟩, fun z => by cases z⟩
          · generalize two (e - 1) = Y at *; grind
          · exact no_between (F := F) (u := e - 1) (m := 2 ^ F.p - 1) (by omega) (by omega) (.inr (by omega)) (rep_neg hx) (by rw [ec]; generalize two (e - 1) = Y at *; grind) (by rw [ec]; generalize two (e - 1) = Y at *; grind)
theorem turned_turned {a : Num} : a.turned.turned = a := by
  cases a <;> simp [Num.turned] <;> omega
theorem down_law (hp : 2 ≤ F.p) (hl : F.lo ≤ F.hi) {a : Num} (oa : OfF F a) (fa : a.fin = true) : OfF F (nextDown F a) ∧ ((nextDown F a).fin = true → (nextDown F a).val < a.val ∧ (nextUp F (nextDown F a)).fin = true ∧ (nextUp F (nextDown F a)).val = a.val) := by
  have ot := turned_ofF oa
  obtain ⟨o, h, _⟩ := next_law hp hl ot (by rw [turned_fin]; exact fa)
  have ed : nextDown F a = (nextUp F a.turned).turned := rfl
  refine ⟨by rw [ed]; exact turned_ofF o, fun hf => ?_⟩
  rw [ed, turned_fin] at hf
  obtain ⟨h1, h2, h3, _⟩ := h hf
  rw [turned_val oa] at h1 h3
  have e3 : nextDown F (nextUp F a.turned) = (nextUp F (nextUp F a.turned).turned).turned := rfl
  rw [ed, turned_val o]
  refine ⟨by grind, ?_, ?_⟩
  · rw [e3, turned_fin] at h2; exact h2
  · have oo : OfF F (nextUp F (nextUp F a.turned).turned) := (next_law hp hl (turned_ofF o) (by rw [turned_fin]; exact hf)).1
    rw [e3, turned_val oo] at h3
    grind
end
end MA

/-! what a sum loses, by six -/
namespace MA
section
variable {F : Fmt} {v : Way} {q : Rat} {s : Int}
/-- the same form, with no end -/
def wide (F : Fmt) (h : Int) : Fmt := { F with hi := h }
theorem rv_wide (h : Int) : rv (wide F h) v q = rv F v q := rfl
theorem rA_wide (h : Int) : rA (wide F h) v q = rA F v q := rfl
theorem rep_wide (h : Int) : rep (wide F h) q = rep F q := rfl
theorem num_of_rep (hp : 1 ≤ F.p) {h : Int} (hh : F.lo ≤ h) (hq : rep F q) (hb : ab q < two (F.p + h)) : ∃ n : Num, OfF (wide F h) n ∧ n.fin = true ∧ n.val = q :=
  ⟨_, numberOf_spec (F := wide F h) hp (isRep_of (F := wide F h) hp hh hq hb)⟩
theorem bound_exists (x : Rat) : ∃ h : Int, ab x < two h := by
  by_cases c : x = 0
  · exact ⟨0, by rw [c, ab_zero]; exact two_pos 0⟩
  · exact ⟨_, (expo_spec c).2⟩
/-- by two differences: of fractions that are numbers -/
theorem fastR (hp : 1 ≤ F.p) (hn : near v) {x y : Rat} (hx : rep F x) (hy : rep F y) (h : ab y ≤ ab x) : rep F (rv F v (x + y) - x) := by
  obtain ⟨h1, b1⟩ := bound_exists x
  obtain ⟨h3, b3⟩ := bound_exists (rv F v (x + y))
  have hh : ∃ H : Int, F.lo ≤ H ∧ h1 ≤ F.p + H ∧ h3 ≤ F.p + H := ⟨max F.lo (max (h1 - F.p) (h3 - F.p)), by omega, by omega, by omega⟩
  obtain ⟨H, l0, l1, l3⟩ := hh
  have c1 : two h1 ≤ two (F.p + H) := two_le l1
  have c3 : two h3 ≤ two (F.p + H) := two_le l3
  obtain ⟨a, oa, fa, va⟩ := num_of_rep hp l0 hx (by grind)
  obtain ⟨b, ob, fb, vb⟩ := num_of_rep hp l0 hy (by grind)
  have := fast_rep (F := wide F H) (v := v) hp l0 hn oa ob fa fb (by rw [va, vb]; exact h) (by rw [va, vb, rA_wide, ← ab_rv]; show _ < two (F.p + H); grind)
  rw [va, vb] at this
  exact this.1
theorem lostR (hp : 1 ≤ F.p) (hn : near v) {x y : Rat} (hx : rep F x) (hy : rep F y) : rep F (x + y - rv F v (x + y)) := by
  obtain ⟨h1, b1⟩ := bound_exists x
  obtain ⟨h2, b2⟩ := bound_exists y
  have hh : ∃ H : Int, F.lo ≤ H ∧ h1 ≤ F.p + H ∧ h2 ≤ F.p + H := ⟨max F.lo (max (h1 - F.p) (h2 - F.p)), by omega, by omega, by omega⟩
  obtain ⟨H, l0, l1, l2⟩ := hh
  have c1 : two h1 ≤ two (F.p + H) := two_le l1
  have c2 : two h2 ≤ two (F.p + H) := two_le l2
  obtain ⟨a, oa, fa, va⟩ := num_of_rep hp l0 hx (by grind)
  obtain ⟨b, ob, fb, vb⟩ := num_of_rep hp l0 hy (by grind)
  have := sum_lost (F := wide F H) (v := v) hp l0 hn oa ob
  rw [va, vb] at this
  exact this.1
theorem nearR (hp : 1 ≤ F.p) {x y : Rat} (hx : rep F x) (hy : rep F y) (h0 : 0 < x) (h0' : 0 < y) (h1 : y ≤ 2 * x) (h2 : x ≤ 2 * y) : rep F (x - y) := by
  obtain ⟨h1', b1⟩ := bound_exists x
  obtain ⟨h2', b2⟩ := bound_exists y
  have hh : ∃ H : Int, F.lo ≤ H ∧ h1' ≤ F.p + H ∧ h2' ≤ F.p + H := ⟨max F.lo (max (h1' - F.p) (h2' - F.p)), by omega, by omega, by omega⟩
  obtain ⟨H, l0, l1, l2⟩ := hh
  have c1 : two h1' ≤ two (F.p + H) := two_le l1
  have c2 : two h2' ≤ two (F.p + H) := two_le l2
  obtain ⟨a, oa, fa, va⟩ := num_of_rep hp l0 hx (by grind)
  obtain ⟨b, ob, fb, vb⟩ := num_of_rep hp l0 hy (by grind)
  have := (near_rep (F := wide F H) l0 oa ob (by rw [va]; exact h0) (by rw [vb]; exact h0') (by rw [va, vb]; exact h1) (by rw [va, vb]; exact h2)).1
  rw [va, vb] at this
  exact this
theorem rep_ab {x : Rat} (h : rep F x) : rep F (ab x) := by unfold ab; split; exact rep_neg h; exact h
/-- by six: told, more, less; both parts are told exactly, and their sum is what was lost -/
theorem six (hp : 1 ≤ F.p) (hn : near v) {a b : Rat} (ha : rep F a) (hb : rep F b) {t m l : Rat} (ht : t = rv F v (a + b)) (hm : m = rv F v (t - a)) (hl : l = rv F v (t - m)) :
    rv F v (a - l) = a - l ∧ rv F v (b - m) = b - m ∧ rv F v ((a - l) + (b - m)) = a + b - t := by
  have rt : rep F t := by rw [ht]; exact rep_rv F v _
  have rm : rep F m := by rw [hm]; exact rep_rv F v _
  have re : rep F (a + b - t) := by rw [ht]; exact lostR hp hn ha hb
  have exact_m (h : rep F (t - a)) : rv F v (a - l) = a - l ∧ rv F v (b - m) = b - m ∧ rv F v ((a - l) + (b - m)) = a + b - t := by
    have e1 : m = t - a := by rw [hm]; exact rv_rep hp h
    have e2 : l = a := by rw [hl, e1, show t - (t - a) = a by grind]; exact rv_rep hp ha
    have e3 : b - m = a + b - t := by rw [e1]; grind
    rw [e2, Rat.sub_self, e3]
    exact ⟨rv_rep hp (rep_zero F), rv_rep hp re, by rw [show 0 + (a + b - t) = a + b - t by grind]; exact rv_rep hp re⟩
  by_cases c : ab b ≤ ab a
  · exact exact_m (by rw [ht]; exact fastR hp hn ha hb c)
  have c' : ab a < ab b := Rat.not_le.mp c
  by_cases d : ab a ≤ ab t
  · -- t - a by two differences
    have r1 : rep F (m - t) := by rw [hm, Rat.sub_eq_add_neg t a]; exact fastR hp hn rt (rep_neg ha) (by rw [ab_neg]; exact d)
    have r2 : rep F (t + -a - m) := by rw [hm, Rat.sub_eq_add_neg t a]; exact lostR hp hn rt (rep_neg ha)
    have e2 : l = t - m := by rw [hl]; exact rv_rep hp (by rw [show t - m = -(m - t) by grind]; exact rep_neg r1)
    have r3 : rep F (a - l) := by rw [e2, show a - (t - m) = -(t + -a - m) by grind]; exact rep_neg r2
    have e0 : t - a = b + -(a + b - t) := by grind
    have sm : ab (-(a + b - t)) ≤ ab b := by
      have h1 := rv_near (q := a + b) hp hn hb
      rw [show b - (a + b) = -a by grind, ab_neg, ← ht] at h1
      rw [ab_neg, ab_sub_comm]
      grind
    have r4 : rep F (m - b) := by rw [hm, e0]; exact fastR hp hn hb (rep_neg re) sm
    have r5 : rep F (b - m) := by rw [show b - m = -(m - b) by grind]; exact rep_neg r4
    refine ⟨rv_rep hp r3, rv_rep hp r5, ?_⟩
    rw [e2, show a - (t - m) + (b - m) = a + b - t by grind]
    exact rv_rep hp re
  · -- near one another: the sum loses nothing
    have d' : ab t < ab a := Rat.not_le.mp d
    have hA : ab (a + b) < ab a := by
      rw [← Rat.not_le]; intro z
      have h1 := rA_ge (v := v) (q := a + b) hp (rep_ab ha) z
      rw [← ab_rv, ← ht] at h1; grind
    have ex : rep F (a + b) := by
      by_cases s : 0 < a
      · have e := nearR (x := a) (y := -b) hp ha (rep_neg hb) s (by
          rw [ab_of_nonneg (q := a) (by grind), ab_lt] at hA
          rw [ab_of_nonneg (q := a) (by grind)] at c'
          grind) (by
          rw [ab_of_nonneg (q := a) (by grind), ab_lt] at hA
          grind) (by
          rw [ab_of_nonneg (q := a) (by grind), ab_lt] at hA
          rw [ab_of_nonneg (q := a) (by grind)] at c'
          by_cases z : b < 0
          · rw [ab_of_neg z] at c'; grind
          · rw [ab_of_nonneg (by grind)] at c'; grind)
        rw [show a - -b = a + b by grind] at e; exact e
      · by_cases s0 : a = 0
        · rw [s0, ab_zero] at hA; have := ab_nonneg (0 + b); grind
        have s' : a < 0 := by grind
        rw [ab_of_neg s', ab_lt] at hA
        rw [ab_of_neg s'] at c'
        have e := nearR (x := b) (y := -a) hp hb (rep_neg ha) (by grind) (by grind) (by
          by_cases z : b < 0
          · grind
          · rw [ab_of_nonneg (by grind)] at c'; grind) (by grind)
        rw [show b - -a = a + b by grind] at e; exact e
    have et : t = a + b := by rw [ht]; exact rv_rep hp ex
    exact exact_m (by rw [et, show a + b - a = b by grind]; exact hb)
theorem near_val (hp : 1 ≤ F.p) (hl : F.lo ≤ F.hi) (hn : near v) (h : (rnd F v q s).1.fin = true) : (rnd F v q s).1.val = rv F v q := (rnd_fin hp hl (near_no_ov hp hl hn h)).2.1
theorem six_law (hp : 1 ≤ F.p) (hl : F.lo ≤ F.hi) (hn : near v) {a b t m l x y r : Num} (oa : OfF F a) (ob : OfF F b) (fa : a.fin = true) (fb : b.fin = true)
    (ht : t = (plusM F v a b).1) (ft : t.fin = true) (hm : m = (minusM F v t a).1) (fm : m.fin = true) (om : OfF F m) (hll : l = (minusM F v t m).1) (fl : l.fin = true) (ol : OfF F l)
    (hx : x = (minusM F v a l).1) (fx : x.fin = true) (hy : y = (minusM F v b m).1) (fy : y.fin = true) (hr : r = (plusM F v x y).1) (fr : r.fin = true) : t.val + r.val = a.val + b.val := by
  have e1 : t.val = rv F v (a.val + b.val) := by
    rw [ht] at ft ⊢; rw [plus_fin fa fb] at *; exact near_val hp hl hn ft
  have e2 : m.val = rv F v (t.val - a.val) := by
    rw [hm] at fm ⊢; rw [minus_fin ft fa oa] at *; exact near_val hp hl hn fm
  have e3 : l.val = rv F v (t.val - m.val) := by
    rw [hll] at fl ⊢; rw [minus_fin ft fm om] at *; exact near_val hp hl hn fl
  have e4 : x.val = rv F v (a.val - l.val) := by
    rw [hx] at fx ⊢; rw [minus_fin fa fl ol] at *; exact near_val hp hl hn fx
  have e5 : y.val = rv F v (b.val - m.val) := by
    rw [hy] at fy ⊢; rw [minus_fin fb fm om] at *; exact near_val hp hl hn fy
  have e6 : r.val = rv F v (x.val + y.val) := by
    rw [hr] at fr ⊢; rw [plus_fin fx fy] at *; exact near_val hp hl hn fr
  obtain ⟨g1, g2, g3⟩ := six hp hn (ofF_rep oa) (ofF_rep ob) e1 e2 e3
  rw [e6, e4, e5, g1, g2, g3]
  grind
end
end MA

/-! roots -/
namespace MA
section
variable {F : Fmt} {v : Way}
/-- the step of a root -/
def rtH (F : Fmt) (p : Int) : Rat := two (rtP p / 2 - (rtMore F : Int) - 1)
theorem rtP_even (p : Int) : rtP p % 2 = 0 := by unfold rtP; split <;> omega
theorem rtH_pos (F : Fmt) (p : Int) : 0 < rtH F p := two_pos _
/-- the number whose root is asked for, in steps -/
theorem rt_sq {w p : Int} (hw : 0 ≤ w) : (w : Rat) * two p = ((rtN F w p : Nat) : Rat) * (2 * rtH F p) * (2 * rtH F p) := by
  have e1 : (w : Rat) * two p = (rtW w p : Rat) * two (rtP p) := by
    unfold rtW rtP
    by_cases c : p % 2 = 1
    · rw [if_pos c, if_pos c, Rat.intCast_mul, show p = (p - 1) + 1 by omega, two_succ, show p - 1 + 1 - 1 = p - 1 by omega]
      have : ((2 : Int) : Rat) = 2 := rfl
      grind
    · rw [if_neg c, if_neg c]
  have hW : 0 ≤ rtW w p := by unfold rtW; split <;> omega
  have e2 : ((rtN F w p : Nat) : Rat) = (rtW w p : Rat) * two (2 * (rtMore F : Int)) := by
    unfold rtN
    rw [Rat.natCast_mul, show (2 * (rtMore F : Int)) = ((2 * rtMore F : Nat) : Int) by omega, two_nat, ← Rat.intCast_natCast (rtW w p).toNat, Int.toNat_of_nonneg hW]
  have e3 : 2 * rtH F p = two (rtP p / 2 - (rtMore F : Int)) := by unfold rtH; rw [← two_succ]; congr 1; omega
  rw [e1, e2, e3, Rat.mul_assoc, Rat.mul_assoc, ← two_add, ← two_add]
  congr 2
  have := rtP_even p
  omega
theorem rtQ_eq (w p : Int) : rtQ F w p = (rtHalf F w p : Rat) * rtH F p := rfl
theorem rtQ_nonneg (w p : Int) : 0 ≤ rtQ F w p := Rat.mul_nonneg (by unfold rtHalf; exact_mod_cast (by split <;> omega)) (Rat.le_of_lt (rtH_pos F p))
theorem nn_cast {a b : Nat} (h : a ≤ b) : (a : Rat) ≤ (b : Rat) := natCast_le h
/-- what lies on the double step: not above the root, where not above what is rounded -/
theorem rt_le {w p : Int} (hw : 0 ≤ w) {k : Nat} (h : (k : Rat) * (2 * rtH F p) ≤ rtQ F w p) : ((k : Rat) * (2 * rtH F p)) * ((k : Rat) * (2 * rtH F p)) ≤ (w : Rat) * two p := by
  have t := rtH_pos F p
  have h1 : ((2 * (k : Int) : Int) : Rat) * rtH F p ≤ (rtHalf F w p : Rat) * rtH F p := by
    rw [← rtQ_eq, Rat.intCast_mul, Rat.intCast_natCast]
    have : ((2 : Int) : Rat) = 2 := rfl
    grind
  have h2 := Rat.intCast_le_intCast.mp (Rat.le_of_mul_le_mul_right h1 t)
  have h3 : k ≤ isq (rtN F w p) := by unfold rtHalf at h2; split at h2 <;> omega
  have h4 : k * k ≤ rtN F w p := Nat.le_trans (Nat.mul_le_mul h3 h3) (isq_spec _).1
  rw [rt_sq (F := F) hw]
  have h5 := nn_cast h4
  rw [Rat.natCast_mul] at h5
  have h6 : (0 : Rat) ≤ (2 * rtH F p) * (2 * rtH F p) := Rat.mul_nonneg (by grind) (by grind)
  have h7 := mul_le_r h5 h6
  grind
theorem rt_ge {w p : Int} (hw : 0 ≤ w) {k : Nat} (h : rtQ F w p ≤ (k : Rat) * (2 * rtH F p)) : (w : Rat) * two p ≤ ((k : Rat) * (2 * rtH F p)) * ((k : Rat) * (2 * rtH F p)) := by
  have t := rtH_pos F p
  have h1 : (rtHalf F w p : Rat) * rtH F p ≤ ((2 * (k : Int) : Int) : Rat) * rtH F p := by
    rw [← rtQ_eq, Rat.intCast_mul, Rat.intCast_natCast]
    have : ((2 : Int) : Rat) = 2 := rfl
    grind
  have h2 := Rat.intCast_le_intCast.mp (Rat.le_of_mul_le_mul_right h1 t)
  have h4 : rtN F w p ≤ k * k := by
    obtain ⟨s1, s2⟩ := isq_spec (rtN F w p)
    unfold rtHalf at h2
    split at h2
    · rename_i e
      have h3 : isq (rtN F w p) ≤ k := by omega
      have := Nat.mul_le_mul h3 h3
      omega
    · have h3 : isq (rtN F w p) + 1 ≤ k := by omega
      have := Nat.mul_le_mul h3 h3
      omega
  rw [rt_sq (F := F) hw]
  have h5 := nn_cast h4
  rw [Rat.natCast_mul] at h5
  have h6 : (0 : Rat) ≤ (2 * rtH F p) * (2 * rtH F p) := Rat.mul_nonneg (by grind) (by grind)
  have h7 := mul_le_r h5 h6
  grind
/-- a size on a grid that is not finer than the double step -/
theorem on_step {p : Int} {k : Nat} {e : Int} (h : rtP p / 2 - (rtMore F : Int) ≤ e) : ∃ j : Nat, (k : Rat) * two e = (j : Rat) * (2 * rtH F p) := by
  have e3 : 2 * rtH F p = two (rtP p / 2 - (rtMore F : Int)) := by unfold rtH; rw [← two_succ]; congr 1; omega
  obtain ⟨n, hn⟩ := Int.eq_ofNat_of_zero_le (show 0 ≤ e - (rtP p / 2 - (rtMore F : Int)) by omega)
  refine ⟨k * 2 ^ n, ?_⟩
  rw [e3, Rat.natCast_mul, ← two_nat, Rat.mul_assoc, ← two_add]
  congr 2; omega
theorem root_le {w p : Int} (hw : 0 ≤ w) {x : Rat} {k : Nat} {e : Int} (hx : x = (k : Rat) * two e) (he : rtP p / 2 - (rtMore F : Int) ≤ e) (h : x ≤ rtQ F w p) : x * x ≤ (w : Rat) * two p := by
  obtain ⟨j, hj⟩ := on_step (F := F) (p := p) (k := k) he
  rw [hx, hj] at h ⊢
  exact rt_le hw h
theorem root_ge {w p : Int} (hw : 0 ≤ w) {x : Rat} {k : Nat} {e : Int} (hx : x = (k : Rat) * two e) (he : rtP p / 2 - (rtMore F : Int) ≤ e) (h : rtQ F w p ≤ x) : (w : Rat) * two p ≤ x * x := by
  obtain ⟨j, hj⟩ := on_step (F := F) (p := p) (k := k) he
  rw [hx, hj] at h ⊢
  exact rt_ge hw h
end
end MA

/-! what a root leaves -/
namespace MA
section
variable {F : Fmt} {v : Way}
theorem rootM_num {w e : Int} : rootM F v (.number 0 w e) = rnd F v (rtQ F w e) 0 := by
  unfold rootM
  rw [if_neg (by simp [Num.zero]), if_neg (show ¬ (Num.number 0 w e).sg = 1 from (by decide : ¬ (0 : Int) = 1))]
theorem rtN_ge {w p : Int} (hw : 1 ≤ w) : 2 ^ rtMore F * 2 ^ rtMore F ≤ rtN F w p := by
  unfold rtN
  have h : 1 ≤ (rtW w p).toNat := by unfold rtW; split <;> omega
  have e : 2 ^ rtMore F * 2 ^ rtMore F = 2 ^ (2 * rtMore F) := by rw [← Nat.pow_add]; congr 1; omega
  rw [e]
  exact Nat.le_mul_of_pos_left _ h
theorem isq_ge {n k : Nat} (h : k * k ≤ n) : k ≤ isq n := by
  have := (isq_spec n).2
  by_cases c : k ≤ isq n
  · exact c
  · have := Nat.mul_le_mul (show isq n + 1 ≤ k by omega) (show isq n + 1 ≤ k by omega); omega
/-- the root is not below the power of two under it -/
theorem rtQ_ge {w p : Int} (hw : 1 ≤ w) : two (rtP p / 2) ≤ rtQ F w p := by
  have h1 := isq_ge (rtN_ge (F := F) (p := p) hw)
  have h2 : ((2 * (2 ^ rtMore F : Nat) : Int) : Rat) ≤ (rtHalf F w p : Rat) := ic_le (by unfold rtHalf; split <;> omega)
  rw [rtQ_eq]
  have e : two (rtP p / 2) = ((2 * (2 ^ rtMore F : Nat) : Int) : Rat) * rtH F p := by
    rw [Rat.intCast_mul, Rat.intCast_natCast, ← two_nat, rtH, show ((2 : Int) : Rat) = two 1 by rw [two_one]; rfl, ← two_add, ← two_add]
    congr 1; omega
  rw [e]
  exact mul_le_r h2 (Rat.le_of_lt (rtH_pos F p))
theorem rtQ_pos {w p : Int} (hw : 1 ≤ w) : 0 < rtQ F w p := by have := rtQ_ge (F := F) (p := p) hw; have := two_pos (rtP p / 2); grind
theorem expo_rtQ {w p : Int} (hw : 1 ≤ w) : rtP p / 2 ≤ expo (rtQ F w p) := by
  have h0 := rtQ_pos (F := F) (p := p) hw
  have h1 := rtQ_ge (F := F) (p := p) hw
  have h2 := (expo_spec (q := rtQ F w p) (by grind)).2
  rw [ab_of_nonneg (by grind)] at h2
  have : two (rtP p / 2) < two (expo (rtQ F w p) + 1) := by grind
  have := two_lt_iff.mp this
  omega
theorem unit_rtQ {w p : Int} (hw : 1 ≤ w) : rtP p / 2 - (rtMore F : Int) ≤ unitAt F (rtQ F w p) - 1 := by
  have h0 := rtQ_pos (F := F) (p := p) hw
  have h1 := expo_rtQ (F := F) (p := p) hw
  have := unit_cases F (q := rtQ F w p) (by grind)
  have : (rtMore F : Int) = 2 * F.p + 4 := by unfold rtMore; omega
  omega
theorem nat_of {k : Int} (h : 0 ≤ k) : ((k.toNat : Nat) : Rat) = (k : Rat) := by rw [← Rat.intCast_natCast, Int.toNat_of_nonneg h]
theorem root_lost (hp : 1 ≤ F.p) (hl : F.lo ≤ F.hi) (hn : near v) {w e s n t : Int} (oa : OfF F (.number 0 w e)) (ht : (rootM F v (.number 0 w e)).1 = .number s n t) (h1 : F.lo ≤ 2 * t) (h2 : 2 * t ≤ e) :
    rep F ((Num.number 0 w e).val - (Num.number s n t).val * (Num.number s n t).val) ∧ ab ((Num.number 0 w e).val - (Num.number s n t).val * (Num.number s n t).val) < two (F.p + F.hi) := by
  rw [rootM_num] at ht
  have hw := oa.2.2.1
  have q0 := rtQ_pos (F := F) (p := e) hw.1
  have fin : (rnd F v (rtQ F w e) 0).1.fin = true := by rw [ht]; rfl
  have ho := near_no_ov hp hl hn fin
  have hu := (rnd_num_ex hp hl ht ho).2
  have hT : (Num.number s n t).val = rv F v (rtQ F w e) := by rw [← ht]; exact (rnd_fin hp hl ho).2.1
  have ot : OfF F (.number s n t) := by rw [← ht]; exact ofF_rnd hl hp (.inl rfl)
  have hs : s = 0 := by
    have h := num_neg_val (w := n) (e := t) ot.2.2.1.1 ot.1
    rw [hT] at h
    have := rv_nonneg (F := F) (v := v) (x := rtQ F w e) (by grind)
    rw [if_neg (by grind)] at h
    exact h.symm
  subst hs
  have hn1 := ot.2.2.1
  have hg := unit_rtQ (F := F) (p := e) hw.1
  have hh := rv_half (F := F) (q := rtQ F w e) hn
  rw [← hT, val0] at hh
  generalize hU : unitAt F (rtQ F w e) = u at *
  obtain ⟨d, hd⟩ := Int.eq_ofNat_of_zero_le (show 0 ≤ t - (u - 1) by omega)
  have eT : (n : Rat) * two t = ((n * 2 ^ d : Int) : Rat) * two (u - 1) := by
    rw [Rat.intCast_mul, cast_pow, Rat.mul_assoc, ← two_add, show (d : Int) + (u - 1) = t by omega]
  have hnd : 1 ≤ n * 2 ^ d := by have := pow_pos' d; exact Int.mul_pos hn1.1 this
  have tu := two_pos (u - 1)
  have tuu : two u = 2 * two (u - 1) := by rw [← two_succ]; congr 1; omega
  have hab := ab_le.mp (show ab ((n : Rat) * two t - rtQ F w e) ≤ two (u - 1) by grind)
  have L := root_le (F := F) (w := w) (p := e) (x := (n : Rat) * two t - two (u - 1)) (k := (n * 2 ^ d - 1).toNat) (e := u - 1) (by omega) (by rw [nat_of (by omega), cast_sub1, eT]; grind) hg (by grind)
  have R := root_ge (F := F) (w := w) (p := e) (x := (n : Rat) * two t + two (u - 1)) (k := (n * 2 ^ d + 1).toNat) (e := u - 1) (by omega) (by rw [nat_of (by omega), cast_add1, eT]; grind) hg (by grind)
  rw [val0, val0]
  obtain ⟨j, hj⟩ := grid_up (k := w) h2
  have eS : (n : Rat) * two t * ((n : Rat) * two t) = ((n * n : Int) : Rat) * two (2 * t) := by
    rw [Rat.intCast_mul, show 2 * t = t + t by omega, two_add]; grind
  have eD : (w : Rat) * two e - (n : Rat) * two t * ((n : Rat) * two t) = ((j - n * n : Int) : Rat) * two (2 * t) := by rw [hj, eS, grid_sub]
  have far : ab ((w : Rat) * two e - (n : Rat) * two t * ((n : Rat) * two t)) ≤ ((n : Rat) + 1 / 4) * two (2 * t) := by
    have t2 : two (2 * t) = two t * two t := by rw [← two_add]; congr 1; omega
    have p1 := two_pos t
    have ht1 : two (u - 1) ≤ two (t - 1) := two_le (by omega)
    have ht2 : two t = 2 * two (t - 1) := by rw [← two_succ]; congr 1; omega
    have n0 : (0 : Rat) ≤ (n : Rat) := by exact_mod_cast (show (0 : Int) ≤ n by omega)
    have a1 : (n : Rat) * two t * two (u - 1) ≤ (n : Rat) * two t * two (t - 1) := Rat.mul_le_mul_of_nonneg_left ht1 (Rat.mul_nonneg n0 (Rat.le_of_lt p1))
    have a2 : two (u - 1) * two (u - 1) ≤ two (t - 1) * two (t - 1) := by
      have b1 := mul_le_r ht1 (Rat.le_of_lt tu)
      have b2 := Rat.mul_le_mul_of_nonneg_left ht1 (Rat.le_of_lt (two_pos (t - 1)))
      grind
    rw [t2, ab_le]
    have z2 : 0 ≤ two (u - 1) * two (u - 1) := Rat.mul_nonneg (Rat.le_of_lt tu) (Rat.le_of_lt tu)
    clear hab hh tuu eT eS eD hj
    generalize two (t - 1) = Y at *
    generalize two t = X at *
    generalize two (u - 1) = Z at *
    generalize (w : Rat) * two e = A at *
    subst ht2
    generalize (n : Rat) = M at *
    constructor <;> grind
  have hjn : (j - n * n).natAbs ≤ n := by
    rw [eD, ab_cast] at far
    have h3 := Rat.le_of_mul_le_mul_right far (two_pos (2 * t))
    have h4 : (((j - n * n).natAbs : Int) : Rat) < ((n + 1 : Int) : Rat) := by rw [cast_add1]; grind
    have := Rat.intCast_lt_intCast.mp h4
    omega
  have hb : ab ((w : Rat) * two e - (n : Rat) * two t * ((n : Rat) * two t)) < two (F.p + 2 * t) := by
    rw [eD]; exact parts_lt (F := F) (by omega) (by omega)
  have hc : two (F.p + 2 * t) ≤ two (F.p + F.hi) := two_le (by have := oa.2.1.2; omega)
  refine ⟨?_, by grind⟩
  rw [eD] at hb ⊢
  exact rep_grid h1 (Rat.le_of_lt hb)
end
end MA
namespace MA
theorem pos_num {F : Fmt} {a : Num} (oa : OfF F a) (fa : a.fin = true) (h : 0 < a.val) : ∃ w e, a = .number 0 w e := by
  cases a with
  | number s w e =>
    have h1 := num_neg_val (w := w) (e := e) oa.2.2.1.1 oa.1
    rw [if_neg (by grind)] at h1
    exact ⟨w, e, by rw [← h1]⟩
  | nothing s => exact absurd h (by show ¬ (0 : Rat) < 0; decide)
  | endless s => cases fa
  | none => cases fa
theorem ofF_root {F : Fmt} {v : Way} {a : Num} (hp : 1 ≤ F.p) (hl : F.lo ≤ F.hi) (oa : OfF F a) : OfF F (rootM F v a).1 := by
  unfold rootM
  split
  · exact oa
  · split
    · trivial
    · split
      · exact ofF_rnd hl hp (.inl rfl)
      · trivial
end MA

/-! roots of squares -/
namespace MA
section
variable {F : Fmt} {v : Way}
theorem sq_le {x y : Rat} (h0 : 0 ≤ x) (h : x ≤ y) : x * x ≤ y * y := by
  have h1 := mul_le_r h h0
  have h2 := Rat.mul_le_mul_of_nonneg_left h (show 0 ≤ y by grind)
  grind
theorem sq_lt {x y : Rat} (h0 : 0 ≤ x) (h : x < y) : x * x < y * y := by
  have h1 := mul_le_r (Rat.le_of_lt h) h0
  have h2 := mul_lt_r h (show 0 < y by grind)
  grind
theorem two_sq (e : Int) : two e * two e = two (2 * e) := by rw [← two_add]; congr 1; omega
theorem rep_two (F : Fmt) {j : Int} (h : F.lo ≤ j) : rep F (two j) := ⟨1, j, by simp, h, by have := pow_pos' F.p; omega, by have := pow_pos' F.p; omega⟩
/-- the size of a number, its square, and what the square is told as -/
structure Sq (F : Fmt) (v : Way) (w e : Int) (y : Rat) : Prop where
  hp : 2 ≤ F.p
  hn : near v
  oa : OfF F (.number 0 w e)
  hK : (F.p : Int) - 1 + F.lo ≤ 0
  ey : y = rv F v ((w : Rat) * two e * ((w : Rat) * two e))
  hL : two (F.p - 1 + F.lo) ≤ y
theorem Sq.pos {w e : Int} {y : Rat} (h : Sq F v w e y) : 0 < (w : Rat) * two e := Rat.mul_pos (by have := h.oa.2.2.1.1; exact_mod_cast (show (0 : Int) < w by omega)) (two_pos e)
theorem Sq.repA {w e : Int} {y : Rat} (h : Sq F v w e y) : rep F ((w : Rat) * two e) := by rw [← val0]; exact ofF_rep h.oa
theorem Sq.full {w e : Int} {y : Rat} (h : Sq F v w e y) : 2 ^ (F.p - 1) ≤ w := by
  have hp1 : 1 ≤ F.p := by have := h.hp; omega
  rcases h.oa.2.2.2 with c | c
  · exact c
  rw [← Int.not_lt]; intro z
  have A0 := h.pos
  have e1 : (w : Rat) * two e < two (F.p - 1 + F.lo) := by
    rw [c, two_add, show ((F.p : Int) - 1) = ((F.p - 1 : Nat) : Int) by omega]
    exact mul_lt_r (by rw [← cast_pow]; exact ic_lt z) (two_pos _)
  have e2 : two (F.p - 1 + F.lo) ≤ 1 := by rw [← two_zero]; exact two_le h.hK
  have e3 : (w : Rat) * two e * ((w : Rat) * two e) ≤ (w : Rat) * two e := by
    have := mul_le_r (show (w : Rat) * two e ≤ 1 by grind) (Rat.le_of_lt A0)
    grind
  have e4 := rv_le (v := v) hp1 h.repA e3
  have := h.hL
  rw [h.ey] at this
  grind
theorem Sq.bounds {w e : Int} {y : Rat} (h : Sq F v w e y) : two (F.p - 1 + e) ≤ (w : Rat) * two e ∧ (w : Rat) * two e ≤ two (F.p + e) - two e := by
  have hp1 : 1 ≤ F.p := by have := h.hp; omega
  constructor
  · rw [two_add, show ((F.p : Int) - 1) = ((F.p - 1 : Nat) : Int) by omega]
    exact mul_le_r (by rw [← cast_pow]; exact ic_le h.full) (Rat.le_of_lt (two_pos _))
  · have := num_ab_le h.oa
    rw [ab_num_val (by have := h.oa.2.2.1; omega)] at this
    exact this
/-- how far the square is told from what it is -/
theorem Sq.near {w e : Int} {y : Rat} (h : Sq F v w e y) : ab (y - (w : Rat) * two e * ((w : Rat) * two e)) ≤ two (F.p - 1 + 2 * e) := by
  have hp1 : 1 ≤ F.p := by have := h.hp; omega
  have A0 := h.pos
  obtain ⟨b1, b2⟩ := h.bounds
  have te := two_pos e
  have hs : (w : Rat) * two e * ((w : Rat) * two e) < two (2 * F.p + 2 * e) := by
    have := sq_lt (Rat.le_of_lt A0) (show (w : Rat) * two e < two (F.p + e) by grind)
    rw [two_sq, show 2 * ((F.p : Int) + e) = 2 * F.p + 2 * e by omega] at this
    exact this
  have s0 : 0 < (w : Rat) * two e * ((w : Rat) * two e) := Rat.mul_pos A0 A0
  have hh := rv_half (F := F) (q := (w : Rat) * two e * ((w : Rat) * two e)) h.hn
  rw [← h.ey] at hh
  have hx := expo_lt (j := 2 * F.p + 2 * e) (q := (w : Rat) * two e * ((w : Rat) * two e)) (by grind) (by rw [ab_of_nonneg (by grind)]; exact hs)
  have tt (k : Int) : two k = 2 * two (k - 1) := by rw [← two_succ]; congr 1; omega
  have fin (hu : unitAt F ((w : Rat) * two e * ((w : Rat) * two e)) ≤ F.p + 2 * e) : ab (y - (w : Rat) * two e * ((w : Rat) * two e)) ≤ two (F.p - 1 + 2 * e) := by
    have h1 := two_le hu
    rw [tt (F.p + 2 * e), show (F.p : Int) + 2 * e - 1 = F.p - 1 + 2 * e by omega] at h1
    grind
  rcases unit_cases F (q := (w : Rat) * two e * ((w : Rat) * two e)) (by grind) with ⟨c, _⟩ | ⟨c, _⟩
  · by_cases d : F.lo ≤ F.p + 2 * e
    · exact fin (by omega)
    exfalso
    have hL := h.hL
    by_cases d2 : F.lo = F.p + 2 * e + 1
    · -- just above: rounded up too far
      rw [c, tt F.lo] at hh
      have l1 := (ab_le.mp (show ab (y - (w : Rat) * two e * ((w : Rat) * two e)) ≤ two (F.lo - 1) by grind)).2
      have eL : two (F.p - 1 + F.lo) = two (F.p + e) * two (F.p + e) := by rw [two_sq]; congr 1; omega
      have eM : two (F.lo - 1) = two (F.p + e) * two e := by rw [← two_add]; congr 1; omega
      have sq := sq_le (Rat.le_of_lt A0) b2
      have hP : two e + two e ≤ two (F.p + e) := by
        have := two_le (a := e + 1) (b := F.p + e) (by omega)
        rw [two_succ] at this; grind
      have m1 := Rat.mul_le_mul_of_nonneg_left hP (Rat.le_of_lt te)
      have m2 : 0 < two e * two e := Rat.mul_pos te te
      rw [eL] at hL
      rw [eM] at l1
      generalize two (F.p + e) = X at *
      generalize two e = Y at *
      grind
    · have l2 := two_le (a := 2 * F.p + 2 * e) (b := F.p - 2 + F.lo) (by omega)
      have r := rv_le (v := v) (q := (w : Rat) * two e * ((w : Rat) * two e)) hp1 (rep_two F (j := F.p - 2 + F.lo) (by have := h.hp; omega)) (by grind)
      rw [← h.ey] at r
      have := two_lt (a := F.p - 2 + F.lo) (b := F.p - 1 + F.lo) (by omega)
      grind
  · exact fin (by omega)
/-- a power of two: its square is told exactly -/
theorem Sq.pow {w e : Int} {y : Rat} (h : Sq F v w e y) (c : w = 2 ^ (F.p - 1)) : y = (w : Rat) * two e * ((w : Rat) * two e) := by
  have hp1 : 1 ≤ F.p := by have := h.hp; omega
  have e1 : (w : Rat) * two e = two (F.p - 1 + e) := by rw [c, cast_pow, ← two_add]; congr 1; omega
  rw [h.ey, e1, two_sq]
  by_cases d : F.lo ≤ 2 * (F.p - 1 + e)
  · exact rv_rep hp1 (rep_two F d)
  · exfalso
    have hL := h.hL
    have r := rv_le (v := v) (q := (w : Rat) * two e * ((w : Rat) * two e)) hp1 (rep_two F (j := F.lo) (Int.le_refl _)) (by rw [e1, two_sq]; exact two_le (by omega))
    rw [← h.ey] at r
    have := two_lt (a := F.lo) (b := F.p - 1 + F.lo) (by have := h.hp; omega)
    grind
/-- the root of what is no less than the told square is no less than the number -/
theorem Sq.low {w e : Int} {y : Rat} (h : Sq F v w e y) {z p : Int} (hz : 1 ≤ z) (hy : y ≤ (z : Rat) * two p) : (w : Rat) * two e ≤ rv F v (rtQ F z p) := by
  have hp1 : 1 ≤ F.p := by have := h.hp; omega
  have A0 := h.pos
  have te := two_pos e
  obtain ⟨b1, b2⟩ := h.bounds
  have hmore : (rtMore F : Int) = 2 * F.p + 4 := by unfold rtMore; omega
  have hf := h.full
  have hf0 := pow_pos' (F.p - 1)
  have tt : two e = 2 * two (e - 1) := by rw [← two_succ]; congr 1; omega
  by_cases g : rtP p / 2 - (rtMore F : Int) ≤ e - 2
  · -- fine enough
    by_cases q1 : (w : Rat) * two e ≤ rtQ F z p
    · exact rv_ge hp1 h.repA q1
    have q1' : rtQ F z p < (w : Rat) * two e := Rat.not_le.mp q1
    have nr := rv_near (q := rtQ F z p) hp1 h.hn h.repA
    rw [ab_of_nonneg (q := (w : Rat) * two e - rtQ F z p) (by grind)] at nr
    by_cases c : w = 2 ^ (F.p - 1)
    · have ey := h.pow c
      have hlow : (w : Rat) * two e - two (e - 2) < rtQ F z p := by
        rw [← Rat.not_le]; intro q2
        have t2 := two_pos (e - 2)
        have te2 : two e = 4 * two (e - 2) := by rw [tt, show two (e - 1) = 2 * two (e - 2) by rw [← two_succ]; congr 1; omega]; grind
        have w1 : (1 : Rat) ≤ (w : Rat) := by exact_mod_cast (show (1 : Int) ≤ w by omega)
        have := root_ge (F := F) (w := z) (p := p) (x := (w : Rat) * two e - two (e - 2)) (k := (4 * w - 1).toNat) (e := e - 2) (by omega) (by rw [nat_of (by omega), Rat.intCast_sub, Rat.intCast_mul, te2]; have : ((4 : Int) : Rat) = 4 := rfl; have : ((1 : Int) : Rat) = 1 := rfl; grind) g q2
        have hx : (w : Rat) * two e - two (e - 2) < (w : Rat) * two e := by grind
        have hx0 : 0 ≤ (w : Rat) * two e - two (e - 2) := by
          have := mul_le_r w1 (Rat.le_of_lt te); rw [te2] at this ⊢; grind
        have := sq_lt hx0 hx
        grind
      have t2 := two_pos (e - 2)
      have te2 : two (e - 1) = 2 * two (e - 2) := by rw [← two_succ]; congr 1; omega
      have nr' := ab_le.mp nr
      have := only_near hp1 (x := rv F v (rtQ F z p)) h.oa (rep_rv F v _) (by rw [ab_lt]; grind)
      grind
    · -- the middle below
      have hlow : (w : Rat) * two e - two (e - 1) < rtQ F z p := by
        rw [← Rat.not_le]; intro q2
        have t1 := two_pos (e - 1)
        have w1 : (1 : Rat) ≤ (w : Rat) := by exact_mod_cast (show (1 : Int) ≤ w by omega)
        have r := root_ge (F := F) (w := z) (p := p) (x := (w : Rat) * two e - two (e - 1)) (k := (2 * w - 1).toNat) (e := e - 1) (by omega) (by rw [nat_of (by omega), Rat.intCast_sub, Rat.intCast_mul, tt]; have : ((2 : Int) : Rat) = 2 := rfl; have : ((1 : Int) : Rat) = 1 := rfl; grind) (by omega) q2
        have hn := (ab_le.mp h.near).1
        have b3 : two (F.p - 1 + e) + two e ≤ (w : Rat) * two e := by
          have e5 : two (F.p - 1 + e) + two e = ((2 ^ (F.p - 1) + 1 : Int) : Rat) * two e := by
            rw [Rat.intCast_add, cast_pow, two_add, show ((F.p : Int) - 1) = ((F.p - 1 : Nat) : Int) by omega]
            have : ((1 : Int) : Rat) = 1 := rfl
            grind
          rw [e5]
          exact mul_le_r (ic_le (by omega)) (Rat.le_of_lt te)
        have b4 := mul_le_r b3 (Rat.le_of_lt te)
        have e6 : two (F.p - 1 + 2 * e) = two (F.p - 1 + e) * two e := by rw [← two_add]; congr 1; omega
        rw [e6] at hn
        generalize two (F.p - 1 + e) = B at *
        generalize two (e - 1) = D at *
        generalize (w : Rat) * two e = A at *
        generalize two e = X at *
        subst tt
        have d2 : 0 < D * D := Rat.mul_pos t1 t1
        grind
      have nr' := ab_le.mp nr
      rw [← Rat.not_lt]; intro q3
      exact no_between (F := F) (u := e) (m := w - 1) hp1 h.oa.2.1.1 (.inr (by omega)) (rep_rv F v (rtQ F z p)) (by rw [cast_sub1]; grind) (by rw [cast_sub1]; grind)
  · -- far above
    have r := rtQ_ge (F := F) (p := p) hz
    have := two_le (a := F.p + e) (b := rtP p / 2) (by omega)
    exact rv_ge hp1 h.repA (by grind)
/-- the root of the told square is no more than the number -/
theorem Sq.high {w e : Int} {y : Rat} (h : Sq F v w e y) {z p : Int} (hz : 1 ≤ z) (hy : y = (z : Rat) * two p) : rv F v (rtQ F z p) ≤ (w : Rat) * two e := by
  have hp1 : 1 ≤ F.p := by have := h.hp; omega
  have A0 := h.pos
  have te := two_pos e
  have t1 := two_pos (e - 1)
  obtain ⟨b1, b2⟩ := h.bounds
  have hmore : (rtMore F : Int) = 2 * F.p + 4 := by unfold rtMore; omega
  have hf := h.full
  have hf0 := pow_pos' (F.p - 1)
  have tt : two e = 2 * two (e - 1) := by rw [← two_succ]; congr 1; omega
  have hn := (ab_le.mp h.near).2
  have e6 : two (F.p - 1 + 2 * e) = two (F.p - 1 + e) * two e := by rw [← two_add]; congr 1; omega
  rw [e6] at hn
  have up : y < ((w : Rat) * two e + two (e - 1)) * ((w : Rat) * two e + two (e - 1)) := by
    have b4 := mul_le_r b1 (Rat.le_of_lt te)
    have d2 : 0 < two (e - 1) * two (e - 1) := Rat.mul_pos t1 t1
    generalize two (F.p - 1 + e) = B at *
    generalize two (e - 1) = D at *
    generalize (w : Rat) * two e = A at *
    generalize two e = X at *
    subst tt
    grind
  have g : rtP p / 2 - (rtMore F : Int) ≤ e - 1 := by
    have z1 : two p ≤ (z : Rat) * two p := by
      have := mul_le_r (show (1 : Rat) ≤ (z : Rat) by exact_mod_cast hz) (Rat.le_of_lt (two_pos p)); grind
    have s := sq_lt (x := (w : Rat) * two e + two (e - 1)) (y := two (F.p + e)) (by grind) (by grind)
    rw [two_sq] at s
    have l : two p < two (2 * (F.p + e)) := by grind
    have := two_lt_iff.mp l
    have : rtP p ≤ p := by unfold rtP; split <;> omega
    omega
  have hup : rtQ F z p < (w : Rat) * two e + two (e - 1) := by
    rw [← Rat.not_le]; intro q2
    have r := root_le (F := F) (w := z) (p := p) (x := (w : Rat) * two e + two (e - 1)) (k := (2 * w + 1).toNat) (e := e - 1) (by omega) (by rw [nat_of (by omega), Rat.intCast_add, Rat.intCast_mul, tt]; have : ((2 : Int) : Rat) = 2 := rfl; have : ((1 : Int) : Rat) = 1 := rfl; grind) g q2
    grind
  by_cases q1 : rtQ F z p ≤ (w : Rat) * two e
  · exact rv_le hp1 h.repA q1
  have nr := rv_near (q := rtQ F z p) hp1 h.hn h.repA
  have q1' := Rat.not_le.mp q1
  rw [ab_sub_comm ((w : Rat) * two e), ab_of_nonneg (q := rtQ F z p - (w : Rat) * two e) (by grind)] at nr
  have nr' := ab_le.mp nr
  rw [← Rat.not_lt]; intro q3
  exact no_between (F := F) (u := e) (m := w) hp1 h.oa.2.1.1 (.inr (by omega)) (rep_rv F v (rtQ F z p)) q3 (by grind)
end
end MA

namespace MA
section
variable {F : Fmt} {v : Way}
theorem leastFull_val : (leastFull F).val = two (F.p - 1 + F.lo) ∨ F.p = 0 := by
  by_cases c : F.p = 0
  · exact .inr c
  · left
    unfold leastFull
    rw [val0, cast_pow, ← two_add]
    congr 1; omega
theorem root_noov (hp : 2 ≤ F.p) (hl : F.lo ≤ 0) (hh : 0 < F.hi) {z p : Int} (oz : OfF F (.number 0 z p)) : rA F v (rtQ F z p) < two (F.p + F.hi) := by
  have q0 := rtQ_pos (F := F) (p := p) oz.2.2.1.1
  have hmore : (rtMore F : Int) = 2 * F.p + 4 := by unfold rtMore; omega
  have hpp := oz.2.1.2
  have rp : rtP p ≤ p := by unfold rtP; split <;> omega
  have hq : rtQ F z p ≤ two ((F.p + F.hi + 1) / 2) := by
    rw [← Rat.not_lt]; intro c
    have r := root_le (F := F) (w := z) (p := p) (x := two ((F.p + F.hi + 1) / 2)) (k := 1) (e := (F.p + F.hi + 1) / 2) (by have := oz.2.2.1.1; omega) (by rw [show ((1 : Nat) : Rat) = 1 from rfl, Rat.one_mul]) (by omega) (Rat.le_of_lt c)
    rw [two_sq] at r
    have h1 := num_ab_lt oz
    rw [ab_num_val (by have := oz.2.2.1.1; omega)] at h1
    have h2 : two (F.p + p) ≤ two (2 * ((F.p + F.hi + 1) / 2)) := two_le (by omega)
    grind
  have r := rA_le (v := v) (q := rtQ F z p) (by omega) (rep_two F (j := (F.p + F.hi + 1) / 2) (by omega)) (by rw [ab_of_nonneg (by grind)]; exact hq)
  have := two_lt (a := (F.p + F.hi + 1) / 2) (b := F.p + F.hi) (by omega)
  grind
theorem sq_of (hp : 2 ≤ F.p) (hl : F.lo ≤ F.hi) (hK : (F.p : Int) - 1 + F.lo ≤ 0) (hn : near v) {a : Num} (oa : OfF F a) (fa : a.fin = true) (ft : (productM F v a a).1.fin = true) (hL : ¬ (productM F v a a).1.val < (leastFull F).val) :
    ∃ w e : Int, ab a.val = (w : Rat) * two e ∧ Sq F v w e (productM F v a a).1.val ∧ 0 < (productM F v a a).1.val := by
  have hL' : two (F.p - 1 + F.lo) ≤ (productM F v a a).1.val := by
    rcases leastFull_val (F := F) with h | h
    · rw [← h]; exact Rat.not_lt.mp hL
    · omega
  have tp := two_pos (F.p - 1 + F.lo)
  have ev : (productM F v a a).1.val = rv F v (a.val * a.val) := by
    rw [product_fin fa fa] at ft ⊢
    exact near_val (by omega) hl hn ft
  have za : a.val ≠ 0 := fun z => by rw [ev, z, Rat.mul_zero, rv_zero] at hL'; grind
  obtain ⟨s, w, e, rfl⟩ := fin_num fa (eq_false_of_ne_true fun z => za (zero_val z))
  refine ⟨w, e, ab_num_val (by have := oa.2.2.1; omega), ⟨hp, hn, ⟨.inl rfl, oa.2⟩, hK, ?_, hL'⟩, by grind⟩
  rw [ev]
  congr 1
  rw [num_val]; split <;> grind
theorem square_law (hp : 2 ≤ F.p) (hl : F.lo ≤ F.hi) (hl0 : F.lo ≤ 0) (hh : 0 < F.hi) (hK : (F.p : Int) - 1 + F.lo ≤ 0) (hn : near v) {a : Num} (oa : OfF F a) (fa : a.fin = true) (ft : (productM F v a a).1.fin = true) (hL : ¬ (productM F v a a).1.val < (leastFull F).val) :
    (rootM F v (productM F v a a).1).1.fin = true ∧ (rootM F v (productM F v a a).1).1.val = ab a.val := by
  obtain ⟨w, e, ea, sq, h0⟩ := sq_of hp hl hK hn oa fa ft hL
  have ot : OfF F (productM F v a a).1 := by rw [product_fin fa fa]; exact ofF_rnd hl (by omega) (by omega)
  obtain ⟨z, p, ez⟩ := pos_num ot ft h0
  rw [ez] at ot sq ⊢
  rw [rootM_num]
  have hz := ot.2.2.1.1
  obtain ⟨g1, g2, _⟩ := rnd_fin (v := v) (s := 0) (by omega) hl (root_noov (v := v) hp hl0 hh ot)
  refine ⟨g1, ?_⟩
  rw [g2, ea]
  exact Rat.le_antisymm (sq.high hz val0) (sq.low hz (by rw [val0]; exact Rat.le_refl))
theorem long_law (hp : 2 ≤ F.p) (hl : F.lo ≤ F.hi) (hl0 : F.lo ≤ 0) (hh : 0 < F.hi) (hK : (F.p : Int) - 1 + F.lo ≤ 0) (hn : near v) {a b : Num} (oa : OfF F a) (fa : a.fin = true) (ob : OfF F b) (fb : b.fin = true)
    (fta : (productM F v a a).1.fin = true) (hLa : ¬ (productM F v a a).1.val < (leastFull F).val) (ftb : (productM F v b b).1.fin = true) (hLb : ¬ (productM F v b b).1.val < (leastFull F).val) (fw : (plusM F v (productM F v a a).1 (productM F v b b).1).1.fin = true) :
    (rootM F v (plusM F v (productM F v a a).1 (productM F v b b).1).1).1.fin = true ∧ ab a.val ≤ (rootM F v (plusM F v (productM F v a a).1 (productM F v b b).1).1).1.val ∧ ab b.val ≤ (rootM F v (plusM F v (productM F v a a).1 (productM F v b b).1).1).1.val := by
  obtain ⟨w, e, ea, sqa, ha0⟩ := sq_of hp hl hK hn oa fa fta hLa
  obtain ⟨w', e', eb, sqb, hb0⟩ := sq_of hp hl hK hn ob fb ftb hLb
  have opa : OfF F (productM F v a a).1 := by rw [product_fin fa fa]; exact ofF_rnd hl (by omega) (by omega)
  have opb : OfF F (productM F v b b).1 := by rw [product_fin fb fb]; exact ofF_rnd hl (by omega) (by omega)
  have ev : (plusM F v (productM F v a a).1 (productM F v b b).1).1.val = rv F v ((productM F v a a).1.val + (productM F v b b).1.val) := by
    rw [plus_fin fta ftb] at fw ⊢
    exact near_val (by omega) hl hn fw
  have wa : (productM F v a a).1.val ≤ (plusM F v (productM F v a a).1 (productM F v b b).1).1.val := by
    rw [ev]; exact rv_ge (by omega) (ofF_rep opa) (by grind)
  have wb : (productM F v b b).1.val ≤ (plusM F v (productM F v a a).1 (productM F v b b).1).1.val := by
    rw [ev]; exact rv_ge (by omega) (ofF_rep opb) (by grind)
  have ow : OfF F (plusM F v (productM F v a a).1 (productM F v b b).1).1 := by
    rw [plus_fin fta ftb]
    refine ofF_rnd hl (by omega) ?_
    have sg : (productM F v a a).1.sg = 0 ∨ (productM F v a a).1.sg = 1 := by
      generalize (productM F v a a).1 = n at *
      cases n with
      | number s w e => exact opa.1
      | nothing s => exact opa
      | endless s => exact opa
      | none => exact .inl rfl
    unfold signN
    split
    · exact sg
    · split <;> simp
  obtain ⟨z, p, ez⟩ := pos_num ow fw (by grind)
  rw [ez] at ow wa wb ⊢
  rw [rootM_num]
  have hz := ow.2.2.1.1
  rw [val0] at wa wb
  obtain ⟨g1, g2, _⟩ := rnd_fin (v := v) (s := 0) (by omega) hl (root_noov (v := v) hp hl0 hh ow)
  rw [g2, ea, eb]
  exact ⟨g1, sqa.low hz wa, sqb.low hz wb⟩
theorem sized_law {a : Num} (oa : OfF F a) (fa : a.fin = true) : OfF F a.sized ∧ a.sized.fin = true ∧ a.sized.val = ab a.val := by
  cases a with
  | number s w e => exact ⟨⟨.inl rfl, oa.2⟩, rfl, by rw [ab_num_val (by have := oa.2.2.1; omega)]; exact val0⟩
  | nothing s => exact ⟨.inl rfl, rfl, ab_zero.symm⟩
  | endless s => cases fa
  | none => cases fa
end
end MA
namespace MA
/-! ### sides and signs -/
section
variable {F : Fmt} {v : Way} {q : Rat}
theorem m2_neg (h : q ≠ 0) : m2 F v.flip (-q) = m2 F v q := by unfold m2; rw [rndW_neg h]
theorem u2_neg (h : q ≠ 0) : u2 F v.flip (-q) = u2 F v q := by unfold u2; rw [rndW_neg h, unit_neg]
theorem beyond_neg {s : Int} (hs : s = 0 ∨ s = 1) : beyond F v.flip (1 - s) = (beyond F v s).turned := by
  rcases hs with c | c <;> subst c <;> cases v <;> simp [beyond, Way.flip, Num.turned]
theorem rnd_neg (h : q ≠ 0) {s s' : Int} : rnd F v.flip (-q) s' = ((rnd F v q s).1.turned, (rnd F v q s).2) := by
  have h' : -q ≠ 0 := fun z => h (by have := congrArg Neg.neg z; simpa using this)
  have ho : (if -q < 0 then (1 : Int) else 0) = 1 - (if q < 0 then 1 else 0) := by
    by_cases c : q < 0
    · rw [if_pos c, if_neg (by grind)]; rfl
    · rw [if_neg c, if_pos (by grind)]; rfl
  have hm : marksOf F (-q) (rest F (-q)) = marksOf F q (rest F q) := by unfold marksOf; rw [rest_neg, ab_neg]
  rw [rnd_eq h, rnd_eq h', m2_neg h, u2_neg h, ho, hm, beyond_neg own01]
  split
  · rfl
  · split <;> rfl
theorem signN_comm {a b : Int} : signN v a b = signN v b a := by
  unfold signN
  by_cases c : a = b
  · rw [if_pos c, if_pos c.symm, c]
  · rw [if_neg c, if_neg (fun z : b = a => c z.symm)]
theorem swap_law {a b : Num} (oa : OfF F a) (ob : OfF F b) (fa : a.fin = true) (fb : b.fin = true) : plusM F v a b = plusM F v b a ∧ productM F v a b = productM F v b a ∧
    (a.val + b.val ≠ 0 → plusM F v.flip a.turned b.turned = ((plusM F v a b).1.turned, (plusM F v a b).2)) ∧ productM F v.flip a.turned b = ((productM F v a b).1.turned, (productM F v a b).2) := by
  have fa' : a.turned.fin = true := by rw [turned_fin]; exact fa
  have fb' : b.turned.fin = true := by rw [turned_fin]; exact fb
  rw [plus_fin fa fb, plus_fin fb fa, product_fin fa fb, product_fin fb fa, plus_fin fa' fb', product_fin fa' fb, turned_val oa, turned_val ob]
  refine ⟨by rw [Rat.add_comm, signN_comm], by rw [Rat.mul_comm, Int.add_comm], fun h => ?_, ?_⟩
  · rw [show -a.val + -b.val = -(a.val + b.val) by grind]
    exact rnd_neg h
  · rw [show -a.val * b.val = -(a.val * b.val) by grind]
    by_cases h : a.val * b.val = 0
    · rw [h, Rat.neg_zero, rnd_zero, rnd_zero]
      have sa : a.turned.sg = 1 - a.sg := by cases a with
        | number s w e => rfl
        | nothing s => rfl
        | endless s => cases fa
        | none => cases fa
      have sb := sg_mod ob fb
      have sa2 := sg_mod oa fa
      show (Num.nothing _, []) = (Num.nothing _, [])
      rw [sa]
      congr 2
      omega
    · exact rnd_neg h
end
end MA

/-! divided and multiplied again -/
namespace MA
section
variable {F : Fmt} {q : Rat}
/-- to even: within half a unit of an even multiple -/
theorem even_near (hp : 1 ≤ F.p) {k : Int} (h0 : 0 ≤ q) (hk : k % 2 = 0) (hd : 2 * ab (q - (k : Rat) * two (unitAt F q)) ≤ two (unitAt F q)) : rA F .even q = (k : Rat) * two (unitAt F q) := by
  have t := two_pos (unitAt F q)
  have hs := scaled_mul F q
  rw [ab_of_nonneg h0] at hs
  have hd' : 2 * ab (scaled F q - (k : Rat)) ≤ 1 := by
    have e : q - (k : Rat) * two (unitAt F q) = (scaled F q - (k : Rat)) * two (unitAt F q) := by rw [← hs]; grind
    rw [e, ab_mul_pos t] at hd
    exact Rat.le_of_mul_le_mul_right (c := two (unitAt F q)) (by grind) t
  have f1 := flo_le F q
  have f2 := lt_flo F q
  have hb := ab_le.mp (show ab (scaled F q - (k : Rat)) ≤ 1 / 2 by grind)
  have hdp : (0 : Rat) < ((scaled F q).den : Rat) := by
    have := ic_lt (den_pos (scaled F q)); rw [Rat.intCast_natCast] at this; exact this
  have hr := rest_eq F q
  have hrb := rest_bounds F q
  have ca (x : Int) : ((2 * x : Int) : Rat) = 2 * (x : Rat) := by rw [Rat.intCast_mul]; rfl
  have cases : flo F q = k ∨ flo F q = k - 1 := by
    have l1 : flo F q < k + 1 := by
      have : (flo F q : Rat) < ((k + 1 : Int) : Rat) := by rw [cast_add1]; grind
      exact Rat.intCast_lt_intCast.mp this
    have l2 : k - 2 < flo F q := by
      have : ((k - 2 : Int) : Rat) < (flo F q : Rat) := by rw [Rat.intCast_sub]; have : ((2 : Int) : Rat) = 2 := rfl; grind
      exact Rat.intCast_lt_intCast.mp this
    omega
  unfold rA
  rw [rndW_def]
  rcases cases with c | c
  · -- not raised
    have h1 : 2 * rest F q ≤ ((scaled F q).den : Int) := by
      have : ((2 * rest F q : Int) : Rat) ≤ (((scaled F q).den : Int) : Rat) := by
        rw [ca, hr, Rat.intCast_natCast, c]
        have := mul_le_r (show 2 * (scaled F q - (k : Rat)) ≤ 1 by grind) (Rat.le_of_lt hdp)
        grind
      exact Rat.intCast_le_intCast.mp this
    rw [if_neg, c]
    rintro ⟨_, z⟩
    simp only [raised] at z
    split at z <;> simp at z <;> omega
  · have h1 : ((scaled F q).den : Int) ≤ 2 * rest F q := by
      have : (((scaled F q).den : Int) : Rat) ≤ ((2 * rest F q : Int) : Rat) := by
        rw [ca, hr, Rat.intCast_natCast, c, cast_sub1]
        have := mul_le_r (show 1 ≤ 2 * (scaled F q - ((k : Rat) - 1)) by grind) (Rat.le_of_lt hdp)
        grind
      exact Rat.intCast_le_intCast.mp this
    have hd0 := den_pos (scaled F q)
    rw [if_pos, c, show k - 1 + 1 = k by omega]
    refine ⟨by omega, ?_⟩
    simp only [raised]
    split
    · simp; omega
    · simp; omega
theorem two_lt_one {k : Int} (h : k < 0) : two k < 1 := by rw [← two_zero]; exact two_lt h
theorem int_cast_le_one {m : Int} (h : 1 ≤ m) : (1 : Rat) ≤ (m : Rat) := by exact_mod_cast h
/-- Kahan: divided by two powers of two together, and multiplied again -/
theorem kahan (hp : 2 ≤ F.p) (hlo : F.lo ≤ -80) (hpp : F.p ≤ 40) {m : Int} {a k : Nat} (hm : 1 ≤ m) (hm2 : m < 2 ^ (F.p - 1)) (ha : a ≤ 15) (hk : k ≤ 15) (hk1 : 1 ≤ k) :
    rv F .even (rv F .even ((m : Rat) / (two a * (two k + 1))) * (two a * (two k + 1))) = (m : Rat) := by
  have m1 := int_cast_le_one hm
  have m0 : (m : Rat) ≠ 0 := by grind
  have tk := two_pos (k : Int)
  have ta := two_pos (a : Int)
  have n0 : 0 < two a * (two k + 1) := Rat.mul_pos ta (by grind)
  obtain ⟨E1, E2⟩ := expo_spec m0
  rw [ab_of_nonneg (show (0 : Rat) ≤ (m : Rat) by grind)] at E1 E2
  have hE0 : 0 ≤ expo (m : Rat) := by
    have : two 0 < two (expo (m : Rat) + 1) := by rw [two_zero]; grind
    have := two_lt_iff.mp this; omega
  have hEp : expo (m : Rat) ≤ F.p - 2 := by
    have : two (expo (m : Rat)) < two ((F.p - 1 : Nat) : Int) := by
      have := ic_lt hm2; rw [cast_pow] at this; grind
    have := two_lt_iff.mp this; omega
  generalize expo (m : Rat) = E at *
  generalize hn : two (a : Int) * (two (k : Int) + 1) = n at *
  have hqn : (m : Rat) / n * n = m := Rat.div_mul_cancel (by grind)
  generalize (m : Rat) / n = q at *
  have n1 : two ((a : Int) + k) < n := by rw [← hn, two_add]; grind
  have n2 : n < two ((a : Int) + k + 1) := by
    rw [← hn, two_succ, two_add]
    have : (1 : Rat) < two (k : Int) := by rw [← two_zero]; exact two_lt (by omega)
    have := Rat.mul_lt_mul_of_pos_left this ta
    grind
  have q0 : 0 < q := by
    rw [← Rat.not_le]; intro z
    have := Rat.mul_le_mul_of_nonneg_right z (Rat.le_of_lt n0)
    rw [Rat.zero_mul, hqn] at this; grind
  have hxq := expo_spec (q := q) (by grind)
  rw [ab_of_nonneg (Rat.le_of_lt q0)] at hxq
  have x1 : expo q ≤ E - a - k := by
    have h1 : two (expo q) * two ((a : Int) + k) < two (E + 1) := by
      have h2 := mul_le_r hxq.1 (Rat.le_of_lt n0)
      have h3 := Rat.mul_lt_mul_of_pos_left n1 (two_pos (expo q))
      grind
    rw [← two_add] at h1
    have := two_lt_iff.mp h1; omega
  have x2 : E - a - k - 1 ≤ expo q := by
    have h1 : two E < two (expo q + 1) * two ((a : Int) + k + 1) := by
      have h2 := mul_lt_r hxq.2 n0
      have h3 := Rat.mul_lt_mul_of_pos_left n2 (two_pos (expo q + 1))
      grind
    rw [← two_add] at h1
    have := two_lt_iff.mp h1; omega
  have hu : unitAt F q = expo q - F.p + 1 := by have := unit_cases F (q := q) (by grind); omega
  have hh := rv_half (F := F) (v := .even) (q := q) (.inl rfl)
  have hK : rv F .even q = (rndW F .even q : Rat) * two (unitAt F q) := by unfold rv; rw [if_neg (by grind)]; rfl
  generalize rndW F .even q = K at *
  generalize hu' : unitAt F q = u at *
  have tu : two u = 2 * two (u - 1) := by rw [← two_succ]; congr 1; omega
  have tu1 := two_pos (u - 1)
  have odd : ∀ N : Int, N % 2 = 1 → two ((a : Int) + u - 1) ≤ ab ((m : Rat) - n * ((N : Rat) * two (u - 1))) := by
    intro N hN
    obtain ⟨s, hs⟩ := Int.eq_ofNat_of_zero_le (show 0 ≤ -((a : Int) + u - 1) by omega)
    have hs1 : 1 ≤ s := by omega
    have e1 : (m : Rat) = ((m * 2 ^ s : Int) : Rat) * two ((a : Int) + u - 1) := by
      rw [Rat.intCast_mul, cast_pow, Rat.mul_assoc, ← two_add, show (s : Int) + ((a : Int) + u - 1) = 0 by omega, two_zero, Rat.mul_one]
    have e2 : n * ((N : Rat) * two (u - 1)) = (((2 ^ k + 1) * N : Int) : Rat) * two ((a : Int) + u - 1) := by
      rw [← hn, Rat.intCast_mul, Rat.intCast_add, cast_pow, show (a : Int) + u - 1 = a + (u - 1) by omega, two_add]
      have : ((1 : Int) : Rat) = 1 := rfl
      grind
    rw [e2]
    conv => rhs; arg 1; lhs; rw [e1]
    rw [grid_sub, ab_cast]
    have hodd : (m * 2 ^ s - (2 ^ k + 1) * N) % 2 = 1 := by
      have p1 : (2 : Int) ^ s = 2 * 2 ^ (s - 1) := by rw [← Int.pow_succ']; congr 1; omega
      have p2 : (2 : Int) ^ k = 2 * 2 ^ (k - 1) := by rw [← Int.pow_succ']; congr 1; omega
      obtain ⟨r, hr⟩ : ∃ r, N = 2 * r + 1 := ⟨N / 2, by omega⟩
      have : m * 2 ^ s - (2 ^ k + 1) * N = 2 * (m * 2 ^ (s - 1) - 2 ^ (k - 1) * N - r - 1) + 1 := by rw [p1, p2, hr]; grind
      rw [this]; omega
    have h1 : (1 : Int) ≤ ((m * 2 ^ s - (2 ^ k + 1) * N).natAbs : Int) := by omega
    have := mul_le_r (int_cast_le_one h1) (Rat.le_of_lt (two_pos ((a : Int) + u - 1)))
    grind
  have far : ab (rv F .even q * n - m) ≤ two (u - 1) * two ((a : Int) + k) := by
    have en : two (u - 1) * n = two (u - 1) * two ((a : Int) + k) + two ((a : Int) + u - 1) := by
      rw [← hn, two_add (a : Int) k, show (a : Int) + u - 1 = a + (u - 1) by omega, two_add (a : Int) (u - 1)]; grind
    have hb := ab_le.mp (show ab (rv F .even q - q) ≤ two (u - 1) by grind)
    have hl := mul_le_r hb.1 (Rat.le_of_lt n0)
    have hr := mul_le_r hb.2 (Rat.le_of_lt n0)
    have eq1 : (rv F .even q - q) * n = rv F .even q * n - m := by rw [← hqn]; grind
    rw [eq1] at hl hr
    have o1 := odd (2 * K - 1) (by omega)
    have o2 := odd (2 * K + 1) (by omega)
    have c1 : n * (((2 * K - 1 : Int) : Rat) * two (u - 1)) = rv F .even q * n - two (u - 1) * n := by
      rw [hK, tu, Rat.intCast_sub, Rat.intCast_mul]
      have : ((2 : Int) : Rat) = 2 := rfl
      have : ((1 : Int) : Rat) = 1 := rfl
      grind
    have c2 : n * (((2 * K + 1 : Int) : Rat) * two (u - 1)) = rv F .even q * n + two (u - 1) * n := by
      rw [hK, tu, Rat.intCast_add, Rat.intCast_mul]
      have : ((2 : Int) : Rat) = 2 := rfl
      have : ((1 : Int) : Rat) = 1 := rfl
      grind
    rw [c1] at o1
    rw [c2] at o2
    rw [ab_of_nonneg (by grind)] at o1
    rw [← ab_neg, ab_of_nonneg (by grind)] at o2
    rw [ab_le]
    constructor <;> grind
  rw [← two_add] at far
  generalize rv F .even q * n = x at *
  have hU : u - 1 + ((a : Int) + k) = E - F.p ∨ u - 1 + ((a : Int) + k) = E - F.p - 1 := by omega
  have hb := ab_le.mp far
  have tl : two (u - 1 + ((a : Int) + k)) < 1 := two_lt_one (by omega)
  have x0 : 0 ≤ x := by grind
  have mE1 : (m : Rat) + 1 ≤ two (E + 1) := by
    rw [two_of_nonneg (show 0 ≤ E + 1 by omega)] at E2 ⊢
    have := Rat.intCast_lt_intCast.mp E2
    rw [← cast_add1]; exact ic_le (by omega)
  have fin (k' : Int) (he : unitAt F x = k') (hk' : k' < 0) (hd : 2 * ab (x - (m : Rat)) ≤ two k') : rv F .even x = m := by
    obtain ⟨s, hs⟩ := Int.eq_ofNat_of_zero_le (show 0 ≤ -k' by omega)
    have e1 : (m : Rat) = ((m * 2 ^ s : Int) : Rat) * two (unitAt F x) := by
      rw [he, Rat.intCast_mul, cast_pow, Rat.mul_assoc, ← two_add, show (s : Int) + k' = 0 by omega, two_zero, Rat.mul_one]
    have ev : m * 2 ^ s % 2 = 0 := by
      have p1 : (2 : Int) ^ s = 2 * 2 ^ (s - 1) := by rw [← Int.pow_succ']; congr 1; omega
      rw [p1, show m * (2 * 2 ^ (s - 1)) = 2 * (m * 2 ^ (s - 1)) by grind]; omega
    have := even_near (F := F) (q := x) (by omega) x0 ev (by rw [← e1, he]; exact hd)
    unfold rv
    rw [if_neg (by grind), this, ← e1]
  by_cases c : two E ≤ x
  · have xpos : x ≠ 0 := by have := two_pos E; grind
    have ex := expo_uniq (q := x) (j := E) xpos (by rw [ab_of_nonneg x0]; exact c) (by rw [ab_of_nonneg x0]; grind)
    refine fin (E - F.p + 1) (by have := unit_cases F xpos; omega) (by omega) ?_
    have := two_le (a := u - 1 + ((a : Int) + k)) (b := E - F.p) (by omega)
    have t2 : two (E - F.p + 1) = 2 * two (E - F.p) := by rw [← two_succ]
    grind
  · have c' := Rat.not_le.mp c
    have hc : u - 1 + ((a : Int) + k) = E - F.p - 1 := by
      rcases hU with z | z
      · exfalso
        have hq : two E < (m : Rat) := by
          have h2 := mul_le_r hxq.1 (Rat.le_of_lt n0)
          have h3 := Rat.mul_lt_mul_of_pos_left n1 (two_pos (expo q))
          rw [← two_add, show expo q + ((a : Int) + k) = E by omega] at h3
          grind
        have hq1 : two E + 1 ≤ (m : Rat) := by
          rw [two_of_nonneg hE0] at hq ⊢
          have := Rat.intCast_lt_intCast.mp hq
          rw [← cast_add1]; exact ic_le (by omega)
        grind
      · exact z
    rw [hc] at hb
    have t3 : two (E - F.p - 1) ≤ two (E - 1) := two_le (by omega)
    have t4 : two E = 2 * two (E - 1) := by rw [← two_succ]; congr 1; omega
    have xpos : x ≠ 0 := by have := two_pos (E - 1); grind
    have ex := expo_uniq (q := x) (j := E - 1) xpos (by rw [ab_of_nonneg x0]; grind) (by rw [ab_of_nonneg x0, show E - 1 + 1 = E by omega]; exact c')
    refine fin (E - F.p) (by have := unit_cases F xpos; omega) (by omega) ?_
    have t5 : two (E - F.p) = 2 * two (E - F.p - 1) := by rw [← two_succ]; congr 1; omega
    rw [hc] at far
    grind
end
end MA

namespace MA
theorem rep_int {F : Fmt} {m : Int} (hl : F.lo ≤ 0) (h0 : 0 ≤ m) (h : m ≤ 2 ^ F.p) : rep F (m : Rat) := ⟨m, 0, by rw [two_zero, Rat.mul_one], hl, by have := pow_pos' F.p; omega, h⟩
theorem int_lt_two' {m : Int} {n : Nat} (h : m < 2 ^ n) : (m : Rat) < two n := by rw [← cast_pow]; exact ic_lt h
theorem back_val {F : Fmt} (hp : 2 ≤ F.p) (hlo : F.lo ≤ -80) (hpp : F.p ≤ 40) {m : Int} {i j : Nat} (h0 : 0 ≤ m) (hm2 : m < 2 ^ (F.p - 1)) (hi : i ≤ 12) (hj : j ≤ 12) :
    rv F .even (rv F .even ((m : Rat) / ((2 ^ i + 2 ^ j : Int) : Rat)) * ((2 ^ i + 2 ^ j : Int) : Rat)) = (m : Rat) := by
  have hm : m ≤ 2 ^ F.p := by have := pow_half F.p (by omega); have := pow_pos' (F.p - 1); omega
  by_cases z : m = 0
  · subst z
    rw [show ((0 : Int) : Rat) = 0 from rfl, Rat.div_def, Rat.zero_mul, rv_zero, Rat.zero_mul, rv_zero]
  have main (a k : Nat) (ha : a ≤ 12) (hk : k ≤ 12) (hk1 : 1 ≤ k) : rv F .even (rv F .even ((m : Rat) / ((2 ^ a + 2 ^ (a + k) : Int) : Rat)) * ((2 ^ a + 2 ^ (a + k) : Int) : Rat)) = (m : Rat) := by
    have e : ((2 ^ a + 2 ^ (a + k) : Int) : Rat) = two a * (two k + 1) := by
      rw [Rat.intCast_add, cast_pow, cast_pow, show ((a + k : Nat) : Int) = (a : Int) + k by omega, two_add]; grind
    rw [e]
    exact kahan hp hlo hpp (by omega) hm2 (by omega) (by omega) hk1
  rcases Nat.lt_trichotomy i j with c | c | c
  · have := main i (j - i) hi (by omega) (by omega)
    rw [show i + (j - i) = j by omega] at this; exact this
  · subst c
    have e : ((2 ^ i + 2 ^ i : Int) : Rat) = two ((i : Int) + 1) := by rw [Rat.intCast_add, cast_pow, two_succ]; grind
    have t := two_pos ((i : Int) + 1)
    have hr : rep F ((m : Rat) / two ((i : Int) + 1)) := by
      refine ⟨m, -((i : Int) + 1), ?_, by omega, by have := pow_pos' F.p; omega, hm⟩
      rw [two_neg, Rat.div_def]
    rw [e, rv_rep (by omega) hr, Rat.div_mul_cancel (by grind)]
    exact rv_rep (by omega) (rep_int (by omega) h0 hm)
  · have := main j (i - j) hj (by omega) (by omega)
    rw [show j + (i - j) = i by omega, show (2 ^ j + 2 ^ i : Int) = 2 ^ i + 2 ^ j by omega] at this; exact this
theorem again_law {F : Fmt} (hp : 2 ≤ F.p) (hlo : F.lo ≤ -80) (hpp : F.p ≤ 40) (hh : 0 < F.hi) {m : Int} {i j : Nat} (h0 : 0 ≤ m) (hm2 : m < 2 ^ (F.p - 1)) (hi : i ≤ 12) (hj : j ≤ 12) {x y : Num} (fx : x.fin = true) (vx : x.val = (m : Rat)) (fy : y.fin = true) (vy : y.val = ((2 ^ i + 2 ^ j : Int) : Rat)) :
    (overM F .even x y).1.fin = true ∧ (productM F .even (overM F .even x y).1 y).1.fin = true ∧ (productM F .even (overM F .even x y).1 y).1.val = (m : Rat) := by
  have n1 : (1 : Rat) ≤ ((2 ^ i + 2 ^ j : Int) : Rat) := int_cast_le_one (by have := pow_pos' i; have := pow_pos' j; omega)
  have y0 : y.val ≠ 0 := by rw [vy]; grind
  have m0 : (0 : Rat) ≤ (m : Rat) := by exact_mod_cast h0
  have mlt : (m : Rat) < two (F.p - 1 : Nat) := int_lt_two' hm2
  have lt : two ((F.p - 1 : Nat) : Int) < two (F.p + F.hi) := two_lt (by omega)
  have hq : (m : Rat) / ((2 ^ i + 2 ^ j : Int) : Rat) * ((2 ^ i + 2 ^ j : Int) : Rat) = m := Rat.div_mul_cancel (by grind)
  have q0 : 0 ≤ (m : Rat) / ((2 ^ i + 2 ^ j : Int) : Rat) := by
    rw [← Rat.not_lt]; intro z
    have := Rat.mul_lt_mul_of_pos_right z (show (0 : Rat) < ((2 ^ i + 2 ^ j : Int) : Rat) by grind)
    rw [Rat.zero_mul, hq] at this; grind
  have q1 : (m : Rat) / ((2 ^ i + 2 ^ j : Int) : Rat) ≤ m := by
    have := Rat.mul_le_mul_of_nonneg_left n1 q0
    rw [hq] at this; grind
  have ho : rA F .even ((m : Rat) / ((2 ^ i + 2 ^ j : Int) : Rat)) < two (F.p + F.hi) := by
    have := rA_le (v := .even) (q := (m : Rat) / ((2 ^ i + 2 ^ j : Int) : Rat)) (by omega) (rep_two F (j := ((F.p - 1 : Nat) : Int)) (by omega)) (by rw [ab_of_nonneg q0]; grind)
    grind
  obtain ⟨g1, g2, _⟩ := rnd_fin (s := (x.sg + y.sg) % 2) (by omega) (show F.lo ≤ F.hi by omega) ho
  have hb := back_val hp hlo hpp h0 hm2 hi hj
  have eo : overM F .even x y = rnd F .even ((m : Rat) / ((2 ^ i + 2 ^ j : Int) : Rat)) ((x.sg + y.sg) % 2) := by rw [over_fin fx fy y0, vx, vy]
  rw [eo]
  refine ⟨g1, ?_⟩
  rw [product_fin g1 fy, g2, vy]
  have ho2 : rA F .even (rv F .even ((m : Rat) / ((2 ^ i + 2 ^ j : Int) : Rat)) * ((2 ^ i + 2 ^ j : Int) : Rat)) < two (F.p + F.hi) := by
    rw [← ab_rv, hb, ab_of_nonneg m0]; grind
  obtain ⟨k1, k2, _⟩ := rnd_fin (s := ((rnd F .even ((m : Rat) / ((2 ^ i + 2 ^ j : Int) : Rat)) ((x.sg + y.sg) % 2)).1.sg + y.sg) % 2) (by omega) (show F.lo ≤ F.hi by omega) ho2
  exact ⟨k1, by rw [k2, hb]⟩
end MA

namespace MA
section
variable {F : Fmt} {v : Way}
/-- small ones stay small -/
theorem rnd_small (hp : 1 ≤ F.p) (hl : F.lo ≤ F.hi) {q : Rat} {s k : Int} (h0 : F.lo ≤ k) (h : ab q ≤ two k) (hk : k < F.p + F.hi) : (rnd F v q s).1.fin = true ∧ (rnd F v q s).1.val = rv F v q ∧ ab (rnd F v q s).1.val ≤ two k ∧ rA F v q < two (F.p + F.hi) := by
  have h1 : rA F v q ≤ two k := rA_le hp (rep_two F h0) h
  have h2 : rA F v q < two (F.p + F.hi) := by have := two_lt hk; grind
  obtain ⟨g1, g2, g3⟩ := rnd_fin (s := s) hp hl h2
  exact ⟨g1, g2, by rw [g2, ab_rv]; exact h1, h2⟩
theorem plus_small (hp : 1 ≤ F.p) (hl : F.lo ≤ F.hi) {a b : Num} {k : Int} (fa : a.fin = true) (fb : b.fin = true) (h0 : F.lo ≤ k) (ha : ab a.val ≤ two k) (hb : ab b.val ≤ two k) (hk : k + 1 < F.p + F.hi) : (plusM F v a b).1.fin = true ∧ ab (plusM F v a b).1.val ≤ two (k + 1) := by
  rw [plus_fin fa fb]
  have h : ab (a.val + b.val) ≤ two (k + 1) := by have := ab_tri a.val b.val; rw [two_succ]; grind
  obtain ⟨g1, g2, g3, _⟩ := rnd_small (v := v) (s := signN v a.sg b.sg) hp hl (by omega) h hk
  exact ⟨g1, g3⟩
theorem minus_small (hp : 1 ≤ F.p) (hl : F.lo ≤ F.hi) {a b : Num} {k : Int} (fa : a.fin = true) (fb : b.fin = true) (ob : OfF F b) (h0 : F.lo ≤ k) (ha : ab a.val ≤ two k) (hb : ab b.val ≤ two k) (hk : k + 1 < F.p + F.hi) : (minusM F v a b).1.fin = true ∧ ab (minusM F v a b).1.val ≤ two (k + 1) :=
  plus_small hp hl fa (by rw [turned_fin]; exact fb) h0 ha (by rw [turned_val ob, ab_neg]; exact hb) hk
theorem up1 {q : Rat} {k : Int} (h : ab q ≤ two k) : ab q ≤ two (k + 1) := by have := two_le (show k ≤ k + 1 by omega); grind
theorem six_small (hp : 1 ≤ F.p) (hl : F.lo ≤ F.hi) (hn : near v) {a b t m l x y r : Num} (oa : OfF F a) (ob : OfF F b) (fa : a.fin = true) (fb : b.fin = true) {k : Int} (h0 : F.lo ≤ k) (ha : ab a.val ≤ two k) (hb : ab b.val ≤ two k) (hk : k + 5 < F.p + F.hi)
    (ht : t = (plusM F v a b).1) (hm : m = (minusM F v t a).1) (om : OfF F m) (hll : l = (minusM F v t m).1) (ol : OfF F l)
    (hx : x = (minusM F v a l).1) (hy : y = (minusM F v b m).1) (hr : r = (plusM F v x y).1) : t.fin = true ∧ ab t.val ≤ two (k + 1) ∧ r.fin = true ∧ t.val + r.val = a.val + b.val := by
  obtain ⟨t1, t2⟩ := plus_small (v := v) hp hl fa fb h0 ha hb (by omega)
  rw [← ht] at t1 t2
  obtain ⟨m1, m2⟩ := minus_small (v := v) hp hl t1 fa oa (by omega) t2 (up1 ha) (by omega)
  rw [← hm] at m1 m2
  obtain ⟨l1, l2⟩ := minus_small (v := v) hp hl t1 m1 om (by omega) (up1 t2) m2 (by omega)
  rw [← hll] at l1 l2
  obtain ⟨x1, x2⟩ := minus_small (v := v) hp hl fa l1 ol (by omega) (up1 (up1 (up1 ha))) l2 (by omega)
  rw [← hx] at x1 x2
  obtain ⟨y1, y2⟩ := minus_small (v := v) hp hl fb m1 om (by omega) (up1 (up1 hb)) m2 (by omega)
  rw [← hy] at y1 y2
  obtain ⟨r1, r2⟩ := plus_small (v := v) hp hl x1 y1 (by omega) x2 (up1 y2) (by omega)
  rw [← hr] at r1 r2
  exact ⟨t1, t2, r1, six_law hp hl hn oa ob fa fb ht t1 hm m1 om hll l1 ol hx x1 hy y1 hr r1⟩
end
end MA

namespace MA
section
variable {F : Fmt} {v : Way}
theorem ab_le_of {x c : Rat} (h : ab x < c) : ab x ≤ c := by grind
/-- a product of numbers of middling size loses what joined tells -/
theorem prod_main (hp : 1 ≤ F.p) (hl : F.lo ≤ F.hi) {s w e s' w' e' : Int} (oa : OfF F (.number s w e)) (ob : OfF F (.number s' w' e')) (he : F.lo ≤ e + e') (h1 : e ≤ 20) (h2 : e' ≤ 20) (hk : F.p + 40 < F.hi) (h0 : F.lo ≤ 0) {t r : Num} (ht : t = (productM F v (.number s w e) (.number s' w' e')).1) (hr : r = (joinedM F v (.number s w e) (.number s' w' e') t.turned).1) :
    t.fin = true ∧ r.fin = true ∧ t.val + r.val = (Num.number s w e).val * (Num.number s' w' e').val := by
  have fa : (Num.number s w e).fin = true := rfl
  have fb : (Num.number s' w' e').fin = true := rfl
  have ha := num_ab_lt oa
  have hb := num_ab_lt ob
  have hq : ab ((Num.number s w e).val * (Num.number s' w' e').val) ≤ two (F.p + F.p + 40) := by
    have q1 := ab_mul_lt ha hb
    rw [← two_add] at q1
    have q2 : two (F.p + e + (F.p + e')) ≤ two (F.p + F.p + 40) := two_le (by omega)
    grind
  rw [product_fin fa fb] at ht
  obtain ⟨g1, g2, g3, g4⟩ := rnd_small (v := v) (s := ((Num.number s w e).sg + (Num.number s' w' e').sg) % 2) hp hl (by omega) hq (by omega)
  have ot : OfF F t := by rw [ht]; exact ofF_rnd hl hp (by omega)
  rw [← ht] at g1 g2
  obtain ⟨q1, q2⟩ := prod_lost hp hl oa ob he g4
  rw [← g2] at q1 q2
  obtain ⟨r1, r2, r3⟩ := joined_rest (v := v) hp hl fa fb ot g1 q1 q2
  rw [← hr] at r1 r2
  exact ⟨g1, r1, by rw [r2]; grind⟩
end
end MA

namespace MA
section
variable {F : Fmt} {v : Way} {s : Int}
/-- a whole number that has no more than p digits, but for noughts at its end -/
def shortP (p n : Nat) : Prop := ∃ k j : Nat, n = k * 2 ^ j ∧ k < 2 ^ p
theorem short_small {p n : Nat} (h : n < 2 ^ p) : shortP p n := ⟨n, 0, by simp, h⟩
theorem short_half {p a j : Nat} (h : shortP p (a * 2 ^ j)) (ho : a % 2 = 1) : a < 2 ^ p := by
  obtain ⟨k, i, e, hk⟩ := h
  rcases Nat.lt_or_ge j i with c | c
  · exfalso
    have e2 : 2 ^ i = 2 ^ j * (2 * 2 ^ (i - j - 1)) := by
      rw [← Nat.pow_succ', ← Nat.pow_add]; congr 1; omega
    have e3 : a * 2 ^ j = (k * (2 * 2 ^ (i - j - 1))) * 2 ^ j := by rw [e, e2, Nat.mul_assoc, Nat.mul_comm (2 ^ j)]
    have e4 := Nat.eq_of_mul_eq_mul_right (Nat.pow_pos (by decide)) e3
    rw [show k * (2 * 2 ^ (i - j - 1)) = 2 * (k * 2 ^ (i - j - 1)) by rw [Nat.mul_left_comm]] at e4
    omega
  · have e2 : 2 ^ j = 2 ^ (j - i) * 2 ^ i := by rw [← Nat.pow_add]; congr 1; omega
    rw [e2, ← Nat.mul_assoc] at e
    have e4 := Nat.eq_of_mul_eq_mul_right (Nat.pow_pos (by decide)) e
    have : a ≤ a * 2 ^ (j - i) := Nat.le_mul_of_pos_right _ (Nat.pow_pos (by decide))
    omega
theorem ic_pow (i : Int) (n : Nat) : (i : Rat) * two (n : Int) = ((i * 2 ^ n : Int) : Rat) := by
  rw [Rat.intCast_mul, cast_pow]
theorem rep_short (hp : 1 ≤ F.p) (hl : F.lo ≤ 0) {i : Int} : rep F (i : Rat) ↔ shortP F.p i.natAbs := by
  constructor
  · rintro ⟨k, e, hq, he, h1, h2⟩
    by_cases c : 0 ≤ e
    · obtain ⟨n, rfl⟩ := Int.eq_ofNat_of_zero_le c
      rw [ic_pow] at hq
      have hi : i = k * 2 ^ n := Rat.intCast_inj.mp hq
      have hn : i.natAbs = k.natAbs * 2 ^ n := by rw [hi, Int.natAbs_mul, Int.natAbs_pow]; rfl
      rcases Nat.lt_or_ge k.natAbs (2 ^ F.p) with d | d
      · exact ⟨_, _, hn, d⟩
      · have hk : k.natAbs = 2 ^ F.p := by
          have e1 : ((2 : Int) ^ F.p) = ((2 ^ F.p : Nat) : Int) := by simp
          omega
        refine ⟨1, F.p + n, by rw [hn, hk, ← Nat.pow_add, Nat.one_mul], ?_⟩
        exact Nat.one_lt_two_pow (by omega)
    · refine short_small ?_
      obtain ⟨n, hn⟩ : ∃ n : Nat, e = -((n + 1 : Nat) : Int) := ⟨(-e - 1).toNat, by omega⟩
      have h3 : ((i * 2 ^ (n + 1) : Int) : Rat) = (k : Rat) := by
        rw [← ic_pow, hq, hn, Rat.mul_assoc, ← two_add, Int.add_left_neg, two_zero, Rat.mul_one]
      have h4 : i * 2 ^ (n + 1) = k := Rat.intCast_inj.mp h3
      have h5 : i.natAbs * 2 ^ (n + 1) = k.natAbs := by rw [← h4, Int.natAbs_mul, Int.natAbs_pow]; rfl
      have h6 : k.natAbs ≤ 2 ^ F.p := by
        have e1 : ((2 : Int) ^ F.p) = ((2 ^ F.p : Nat) : Int) := by simp
        omega
      have h7 : 2 ≤ 2 ^ (n + 1) := by rw [Nat.pow_succ]; have := Nat.pow_pos (n := n) (show 0 < 2 by decide); omega
      have h8 : i.natAbs * 2 ≤ i.natAbs * 2 ^ (n + 1) := Nat.mul_le_mul_left _ h7
      have h9 := Nat.pow_pos (n := F.p) (show 0 < 2 by decide)
      omega
  · rintro ⟨k, j, hn, hk⟩
    have e1 : ((2 : Int) ^ F.p) = ((2 ^ F.p : Nat) : Int) := by simp
    by_cases c : 0 ≤ i
    · refine ⟨k, j, ?_, by omega, by omega, by omega⟩
      rw [ic_pow]
      congr 1
      have : ((k * 2 ^ j : Nat) : Int) = (k : Int) * 2 ^ j := by simp
      omega
    · refine ⟨-k, j, ?_, by omega, by omega, by omega⟩
      rw [ic_pow]
      congr 1
      have : ((k * 2 ^ j : Nat) : Int) = (k : Int) * 2 ^ j := by simp
      rw [Int.neg_mul]
      omega
/-- a whole number, rounded -/
theorem whole_law (hp : 1 ≤ F.p) (hlo : F.lo ≤ 0) (hhi : F.p + 2 ≤ F.hi) {i : Int} (hi : i.natAbs < 2 ^ (2 * F.p + 1)) :
    (rnd F v (i : Rat) s).1.fin = true ∧ ((rnd F v (i : Rat) s).2 = [] ↔ shortP F.p i.natAbs) ∧ (i.natAbs ≤ 2 ^ F.p → (rnd F v (i : Rat) s).2 = [] ∧ (rnd F v (i : Rat) s).1.val = i) := by
  have hl : F.lo ≤ F.hi := by omega
  have hb : ab (i : Rat) ≤ two ((2 * F.p + 1 : Nat) : Int) := by
    rw [ab_num_int, two_nat]
    exact_mod_cast Nat.le_of_lt hi
  obtain ⟨g1, g2, g3, g4⟩ := rnd_small (v := v) (s := s) hp hl (k := ((2 * F.p + 1 : Nat) : Int)) (by omega) hb (by omega)
  refine ⟨g1, ?_, fun h => ?_⟩
  · rw [marks_nil_iff hp hl, ← rep_short hp hlo]
    exact ⟨fun h => by rw [← h.1]; exact rep_rv F v _, fun h => ⟨rv_rep hp h, g4⟩⟩
  · have hr : rep F (i : Rat) := (rep_short hp hlo).mpr (by
      rcases Nat.lt_or_ge i.natAbs (2 ^ F.p) with d | d
      · exact short_small d
      · exact ⟨1, F.p, by omega, Nat.one_lt_two_pow (by omega)⟩)
    exact ⟨(marks_nil_iff hp hl).mpr ⟨rv_rep hp hr, g4⟩, by rw [g2]; exact rv_rep hp hr⟩
end
end MA

namespace MA
/-! words of bits -/
def loW (p wd : Nat) : Int := 2 - (2 ^ (wd - 1) - 1) - p
def formW (p wd : Nat) : Fmt := ⟨p, loW p wd, loW p wd + 2 ^ wd - 3⟩
def sgW (p wd w : Nat) : Nat := w / 2 ^ (p - 1 + wd) % 2
def pwW (p wd w : Nat) : Nat := w / 2 ^ (p - 1) % 2 ^ wd
def rsW (p w : Nat) : Nat := w % 2 ^ (p - 1)
def numW (p wd w : Nat) : Num :=
  if ((pwW p wd w : Nat) : Int) = 2 ^ wd - 1 then (if ((rsW p w : Nat) : Int) = 0 then .endless (sgW p wd w : Nat) else .none)
  else if ((pwW p wd w : Nat) : Int) = 0 then (if 0 < ((rsW p w : Nat) : Int) then .number (sgW p wd w : Nat) (rsW p w : Nat) (loW p wd) else .nothing (sgW p wd w : Nat))
  else .number (sgW p wd w : Nat) ((rsW p w : Nat) + 2 ^ (p - 1)) (loW p wd + (pwW p wd w : Nat) - 1)
def wordW (p wd : Nat) : Num → Int
  | .none => (2 ^ wd - 1) * 2 ^ (p - 1) + 2 ^ (p - 2)
  | .nothing s => s * 2 ^ (p + wd - 1)
  | .endless s => s * 2 ^ (p + wd - 1) + (2 ^ wd - 1) * 2 ^ (p - 1)
  | .number s m e => if m < 2 ^ (p - 1) then s * 2 ^ (p + wd - 1) + m else s * 2 ^ (p + wd - 1) + (e - loW p wd + 1) * 2 ^ (p - 1) + m - 2 ^ (p - 1)
def Num.negW : Num → Num
  | .nothing _ => .nothing 1
  | .number _ w e => .number 1 w e
  | n => n
instance decOfF (F : Fmt) : ∀ n : Num, Decidable (OfF F n)
  | .number s w e => inferInstanceAs (Decidable ((s = 0 ∨ s = 1) ∧ (F.lo ≤ e ∧ e ≤ F.hi) ∧ (1 ≤ w ∧ w < 2 ^ F.p) ∧ (2 ^ (F.p - 1) ≤ w ∨ e = F.lo)))
  | .nothing s => inferInstanceAs (Decidable (s = 0 ∨ s = 1))
  | .endless s => inferInstanceAs (Decidable (s = 0 ∨ s = 1))
  | .none => inferInstanceAs (Decidable True)
def okWord (p wd w : Nat) : Prop :=
  w < 2 ^ (p + wd - 1) → ((numW p wd w).fin = decide (w < (2 ^ wd - 1) * 2 ^ (p - 1)) ∧ OfF (formW p wd) (numW p wd w) ∧ ((numW p wd w).fin = true →
    wordW p wd (numW p wd w) = (w : Int) ∧ wordW p wd (nextUp (formW p wd) (numW p wd w)) = (w : Int) + 1 ∧ nextUp (formW p wd) (numW p wd w) ≠ .none ∧ wordW p wd (numW p wd w).negW = (w : Int) + 2 ^ (p + wd - 1)))
instance (p wd w : Nat) : Decidable (okWord p wd w) := by unfold okWord; infer_instance
theorem words_ok : ∀ p ∈ [2, 3, 4], ∀ wd ∈ [2, 3], ∀ w ∈ List.range 64, okWord p wd w := by decide +kernel
theorem word_ok {p wd w : Nat} (h1 : 2 ≤ p) (h2 : p ≤ 4) (h3 : 2 ≤ wd) (h4 : wd ≤ 3) (hw : w < 2 ^ (p + wd - 1)) : okWord p wd w := by
  have h6 : 2 ^ (p + wd - 1) ≤ 2 ^ 6 := Nat.pow_le_pow_right (by decide) (by omega)
  refine words_ok p ?_ wd ?_ w (List.mem_range.mpr (by omega))
  · have : p = 2 ∨ p = 3 ∨ p = 4 := by omega
    rcases this with rfl | rfl | rfl <;> simp
  · have : wd = 2 ∨ wd = 3 := by omega
    rcases this with rfl | rfl <;> simp
theorem sorted_eq : ∀ {xs ys : List Int}, xs.Perm ys → xs.Pairwise (· ≤ ·) → ys.Pairwise (· ≤ ·) → xs = ys := fun h h1 h2 =>
  h.eq_of_pairwise (fun a b _ _ x y => Int.le_antisymm x y) h1 h2
end MA

/-! The data layer: programs over data (PyData) that stands in the heap, by values. -/
namespace DL
open PySem PySem.Spec PyProof.Rows L2

/-! ### heaps that grow -/
def stay : HO → Bool
  | .dK _ => false
  | _ => true
theorem Same.upd_new {H : Hp} {p : Addr} {o : HO} (h : H p = none) : Same H (upd H p o) := fun b u hb => by
  have : b ≠ p := fun e => by rw [e, h] at hb; cases hb
  rw [upd_ne this]; exact hb
/-- the draws: a dict at aw with the list at ad and a count -/
def Wok (K : PySem.W.Frag) (aw ad : Addr) (H : Hp) : Prop :=
  ∃ (n : Int) (ns : List Int), 0 ≤ n ∧ H aw = some (.dK [(.inr "draws", .ref ad), (.inr "at", .int n)]) ∧ SqL K H ad (ns.map V.int) ∧ ∀ m ∈ ns, 0 ≤ m
abbrev WO := Option (PySem.W.Frag × Addr × Addr)
theorem SqL.same {K : PySem.W.Frag} {H H' : Hp} {a : Addr} {xs : List V} (h : ∀ o, H a = some o → (∃ ys, o = .lst ys) ∨ (∃ q u, o = .frz q u) → H' a = some o) (s : SqL K H a xs) : SqL K H' a xs := by
  rcases s with (s | ⟨o, s⟩) | s
  · exact .inl (.inl (h _ s (.inl ⟨_, rfl⟩)))
  · exact .inl (.inr ⟨o, h _ s (.inr ⟨_, _, rfl⟩)⟩)
  · exact .inr s
/-- how the heap may change: what is tracked stays; or, but for dicts, and the draws stay draws -/
def Gr : WO → Hp → Hp → Prop
  | none, H, H' => Same H H'
  | some (K, aw, ad), H, H' => ((∀ a o, H a = some o → stay o = true → H' a = some o) ∧ (∀ a, H' a = none → H a = none)) ∧ (Wok K aw ad H → Wok K aw ad H')
section
variable {o : WO} {H H1 H' : Hp}
theorem Gr.refl (o : WO) (H : Hp) : Gr o H H := by
  cases o with
  | none => exact Same.refl H
  | some p => exact ⟨⟨fun _ _ h _ => h, fun _ h => h⟩, id⟩
theorem Gr.trans (g : Gr o H H1) (g' : Gr o H1 H') : Gr o H H' := by
  cases o with
  | none => exact Same.trans g g'
  | some p => exact ⟨⟨fun a u h s => g'.1.1 a u (g.1.1 a u h s) s, fun a h => g.1.2 a (g'.1.2 a h)⟩, fun h => g'.2 (g.2 h)⟩
theorem Gr.same (h : Same H H') : Gr o H H' := by
  cases o with
  | none => exact h
  | some p => exact ⟨⟨fun a u e _ => h a u e, fun a e => Same.free h e⟩, fun ⟨n, ns, h0, h1, h2, h3⟩ => ⟨n, ns, h0, h _ _ h1, SqL.same (fun o e _ => h _ o e) h2, h3⟩⟩
theorem Gr.keep (g : Gr o H H') {a : Addr} {u : HO} (h : H a = some u) (s : stay u = true) : H' a = some u := by
  cases o with
  | none => exact g _ _ h
  | some p => exact g.1.1 a u h s
theorem Gr.free (g : Gr o H H') {a : Addr} (h : H' a = none) : H a = none := by
  cases o with
  | none => exact Same.free g h
  | some p => exact g.1.2 a h
theorem Gr.setL (g : Gr o H H') {a : Addr} {u : HO} (h : H a = none) : Gr o H (upd H' a u) := by
  have ne : ∀ {b : Addr} {v : HO}, H b = some v → b ≠ a := fun hb e => by rw [e, h] at hb; cases hb
  cases o with
  | none => exact fun b v hb => by rw [upd_ne (ne hb)]; exact g b v hb
  | some p =>
    refine ⟨⟨fun b v hb s => by rw [upd_ne (ne hb)]; exact g.1.1 b v hb s, fun b hb => ?_⟩, fun w => ?_⟩
    · by_cases e : b = a
      · rw [e]; exact h
      · rw [upd_ne e] at hb; exact g.1.2 b hb
    obtain ⟨n, ns, _, e1, e2, e3⟩ := id w
    obtain ⟨n', ns', h0, h1, h2, h3⟩ := g.2 w
    have q1 : upd H' a u p.2.1 = some (.dK [(.inr "draws", .ref p.2.2), (.inr "at", .int n')]) := by rw [upd_ne (ne e1)]; exact h1
    have q2 : p.2.2 ≠ a → SqL p.1 (upd H' a u) p.2.2 (ns'.map V.int) := fun c => SqL.same (fun o e _ => by rw [upd_ne c]; exact e) h2
    rcases e2 with (e2 | ⟨q, e2⟩) | e2
    · exact ⟨n', ns', h0, q1, q2 (ne e2), h3⟩
    · exact ⟨n', ns', h0, q1, q2 (ne e2), h3⟩
    · exact ⟨n', ns, h0, q1, .inr e2, e3⟩
end

section
variable {K : PySem.W.Frag} {o : WO} {H H' : Hp}
theorem Gr.tup (g : Gr o H H') {a : Addr} {xs : List V} (h : SqT K H a xs) : SqT K H' a xs := by
  rcases h with (h | ⟨o, h⟩) | h
  · exact .inl (.inl (g.keep h rfl))
  · exact .inl (.inr ⟨o, g.keep h rfl⟩)
  · exact .inr h
theorem Gr.lst (g : Gr o H H') {a : Addr} {xs : List V} (h : SqL K H a xs) : SqL K H' a xs := by
  rcases h with (h | ⟨o, h⟩) | h
  · exact .inl (.inl (g.keep h rfl))
  · exact .inl (.inr ⟨o, g.keep h rfl⟩)
  · exact .inr h
mutual
theorem Gr.dp (g : Gr o H H') : ∀ (d : PyData) (v : V), Dp K H v d → Dp K H' v d
  | .none, _, h => by cases h; exact .non
  | .bool b, _, h => by cases h; exact .bl _
  | .int i, _, h => by cases h; exact .int _
  | .str x, _, h => by cases h; exact .str _
  | .list ds, _, h => by
    cases h with
    | lst hs ha => exact .lst (g.lst hs) (g.dpAll ds _ ha)
  | .tuple ds, _, h => by
    cases h with
    | tup hs ha => exact .tup (g.tup hs) (g.dpAll ds _ ha)
  | .dict _, _, h => by cases h
theorem Gr.dpAll (g : Gr o H H') : ∀ (ds : List PyData) (vs : List V), DpAll K H vs ds → DpAll K H' vs ds
  | [], _, h => by cases h; exact .nil
  | d :: ds, _, h => by
    cases h with
    | cons h1 h2 => exact .cons (g.dp d _ h1) (g.dpAll ds _ h2)
end
end

/-! ### data without lists: a list that changes is none of its parts -/
mutual
def lfree : PyData → Bool
  | .none | .bool _ | .int _ | .str _ => true
  | .tuple xs => lfreeAll xs
  | .list _ | .dict _ => false
def lfreeAll : List PyData → Bool
  | [] => true
  | x :: xs => lfree x && lfreeAll xs
end
section
variable {K : PySem.W.Frag} {H : Hp} {a : Addr} {xs ys : List V}
theorem SqT.setL (ha : H a = some (.lst xs)) {b : Addr} {zs : List V} (h : SqT K H b zs) : SqT K (upd H a (.lst ys)) b zs := by
  rcases h with (h | ⟨o, h⟩) | h
  · exact .inl (.inl (by rw [upd_ne (ne_of h ha (fun e => by cases e))]; exact h))
  · exact .inl (.inr ⟨o, by rw [upd_ne (ne_of h ha (fun e => by cases e))]; exact h⟩)
  · exact .inr h
mutual
theorem Dp.setL (ha : H a = some (.lst xs)) : ∀ (d : PyData) (v : V), lfree d = true → Dp K H v d → Dp K (upd H a (.lst ys)) v d
  | .none, _, _, h => by cases h; exact .non
  | .bool b, _, _, h => by cases h; exact .bl _
  | .int i, _, _, h => by cases h; exact .int _
  | .str x, _, _, h => by cases h; exact .str _
  | .list ds, _, l, h => by cases l
  | .tuple ds, _, l, h => by
    cases h with
    | tup hs h2 => exact .tup (SqT.setL ha hs) (DpAll.setL ha ds _ l h2)
  | .dict _, _, _, h => by cases h
theorem DpAll.setL (ha : H a = some (.lst xs)) : ∀ (ds : List PyData) (vs : List V), lfreeAll ds = true → DpAll K H vs ds → DpAll K (upd H a (.lst ys)) vs ds
  | [], _, _, h => by cases h; exact .nil
  | d :: ds, _, l, h => by
    cases h with
    | cons h1 h2 =>
      have l' := Bool.and_eq_true_iff.mp (show (lfree d && lfreeAll ds) = true from l)
      exact .cons (Dp.setL ha d _ l'.1 h1) (DpAll.setL ha ds _ l'.2 h2)
end
end
end DL
namespace L2
open PySem PySem.Spec PyProof.Rows
section
variable {K : PySem.W.Frag} {H : Hp}
theorem DpAll.length : ∀ {vs : List V} {ds : List PyData}, DpAll K H vs ds → vs.length = ds.length
  | _, _, .nil => rfl
  | _, _, .cons _ t => congrArg Nat.succ (DpAll.length t)
theorem DpAll.append : ∀ {vs us : List V} {ds es : List PyData}, DpAll K H vs ds → DpAll K H us es → DpAll K H (vs ++ us) (ds ++ es)
  | _, _, _, _, .nil, s => s
  | _, _, _, _, .cons r t, s => .cons r (DpAll.append t s)
theorem DpAll.take : ∀ (n : Nat) {vs : List V} {ds : List PyData}, DpAll K H vs ds → DpAll K H (vs.take n) (ds.take n)
  | 0, _, _, _ => by simpa using DpAll.nil
  | _ + 1, _, _, .nil => .nil
  | n + 1, _, _, .cons r t => .cons r (DpAll.take n t)
theorem DpAll.drop : ∀ (n : Nat) {vs : List V} {ds : List PyData}, DpAll K H vs ds → DpAll K H (vs.drop n) (ds.drop n)
  | 0, _, _, r => r
  | _ + 1, _, _, .nil => .nil
  | n + 1, _, _, .cons r t => DpAll.drop n t
theorem DpAll.reverse : ∀ {vs : List V} {ds : List PyData}, DpAll K H vs ds → DpAll K H vs.reverse ds.reverse
  | _, _, .nil => .nil
  | _, _, .cons r t => by
    rw [List.reverse_cons, List.reverse_cons]
    exact DpAll.append (DpAll.reverse t) (.cons r .nil)
theorem DpAll.get : ∀ {vs : List V} {ds : List PyData} {i : Nat} {d : PyData}, DpAll K H vs ds → ds[i]? = some d → ∃ v, vs[i]? = some v ∧ Dp K H v d
  | _, _, _, _, .nil, e => by simp at e
  | _, _, 0, _, .cons r _, e => by simp at e; subst e; exact ⟨_, rfl, r⟩
  | _, _, i + 1, x, .cons _ t, e => by
    obtain ⟨u, h1, h2⟩ := DpAll.get (i := i) (d := x) t (by simpa using e)
    exact ⟨u, by simpa using h1, h2⟩
theorem DpAll.get' : ∀ {vs : List V} {ds : List PyData} {i : Nat} {v : V}, DpAll K H vs ds → vs[i]? = some v → ∃ d, ds[i]? = some d ∧ Dp K H v d
  | _, _, _, _, .nil, e => by simp at e
  | _, _, 0, _, .cons r _, e => by simp at e; subst e; exact ⟨_, rfl, r⟩
  | _, _, i + 1, x, .cons _ t, e => by
    obtain ⟨u, h1, h2⟩ := DpAll.get' (i := i) (v := x) t (by simpa using e)
    exact ⟨u, by simpa using h1, h2⟩
theorem Dp.tup_inv {v : V} {ds : List PyData} (h : Dp K H v (.tuple ds)) : ∃ a xs, v = .ref a ∧ SqT K H a xs ∧ DpAll K H xs ds := by
  cases h with
  | tup hs ha => exact ⟨_, _, rfl, hs, ha⟩
theorem Dp.lst_inv {v : V} {ds : List PyData} (h : Dp K H v (.list ds)) : ∃ a xs, v = .ref a ∧ SqL K H a xs ∧ DpAll K H xs ds := by
  cases h with
  | lst hs ha => exact ⟨_, _, rfl, hs, ha⟩
theorem Dp.int_inv {v : V} {i : Int} (h : Dp K H v (.int i)) : v = .int i := by cases h; rfl
theorem Dp.bl_inv {v : V} {b : Bool} (h : Dp K H v (.bool b)) : v = .bl b := by cases h; rfl
theorem Dp.str_inv {v : V} {x : Str} (h : Dp K H v (.str x)) : v = .str x := by cases h; rfl
end

end L2
namespace DL
open PySem PySem.Spec PyProof.Rows L2
/-! ### slots -/
inductive Sl where
  /-- nothing known -/
  | un
  /-- data -/
  | dat (d : PyData)
  /-- data that stood at the entry -/
  | old (d : PyData)
  /-- the draws -/
  | wob
  /-- a list that is being made here -/
  | mtl (a : Addr) (ds : List PyData)
def WokO : WO → V → Hp → Prop
  | none, _, _ => False
  | some (K, aw, ad), v, H => v = .ref aw ∧ Wok K aw ad H
def SlOk (K : PySem.W.Frag) (o : WO) (H0 H : Hp) : Sl → Option V → Prop
  | .un, _ => True
  | .dat d, q => ∃ v, q = some v ∧ Dp K H v d
  | .old d, q => ∃ v, q = some v ∧ Dp K H0 v d
  | .wob, q => ∃ v, q = some v ∧ WokO o v H0
  | .mtl a ds, q => q = some (.ref a) ∧ H0 a = none ∧ ∃ vs, H a = some (.lst vs) ∧ DpAll K H vs ds
def Slots (K : PySem.W.Frag) (o : WO) (H0 H : Hp) : List Sl → L2.St → Prop
  | [], [] => True
  | s :: ρ, q :: σ => SlOk K o H0 H s q ∧ Slots K o H0 H ρ σ
  | _, _ => False
def Sl.dt : Sl → Option PyData
  | .dat d => some d
  | .old d => some d
  | .mtl _ ds => some (.list ds)
  | _ => none
section
variable {K : PySem.W.Frag} {o : WO} {H0 H1 H H' : Hp}
/-- the draws stand at the base -/
def Ent : WO → Hp → Prop
  | none, _ => True
  | some (K, aw, ad), H => Wok K aw ad H
theorem Ent.wok (h : Ent o H0) {v : V} {H : Hp} (q : WokO o v H) : WokO o v H0 := by
  cases o with
  | none => exact q
  | some p => exact ⟨q.1, h⟩
theorem Ent.mono (g : Gr o H H') (h : Ent o H) : Ent o H' := by
  cases o with
  | none => exact h
  | some p => exact g.2 h
theorem WokO.mono (g : Gr o H H') {v : V} (h : WokO o v H) : WokO o v H' := by
  cases o with
  | none => exact h
  | some p => exact ⟨h.1, g.2 h.2⟩
theorem SlOk.mono (g : Gr o H H') : ∀ {s : Sl} {q : Option V}, SlOk K o H0 H s q → SlOk K o H0 H' s q
  | .un, _, _ => trivial
  | .dat d, _, ⟨v, e, h⟩ => ⟨v, e, g.dp d v h⟩
  | .old d, _, h => h
  | .wob, _, h => h
  | .mtl a ds, _, ⟨e, h0, vs, h, ha⟩ => ⟨e, h0, vs, g.keep h rfl, g.dpAll ds vs ha⟩
theorem Slots.mono (g : Gr o H H') : ∀ {ρ : List Sl} {σ : L2.St}, Slots K o H0 H ρ σ → Slots K o H0 H' ρ σ
  | [], [], h => h
  | _ :: _, _ :: _, ⟨h1, h2⟩ => ⟨SlOk.mono g h1, Slots.mono g h2⟩
  | [], _ :: _, h => h.elim
  | _ :: _, [], h => h.elim
theorem Slots.get : ∀ {ρ : List Sl} {σ : L2.St} {i : Nat} {s : Sl}, Slots K o H0 H ρ σ → ρ[i]? = some s → ∃ q, σ[i]? = some q ∧ SlOk K o H0 H s q
  | [], _, i, s, h, e => by simp at e
  | s :: ρ, q :: σ, 0, s', h, e => by
    simp at e; subst e; exact ⟨q, rfl, h.1⟩
  | s :: ρ, q :: σ, i + 1, s', h, e => by
    obtain ⟨q', h1, h2⟩ := Slots.get (i := i) h.2 (by simpa using e)
    exact ⟨q', by simpa using h1, h2⟩
  | _ :: _, [], _, _, h, _ => h.elim
theorem Slots.dt (g : Gr o H0 H) {ρ : List Sl} {σ : L2.St} {i : Nat} {s : Sl} {d : PyData} (h : Slots K o H0 H ρ σ) (e : ρ[i]? = some s) (ed : s.dt = some d) : ∃ v, σ[i]? = some (some v) ∧ Dp K H v d := by
  obtain ⟨q, h1, h2⟩ := h.get e
  cases s with
  | un => cases ed
  | dat d' =>
    cases ed
    obtain ⟨v, rfl, q⟩ := h2
    exact ⟨v, h1, q⟩
  | old d' =>
    cases ed
    obtain ⟨v, rfl, q⟩ := h2
    exact ⟨v, h1, g.dp _ _ q⟩
  | wob => cases ed
  | mtl a ds =>
    cases ed
    obtain ⟨rfl, _, vs, q, qa⟩ := h2
    exact ⟨.ref a, h1, .lst (SqL.of q) qa⟩
theorem Slots.set : ∀ {ρ : List Sl} {σ : L2.St} {i : Nat} {s : Sl} {q : Option V}, Slots K o H0 H ρ σ → SlOk K o H0 H s q → Slots K o H0 H (ρ.set i s) (σ.set i q)
  | [], [], _, _, _, h, _ => h
  | _ :: _, _ :: _, 0, _, _, h, q => ⟨q, h.2⟩
  | _ :: _, _ :: _, i + 1, _, _, h, q => ⟨h.1, Slots.set h.2 q⟩
  | [], _ :: _, _, _, _, h, _ => h.elim
  | _ :: _, [], _, _, _, h, _ => h.elim
/-- a slot's data, free of the base -/
def Sl.young : Sl → Sl
  | .old d => .dat d
  | .mtl _ ds => .dat (.list ds)
  | s => s
/-- a slot's data, as old as the heap -/
def Sl.age : Sl → Sl
  | .dat d => .old d
  | .mtl _ ds => .old (.list ds)
  | s => s
theorem SlOk.rise (g : Gr o H0 H) : ∀ {s : Sl} {q : Option V}, SlOk K o H0 H s q → SlOk K o H H s.young q
  | .un, _, _ => trivial
  | .dat d, _, h => h
  | .old d, _, ⟨v, e, h⟩ => ⟨v, e, g.dp d v h⟩
  | .wob, _, ⟨v, e, h⟩ => ⟨v, e, h.mono g⟩
  | .mtl a ds, _, ⟨e, h0, vs, h, ha⟩ => ⟨.ref a, e, .lst (SqL.of h) ha⟩
theorem SlOk.age (g : Gr o H0 H) : ∀ {s : Sl} {q : Option V}, SlOk K o H0 H s q → SlOk K o H H s.age q
  | .un, _, _ => trivial
  | .dat d, _, h => h
  | .old d, _, ⟨v, e, h⟩ => ⟨v, e, g.dp d v h⟩
  | .wob, _, ⟨v, e, h⟩ => ⟨v, e, h.mono g⟩
  | .mtl a ds, _, ⟨e, h0, vs, h, ha⟩ => ⟨.ref a, e, .lst (SqL.of h) ha⟩
theorem SlOk.fall (g1 : Gr o H1 H) (gw : ∀ v, WokO o v H1 → WokO o v H0) : ∀ {s : Sl} {q : Option V}, SlOk K o H1 H s q → SlOk K o H0 H s.young q
  | .un, _, _ => trivial
  | .dat d, _, h => h
  | .old d, _, ⟨v, e, h⟩ => ⟨v, e, g1.dp d v h⟩
  | .wob, _, ⟨v, e, h⟩ => ⟨v, e, gw v h⟩
  | .mtl a ds, _, ⟨e, h0, vs, h, ha⟩ => ⟨.ref a, e, .lst (SqL.of h) ha⟩
theorem Slots.map {H2 H3 : Hp} {f : Sl → Sl} (hf : ∀ {s : Sl} {q : Option V}, SlOk K o H0 H s q → SlOk K o H2 H3 (f s) q) : ∀ {ρ : List Sl} {σ : L2.St}, Slots K o H0 H ρ σ → Slots K o H2 H3 (ρ.map f) σ
  | [], [], h => h
  | _ :: _, _ :: _, h => ⟨hf h.1, Slots.map hf h.2⟩
  | [], _ :: _, h => h.elim
  | _ :: _, [], h => h.elim
/-- what stands firm when the list at a changes -/
def Sl.firm : Sl → Bool
  | .dat d => lfree d
  | .mtl _ _ => false
  | _ => true
theorem SlOk.setL {a : Addr} {xs ys : List V} (ha : H a = some (.lst xs)) : ∀ {s : Sl} {q : Option V}, s.firm = true → SlOk K o H0 H s q → SlOk K o H0 (upd H a (.lst ys)) s q
  | .un, _, _, _ => trivial
  | .dat d, _, l, ⟨v, e, h⟩ => ⟨v, e, Dp.setL ha d v l h⟩
  | .old d, _, _, h => h
  | .wob, _, _, h => h
  | .mtl b ds, _, l, _ => by cases l
/-- all slots but the i-th stand firm -/
def firmBut : Nat → List Sl → Bool
  | _, [] => true
  | 0, _ :: ρ => ρ.all Sl.firm
  | i + 1, s :: ρ => s.firm && firmBut i ρ
theorem Slots.setAll {a : Addr} {xs ys : List V} (ha : H a = some (.lst xs)) : ∀ {ρ : List Sl} {σ : L2.St}, ρ.all Sl.firm = true → Slots K o H0 H ρ σ → Slots K o H0 (upd H a (.lst ys)) ρ σ
  | [], [], _, h => h
  | s :: ρ, _ :: _, l, h => by
    rw [List.all_cons, Bool.and_eq_true] at l
    exact ⟨h.1.setL ha l.1, Slots.setAll ha l.2 h.2⟩
  | [], _ :: _, _, h => h.elim
  | _ :: _, [], _, h => h.elim
theorem Slots.setL {a : Addr} {xs ys : List V} {es : List PyData} (h0 : H0 a = none) (ha : H a = some (.lst xs)) (he : DpAll K (upd H a (.lst ys)) ys es) :
    ∀ {ρ : List Sl} {σ : L2.St} {i : Nat} {ds : List PyData}, firmBut i ρ = true → ρ[i]? = some (.mtl a ds) → Slots K o H0 H ρ σ → Slots K o H0 (upd H a (.lst ys)) (ρ.set i (.mtl a es)) σ
  | [], _, i, _, _, e, _ => by simp at e
  | s :: ρ, q :: σ, 0, ds, l, e, h => by
    simp at e; subst e
    exact ⟨⟨h.1.1, h0, ys, upd_same, he⟩, Slots.setAll ha l h.2⟩
  | s :: ρ, q :: σ, i + 1, ds, l, e, h => by
    have l' := Bool.and_eq_true_iff.mp (show (s.firm && firmBut i ρ) = true from l)
    exact ⟨h.1.setL ha l'.1, Slots.setL h0 ha he l'.2 (by simpa using e) h.2⟩
  | _ :: _, [], _, _, _, _, h => h.elim
theorem Slots.wipe {ρ : List Sl} {σ : L2.St} (h : Slots K o H0 H ρ σ) : ∀ vs : List Nat, Slots K o H0 H (vs.foldr (fun v r => r.set v .un) ρ) (wipe σ vs)
  | [] => h
  | v :: vs => by
    unfold L2.wipe
    exact Slots.set (Slots.wipe h vs) trivial
end

/-! ### the judgements' readings -/
section
variable (K : PySem.W.Frag) (o : WO) (H0 : Hp) (ρ : List Sl)
def tD (Φ : PyData → Prop) : TE := fun σ H Q => Gr o H0 H ∧ Slots K o H0 H ρ σ ∧ ∀ v H' d, Φ d → Gr o H H' → Dp K H' v d → Q v H'
def tDs (Φ : List PyData → Prop) : TA := fun σ H Q => Gr o H0 H ∧ Slots K o H0 H ρ σ ∧ ∀ vs H' ds, Φ ds → Gr o H H' → DpAll K H' vs ds → Q vs H'
def tT (Ψ : Bool → Prop) : TT := fun σ H Q => Gr o H0 H ∧ Slots K o H0 H ρ σ ∧ ∀ b H', Ψ b → Gr o H H' → Q b H'
def tS (Nx : List Sl → Prop) (Rt : PyData → Prop) : TS := fun D σ H => Ent o H0 ∧ Gr o H0 H ∧ Slots K o H0 H ρ σ ∧ (∀ σ' H' ρ', Nx ρ' → Gr o H0 H' → Slots K o H0 H' ρ' σ' → D.nx σ' H') ∧ (∀ v H' d, Rt d → Gr o H0 H' → Dp K H' v d → D.rt v H')
end
abbrev EV (X : Cx) (o : WO) (H0 : Hp) (ρ : List Sl) (e : Expr) (Φ : PyData → Prop) : Prop := PE X e (tD X.K o H0 ρ Φ)
abbrev EVd (X : Cx) (o : WO) (H0 : Hp) (ρ : List Sl) (e : Expr) (d : PyData) : Prop := PE X e (tD X.K o H0 ρ (· = d))
abbrev EA (X : Cx) (o : WO) (H0 : Hp) (ρ : List Sl) (es : List Expr) (Φ : List PyData → Prop) : Prop := PA X es (tDs X.K o H0 ρ Φ)
abbrev EAd (X : Cx) (o : WO) (H0 : Hp) (ρ : List Sl) (es : List Expr) (ds : List PyData) : Prop := PA X es (tDs X.K o H0 ρ (· = ds))
abbrev TV (X : Cx) (o : WO) (H0 : Hp) (ρ : List Sl) (e : Expr) (Ψ : Bool → Prop) : Prop := PT X e (tT X.K o H0 ρ Ψ)
abbrev TVd (X : Cx) (o : WO) (H0 : Hp) (ρ : List Sl) (e : Expr) (b : Bool) : Prop := PT X e (tT X.K o H0 ρ (· = b))
abbrev WVd (X : Cx) (o : WO) (H0 : Hp) (ρ : List Sl) (e : Expr) (b : Bool) : Prop := PW X e (tT X.K o H0 ρ (· = b))
abbrev SV (X : Cx) (o : WO) (H0 : Hp) (ρ : List Sl) (st : Stmt) (Nx : List Sl → Prop) (Rt : PyData → Prop) : Prop := PS X st (tS X.K o H0 ρ Nx Rt)
abbrev SVs (X : Cx) (o : WO) (H0 : Hp) (ρ : List Sl) (sts : List Stmt) (Nx : List Sl → Prop) (Rt : PyData → Prop) : Prop := PSs X sts (tS X.K o H0 ρ Nx Rt)

/-! ### a reading may be stronger -/
section
variable {X : Cx}
theorem PE.imp {e : Expr} {t t' : TE} (h : PE X e t) (i : ∀ σ H Q, t' σ H Q → t σ H Q) : PE X e t' := ⟨fun pins s σ H Q I q => h.run pins s σ H Q I (i σ H Q q)⟩
theorem PT.imp {e : Expr} {t t' : TT} (h : PT X e t) (i : ∀ σ H Q, t' σ H Q → t σ H Q) : PT X e t' := ⟨fun pins s σ H Q I q => h.run pins s σ H Q I (i σ H Q q)⟩
theorem PW.imp {e : Expr} {t t' : TT} (h : PW X e t) (i : ∀ σ H Q, t' σ H Q → t σ H Q) : PW X e t' := ⟨fun wh pins s σ H Q I q => h.run wh pins s σ H Q I (i σ H Q q)⟩
theorem PA.imp {es : List Expr} {t t' : TA} (h : PA X es t) (i : ∀ σ H Q, t' σ H Q → t σ H Q) : PA X es t' := ⟨fun pos pins s σ H Q I q => h.run pos pins s σ H Q I (i σ H Q q)⟩
theorem PS.imp {st : Stmt} {t t' : TS} (h : PS X st t) (i : ∀ D σ H, t' D σ H → t D σ H) : PS X st t' := ⟨fun pins s σ H D I q => h.run pins s σ H D I (i D σ H q)⟩
theorem PSs.imp {sts : List Stmt} {t t' : TS} (h : PSs X sts t) (i : ∀ D σ H, t' D σ H → t D σ H) : PSs X sts t' := ⟨fun pins s σ H D I q => h.run pins s σ H D I (i D σ H q)⟩
theorem PE.when {p : Prop} {e : Expr} {t : TE} (h : p → PE X e t) : PE X e (fun σ H Q => p ∧ t σ H Q) := ⟨fun pins s σ H Q I q => (h q.1).run pins s σ H Q I q.2⟩
theorem PT.when {p : Prop} {e : Expr} {t : TT} (h : p → PT X e t) : PT X e (fun σ H Q => p ∧ t σ H Q) := ⟨fun pins s σ H Q I q => (h q.1).run pins s σ H Q I q.2⟩
theorem PW.when {p : Prop} {e : Expr} {t : TT} (h : p → PW X e t) : PW X e (fun σ H Q => p ∧ t σ H Q) := ⟨fun wh pins s σ H Q I q => (h q.1).run wh pins s σ H Q I q.2⟩
theorem PSs.ex {α : Type} {p : α → Prop} {sts : List Stmt} {t : α → TS} (h : ∀ a, p a → PSs X sts (t a)) : PSs X sts (fun D σ H => ∃ a, p a ∧ t a D σ H) := ⟨fun pins s σ H D I ⟨a, q, r⟩ => (h a q).run pins s σ H D I r⟩
end

/-! ### expressions -/
section
variable {X : Cx} {o : WO} {H0 : Hp} {ρ : List Sl} {e a b : Expr} {es : List Expr} {pos : Pos} {Φ Φa Φb : PyData → Prop}
theorem ev_imp {Φ' : PyData → Prop} (h : EV X o H0 ρ e Φ) (i : ∀ d, Φ d → Φ' d) : EV X o H0 ρ e Φ' :=
  PE.imp h fun σ H Q ⟨g, sl, k⟩ => ⟨g, sl, fun v H' d hd => k v H' d (i d hd)⟩
theorem ev_eq {d d' : PyData} (h : EVd X o H0 ρ e d) (i : d = d') : EVd X o H0 ρ e d' := i ▸ h
/-- a name -/
theorem ev_name (i : Nat) {s : Sl} {d : PyData} {x : Str} (hρ : ρ[i]? = some s := by rfl) (hs : s.dt = some d := by rfl) (hN : X.N[i]? = some x := by rfl) (hv : Vis X.env.scope x := by first | exact Or.inl rfl | exact Or.inr (Or.inl rfl) | exact Or.inr (Or.inr rfl)) (hd : (x == ("__debug__" : Str)) = false := by decide)
    (hcd : (x == ("__classdict__" : Str)) = false := by decide) : EVd X o H0 ρ (.Name x pos) d :=
  PE.imp (pv i hN hv hd hcd) fun σ H Q ⟨g, sl, k⟩ => by
    obtain ⟨v, h1, h2⟩ := sl.dt g hρ hs
    exact ⟨v, h1, k v H d rfl (Gr.refl _ H) h2⟩
theorem ev_int {i : Int} {j : Nat} : EVd X o H0 ρ (.Constant (.int i) j pos) (.int i) := PE.imp pe_int fun σ H Q ⟨g, sl, k⟩ => k _ H _ rfl (Gr.refl _ H) (.int i)
theorem ev_bl {i : Bool} {j : Nat} : EVd X o H0 ρ (.Constant (.bool i) j pos) (.bool i) := PE.imp pe_bl fun σ H Q ⟨g, sl, k⟩ => k _ H _ rfl (Gr.refl _ H) (.bl i)
theorem ev_str {i : Str} {j : Nat} : EVd X o H0 ρ (.Constant (.str i) j pos) (.str i) := PE.imp pe_str fun σ H Q ⟨g, sl, k⟩ => k _ H _ rfl (Gr.refl _ H) (.str i)
/-- a module's constant -/
theorem ev_glob {x : Str} {v : V} {u : Value} {d : PyData} (hm : X.mg x = some u) (r : RelV v u) (hd : ∀ H, Dp X.K H v d) (hg : Gl X x := by rfl) (hdb : (x == ("__debug__" : Str)) = false := by decide) : EVd X o H0 ρ (.Name x pos) d :=
  PE.imp (pe_glob hg hm r hdb) fun σ H Q ⟨g, sl, k⟩ => k v H d rfl (Gr.refl _ H) (hd H)
/-! arguments -/
theorem ea_nil : EAd X o H0 ρ [] [] := PA.imp pa_nil fun σ H Q ⟨g, sl, k⟩ => k [] H [] rfl (Gr.refl _ H) .nil
theorem ea_cons {Φs Φr : List PyData → Prop} (ha : EV X o H0 ρ e Φ) (hr : EA X o H0 ρ es Φs) (h : ∀ d ds, Φ d → Φs ds → Φr (d :: ds)) (hs : starEach (e :: es) X.env = (false, eval e X.env) :: starEach es X.env := by rfl) : EA X o H0 ρ (e :: es) Φr :=
  PA.imp (pa_cons ha hr hs) fun σ H Q ⟨g, sl, k⟩ => ⟨g, sl, fun v H1 d hd g1 p1 => ⟨Gr.trans g g1, sl.mono g1, fun vs H2 ds hds g2 p2 => k (v :: vs) H2 (d :: ds) (h d ds hd hds) (Gr.trans g1 g2) (.cons (g2.dp d v p1) p2)⟩⟩
theorem ea_consd {d : PyData} {ds : List PyData} (ha : EVd X o H0 ρ e d) (hr : EAd X o H0 ρ es ds) (hs : starEach (e :: es) X.env = (false, eval e X.env) :: starEach es X.env := by rfl) : EAd X o H0 ρ (e :: es) (d :: ds) :=
  ea_cons ha hr (fun _ _ h1 h2 => by rw [h1, h2]) hs
/-! displays -/
theorem ev_tup {Φs : List PyData → Prop} {x1} (h : EA X o H0 ρ es Φs) (i : ∀ ds, Φs ds → ds.length ≤ sizeLine ∧ Φ (.tuple ds)) : EV X o H0 ρ (.Tuple es x1 pos) Φ :=
  PE.imp (pe_tup h) fun σ H Q ⟨g, sl, k⟩ => ⟨g, sl, fun vs H1 ds hds g1 p1 => ⟨by rw [p1.length]; exact (i ds hds).1, fun p hp => k (.ref p) _ (.tuple ds) (i ds hds).2 (Gr.trans g1 (Gr.same (Same.upd_new hp))) (.tup (SqT.of upd_same) (Gr.dpAll (o := none) (Same.upd_new hp) ds vs p1))⟩⟩
theorem ev_tupd {ds : List PyData} {x1} (h : EAd X o H0 ρ es ds) (hl : ds.length ≤ sizeLine := by exact Nat.le_of_ble_eq_true rfl) : EVd X o H0 ρ (.Tuple es x1 pos) (.tuple ds) :=
  ev_tup h fun ds' e => by subst e; exact ⟨hl, rfl⟩
theorem ev_lst {Φs : List PyData → Prop} (h : EA X o H0 ρ es Φs) (i : ∀ ds, Φs ds → ds.length ≤ sizeLine ∧ Φ (.list ds)) : EV X o H0 ρ (.List es pos) Φ :=
  PE.imp (pe_lst h) fun σ H Q ⟨g, sl, k⟩ => ⟨g, sl, fun vs H1 ds hds g1 p1 => ⟨by rw [p1.length]; exact (i ds hds).1, fun p hp => k (.ref p) _ (.list ds) (i ds hds).2 (Gr.trans g1 (Gr.same (Same.upd_new hp))) (.lst (SqL.of upd_same) (Gr.dpAll (o := none) (Same.upd_new hp) ds vs p1))⟩⟩
theorem ev_lstd {ds : List PyData} (h : EAd X o H0 ρ es ds) (hl : ds.length ≤ sizeLine := by exact Nat.le_of_ble_eq_true rfl) : EVd X o H0 ρ (.List es pos) (.list ds) :=
  ev_lst h fun ds' e => by subst e; exact ⟨hl, rfl⟩
/-! operators -/
def Bin (K : PySem.W.Frag) (r : R2) (x y : PyData) (Φ : PyData → Prop) : Prop := ∀ v u H Q, Dp K H v x → Dp K H u y → (∀ v' H' d, Φ d → Same H H' → Dp K H' v' d → Q v' H') → r v u H Q
theorem tOp_imp {r : R2} (h : ∀ x y, Φa x → Φb y → Bin X.K r x y Φ) (σ : L2.St) (H : Hp) (Q : VK) (q : tD X.K o H0 ρ Φ σ H Q) : tOp r (tD X.K o H0 ρ Φa) (tD X.K o H0 ρ Φb) σ H Q := by
  obtain ⟨g, sl, k⟩ := q
  exact ⟨g, sl, fun v H1 x hx g1 p1 => ⟨Gr.trans g g1, sl.mono g1, fun u H2 y hy g2 p2 => h x y hx hy v u H2 Q (g2.dp x v p1) p2 fun v' H' d hd s p => k v' H' d hd (Gr.trans (Gr.trans g1 g2) (Gr.same s)) p⟩⟩
theorem ev_bin {op : Operator} {r : R2} (ho : OpR X (binaryOp op) r) (ha : EV X o H0 ρ a Φa) (hb : EV X o H0 ρ b Φb) (h : ∀ x y, Φa x → Φb y → Bin X.K r x y Φ) : EV X o H0 ρ (.BinOp a op b pos) Φ :=
  PE.imp (pe_op ho ha hb) (tOp_imp h)
theorem ev_cmp {op : CmpOp} {r : R2} (ho : OpR X (compareOp op) r) (hm : behindInMarks op b = false) (ha : EV X o H0 ρ a Φa) (hb : EV X o H0 ρ b Φb) (h : ∀ x y, Φa x → Φb y → Bin X.K r x y Φ) : EV X o H0 ρ (.Compare a [op] [b] pos) Φ :=
  PE.imp (pe_cmpR ho ha hb hm) (tOp_imp h)
theorem ev_ix {r : R2} (hr : IxR X r) (hs : PlainIx b) (ha : EV X o H0 ρ a Φa) (hb : EV X o H0 ρ b Φb) (h : ∀ x y, Φa x → Φb y → Bin X.K r x y Φ) : EV X o H0 ρ (.Subscript a b pos) Φ :=
  PE.imp (pe_ix hr ha hb hs) (tOp_imp h)
theorem bin_rI {C : Int → Int → Prop} {g : Int → Int → Int} {K : PySem.W.Frag} {i j : Int} (c : C i j) (hΦ : Φ (.int (g i j))) : Bin K (rI C fun i j => .int (g i j)) (.int i) (.int j) Φ := fun v u H Q hv hu k => by
  cases hv.int_inv; cases hu.int_inv
  exact ⟨i, j, rfl, rfl, c, k _ H _ hΦ (Same.refl H) (.int _)⟩
theorem bin_rI0 {g : Int → Int → Int} {K : PySem.W.Frag} {i j : Int} (hΦ : Φ (.int (g i j))) : Bin K (rI0 fun i j => .int (g i j)) (.int i) (.int j) Φ := fun v u H Q hv hu k => by
  cases hv.int_inv; cases hu.int_inv
  exact ⟨i, j, rfl, rfl, k _ H _ hΦ (Same.refl H) (.int _)⟩
theorem bin_rB0 {g : Int → Int → Bool} {K : PySem.W.Frag} {i j : Int} (hΦ : Φ (.bool (g i j))) : Bin K (rI0 fun i j => .bl (g i j)) (.int i) (.int j) Φ := fun v u H Q hv hu k => by
  cases hv.int_inv; cases hu.int_inv
  exact ⟨i, j, rfl, rfl, k _ H _ hΦ (Same.refl H) (.bl _)⟩
variable {i j : Int}
theorem ev_add (ha : EVd X o H0 ρ a (.int i)) (hb : EVd X o H0 ρ b (.int j)) : EVd X o H0 ρ (.BinOp a .Add b pos) (.int (i + j)) := ev_bin op_add ha hb fun x y hx hy => by subst hx hy; exact bin_rI0 rfl
theorem ev_sub (ha : EVd X o H0 ρ a (.int i)) (hb : EVd X o H0 ρ b (.int j)) : EVd X o H0 ρ (.BinOp a .Sub b pos) (.int (i - j)) := ev_bin op_sub ha hb fun x y hx hy => by subst hx hy; exact bin_rI0 rfl
theorem ev_mul (ha : EVd X o H0 ρ a (.int i)) (hb : EVd X o H0 ρ b (.int j)) (c : CMulW i j) : EVd X o H0 ρ (.BinOp a .Mult b pos) (.int (i * j)) := ev_bin op_mulW ha hb fun x y hx hy => by subst hx hy; exact bin_rI c rfl
theorem ev_fdiv (ha : EVd X o H0 ρ a (.int i)) (hb : EVd X o H0 ρ b (.int j)) (c : CDivW i j) : EVd X o H0 ρ (.BinOp a .FloorDiv b pos) (.int (i / j)) := ev_bin op_fdivW ha hb fun x y hx hy => by subst hx hy; exact bin_rI c rfl
theorem ev_mod (ha : EVd X o H0 ρ a (.int i)) (hb : EVd X o H0 ρ b (.int j)) (c : 0 < j) : EVd X o H0 ρ (.BinOp a .Mod b pos) (.int (i % j)) := ev_bin op_mod ha hb fun x y hx hy => by subst hx hy; exact bin_rI (C := fun _ j => 0 < j) c rfl
theorem ev_shl (ha : EVd X o H0 ρ a (.int i)) (hb : EVd X o H0 ρ b (.int j)) (c : CShl i j) : EVd X o H0 ρ (.BinOp a .LShift b pos) (.int (i * 2 ^ j.toNat)) := ev_bin op_shlW ha hb fun x y hx hy => by subst hx hy; exact bin_rI c rfl
theorem ev_shr (ha : EVd X o H0 ρ a (.int i)) (hb : EVd X o H0 ρ b (.int j)) (c : 0 ≤ j) : EVd X o H0 ρ (.BinOp a .RShift b pos) (.int (i / 2 ^ j.toNat)) := ev_bin op_shr ha hb fun x y hx hy => by subst hx hy; exact bin_rI (C := fun _ j => 0 ≤ j) c rfl
theorem ev_and_ (ha : EVd X o H0 ρ a (.int i)) (hb : EVd X o H0 ρ b (.int j)) : EVd X o H0 ρ (.BinOp a .BitAnd b pos) (.int (Builtin.bitAnd i j)) := ev_bin op_and ha hb fun x y hx hy => by subst hx hy; exact bin_rI0 rfl
theorem ev_or_ (ha : EVd X o H0 ρ a (.int i)) (hb : EVd X o H0 ρ b (.int j)) : EVd X o H0 ρ (.BinOp a .BitOr b pos) (.int (Builtin.bitOr i j)) := ev_bin op_or ha hb fun x y hx hy => by subst hx hy; exact bin_rI0 rfl
theorem ev_lt (ha : EVd X o H0 ρ a (.int i)) (hb : EVd X o H0 ρ b (.int j)) : EVd X o H0 ρ (.Compare a [.Lt] [b] pos) (.bool (decide (i < j))) := ev_cmp op_lt (nomark _) ha hb fun x y hx hy => by subst hx hy; exact bin_rB0 rfl
theorem ev_le (ha : EVd X o H0 ρ a (.int i)) (hb : EVd X o H0 ρ b (.int j)) : EVd X o H0 ρ (.Compare a [.LtE] [b] pos) (.bool (decide (i ≤ j))) := ev_cmp op_le (nomark _) ha hb fun x y hx hy => by subst hx hy; exact bin_rB0 rfl
theorem ev_gt (ha : EVd X o H0 ρ a (.int i)) (hb : EVd X o H0 ρ b (.int j)) : EVd X o H0 ρ (.Compare a [.Gt] [b] pos) (.bool (decide (j < i))) := ev_cmp op_gt (nomark _) ha hb fun x y hx hy => by subst hx hy; exact bin_rB0 rfl
theorem ev_ge (ha : EVd X o H0 ρ a (.int i)) (hb : EVd X o H0 ρ b (.int j)) : EVd X o H0 ρ (.Compare a [.GtE] [b] pos) (.bool (decide (j ≤ i))) := ev_cmp op_ge (nomark _) ha hb fun x y hx hy => by subst hx hy; exact bin_rB0 rfl
theorem bin_eqI {K : PySem.W.Frag} (hΦ : Φ (.bool (decide (i = j)))) : Bin K rEq (.int i) (.int j) Φ := fun v u H Q hv hu k => by
  cases hv.int_inv; cases hu.int_inv
  exact ⟨rfl, by rw [show decide (V.int i = V.int j) = decide (i = j) from by rw [dec_int]; exact Bool.beq_eq_decide_eq i j]; exact k _ H _ hΦ (Same.refl H) (.bl _)⟩
theorem bin_neI {K : PySem.W.Frag} (hΦ : Φ (.bool (!decide (i = j)))) : Bin K rNe (.int i) (.int j) Φ := fun v u H Q hv hu k => by
  cases hv.int_inv; cases hu.int_inv
  exact ⟨rfl, by rw [show decide (V.int i = V.int j) = decide (i = j) from by rw [dec_int]; exact Bool.beq_eq_decide_eq i j]; exact k _ H _ hΦ (Same.refl H) (.bl _)⟩
theorem bin_eqS {K : PySem.W.Frag} {x y : Str} (hΦ : Φ (.bool (decide (x = y)))) : Bin K rEq (.str x) (.str y) Φ := fun v u H Q hv hu k => by
  cases hv.str_inv; cases hu.str_inv
  exact ⟨rfl, by rw [show decide (V.str x = V.str y) = decide (x = y) from by rw [dec_str]; exact Bool.beq_eq_decide_eq x y]; exact k _ H _ hΦ (Same.refl H) (.bl _)⟩
theorem bin_neS {K : PySem.W.Frag} {x y : Str} (hΦ : Φ (.bool (!decide (x = y)))) : Bin K rNe (.str x) (.str y) Φ := fun v u H Q hv hu k => by
  cases hv.str_inv; cases hu.str_inv
  exact ⟨rfl, by rw [show decide (V.str x = V.str y) = decide (x = y) from by rw [dec_str]; exact Bool.beq_eq_decide_eq x y]; exact k _ H _ hΦ (Same.refl H) (.bl _)⟩
theorem ev_eqI (ha : EVd X o H0 ρ a (.int i)) (hb : EVd X o H0 ρ b (.int j)) : EVd X o H0 ρ (.Compare a [.Eq] [b] pos) (.bool (decide (i = j))) := ev_cmp op_eq (nomark _) ha hb fun x y hx hy => by subst hx hy; exact bin_eqI rfl
theorem ev_neI (ha : EVd X o H0 ρ a (.int i)) (hb : EVd X o H0 ρ b (.int j)) : EVd X o H0 ρ (.Compare a [.NotEq] [b] pos) (.bool (!decide (i = j))) := ev_cmp op_ne (nomark _) ha hb fun x y hx hy => by subst hx hy; exact bin_neI rfl
theorem ev_eqS {x y : Str} (ha : EVd X o H0 ρ a (.str x)) (hb : EVd X o H0 ρ b (.str y)) : EVd X o H0 ρ (.Compare a [.Eq] [b] pos) (.bool (decide (x = y))) := ev_cmp op_eq (nomark _) ha hb fun x y hx hy => by subst hx hy; exact bin_eqS rfl
theorem ev_neS {x y : Str} (ha : EVd X o H0 ρ a (.str x)) (hb : EVd X o H0 ρ b (.str y)) : EVd X o H0 ρ (.Compare a [.NotEq] [b] pos) (.bool (!decide (x = y))) := ev_cmp op_ne (nomark _) ha hb fun x y hx hy => by subst hx hy; exact bin_neS rfl
/-- data -/
theorem bin_eqD {K : PySem.W.Frag} {x y : PyData} (sx : SeqAt.shaped x = true) (sy : SeqAt.shaped y = true) (hΦ : Φ (.bool (PyData.eqv x y))) : Bin K (rEqD K) x y Φ := fun v u H Q hv hu k => ⟨x, y, hv, hu, sx, sy, k _ H _ hΦ (Same.refl H) (.bl _)⟩
theorem bin_neD {K : PySem.W.Frag} {x y : PyData} (sx : SeqAt.shaped x = true) (sy : SeqAt.shaped y = true) (hΦ : Φ (.bool (!PyData.eqv x y))) : Bin K (rNeD K) x y Φ := fun v u H Q hv hu k => ⟨x, y, hv, hu, sx, sy, k _ H _ hΦ (Same.refl H) (.bl _)⟩
theorem ev_eqD {k : Nat} (hr : Room k X.A) {x y : PyData} {c : Bool} (ha : EVd X o H0 ρ a x) (hb : EVd X o H0 ρ b y) (sx : SeqAt.shaped x = true) (sy : SeqAt.shaped y = true) (hc : PyData.eqv x y = c) : EVd X o H0 ρ (.Compare a [.Eq] [b] pos) (.bool c) :=
  ev_cmp (op_eqD hr.units) (nomark _) ha hb fun x' y' hx hy => by subst hx hy; exact bin_eqD sx sy (by rw [hc])
theorem ev_neD {k : Nat} (hr : Room k X.A) {x y : PyData} {c : Bool} (ha : EVd X o H0 ρ a x) (hb : EVd X o H0 ρ b y) (sx : SeqAt.shaped x = true) (sy : SeqAt.shaped y = true) (hc : PyData.eqv x y = c) : EVd X o H0 ρ (.Compare a [.NotEq] [b] pos) (.bool (!c)) :=
  ev_cmp (op_neD hr.units) (nomark _) ha hb fun x' y' hx hy => by subst hx hy; exact bin_neD sx sy (by rw [hc])
/-- is, of bools -/
theorem ev_isB {x y : Bool} (ha : EVd X o H0 ρ a (.bool x)) (hb : EVd X o H0 ρ b (.bool y)) : EVd X o H0 ρ (.Compare a [.Is] [b] pos) (.bool (decide (x = y))) :=
  ev_cmp op_isBl (nomark _) ha hb fun x' y' hx hy => by
    subst hx hy
    intro v u H Q hv hu k
    cases hv.bl_inv; cases hu.bl_inv
    exact ⟨x, y, rfl, rfl, k _ H _ rfl (Same.refl H) (.bl _)⟩
theorem ev_eqB {x y : Bool} (ha : EVd X o H0 ρ a (.bool x)) (hb : EVd X o H0 ρ b (.bool y)) : EVd X o H0 ρ (.Compare a [.Eq] [b] pos) (.bool (decide (x = y))) :=
  ev_cmp op_eq (nomark _) ha hb fun x' y' hx hy => by
    subst hx hy
    intro v u H Q hv hu k
    cases hv.bl_inv; cases hu.bl_inv
    refine ⟨rfl, ?_⟩
    rw [show decide (V.bl x = V.bl y) = decide (x = y) from by rw [dec_bl]; exact Bool.beq_eq_decide_eq x y]
    exact k _ H _ rfl (Same.refl H) (.bl _)
theorem ev_neB {x y : Bool} (ha : EVd X o H0 ρ a (.bool x)) (hb : EVd X o H0 ρ b (.bool y)) : EVd X o H0 ρ (.Compare a [.NotEq] [b] pos) (.bool (!decide (x = y))) :=
  ev_cmp op_ne (nomark _) ha hb fun x' y' hx hy => by
    subst hx hy
    intro v u H Q hv hu k
    cases hv.bl_inv; cases hu.bl_inv
    refine ⟨rfl, ?_⟩
    rw [show decide (V.bl x = V.bl y) = decide (x = y) from by rw [dec_bl]; exact Bool.beq_eq_decide_eq x y]
    exact k _ H _ rfl (Same.refl H) (.bl _)
/-- -e -/
theorem ev_neg (ha : EVd X o H0 ρ a (.int i)) : EVd X o H0 ρ (.UnaryOp .USub a pos) (.int (-i)) :=
  PE.imp (pe_un un_neg ha) fun σ H Q ⟨g, sl, k⟩ => ⟨g, sl, fun v H1 d hd g1 p1 => by
    subst hd; cases p1.int_inv
    exact ⟨i, rfl, k _ H1 _ rfl g1 (.int _)⟩⟩
/-! items -/
theorem atI_nat' {α : Type} {xs : List α} {j : Nat} {v : α} (h : xs[j]? = some v) : atI xs (j : Int) = some v := atI_nat h
theorem ev_item {ds : List PyData} {d : PyData} (n : Nat) (ha : EVd X o H0 ρ a (.tuple ds)) (hb : EVd X o H0 ρ b (.int n)) (hi : ds[n]? = some d := by rfl) (hs : PlainIx b := by exact fun _ _ => rfl) : EVd X o H0 ρ (.Subscript a b pos) d :=
  ev_ix ix_tup hs ha hb fun x y hx hy => by
    subst hx hy
    intro v u H Q hv hu k
    obtain ⟨p, xs, rfl, hs, hp⟩ := hv.tup_inv
    cases hu.int_inv
    obtain ⟨v, h1, h2⟩ := hp.get hi
    exact ⟨p, xs, n, v, rfl, rfl, hs, atI_nat h1, k v H d rfl (Same.refl H) h2⟩
theorem ev_itemL {ds : List PyData} {Φi : PyData → Prop} (ha : EVd X o H0 ρ a (.list ds)) (hb : EV X o H0 ρ b Φi) (hi : ∀ y, Φi y → ∃ n : Nat, y = .int n ∧ ∃ d, ds[n]? = some d ∧ Φ d) (hs : PlainIx b := by exact fun _ _ => rfl) : EV X o H0 ρ (.Subscript a b pos) Φ :=
  ev_ix ix_list hs ha hb fun x y hx hy => by
    subst hx
    obtain ⟨n, rfl, d, hd, hΦ⟩ := hi y hy
    intro v u H Q hv hu k
    obtain ⟨p, xs, rfl, hs, hp⟩ := hv.lst_inv
    cases hu.int_inv
    obtain ⟨v, h1, h2⟩ := hp.get hd
    exact ⟨p, xs, n, v, rfl, rfl, hs, atI_nat h1, k v H d hΦ (Same.refl H) h2⟩
/-! + of tuples, of lists -/
theorem ev_catT {ds es' : List PyData} (ha : EVd X o H0 ρ a (.tuple ds)) (hb : EVd X o H0 ρ b (.tuple es')) (hl : ds.length + es'.length ≤ sizeLine := by exact Nat.le_of_ble_eq_true rfl) : EVd X o H0 ρ (.BinOp a .Add b pos) (.tuple (ds ++ es')) :=
  ev_bin op_catA ha hb fun x y hx hy => by
    subst hx hy
    intro v u H Q hv hu k
    obtain ⟨p, xs, rfl, hs, hp⟩ := hv.tup_inv
    obtain ⟨q, ys, rfl, hs', hp'⟩ := hu.tup_inv
    refine ⟨p, q, xs, ys, rfl, rfl, hs, hs', by rw [hp.length, hp'.length]; exact hl, fun e => ?_, fun _ e => ?_, fun _ _ r hr => ?_⟩
    · subst e; cases hp
      exact k _ H _ rfl (Same.refl H) (.tup hs' hp')
    · subst e; cases hp'
      exact k _ H _ rfl (Same.refl H) (by rw [List.append_nil]; exact .tup hs hp)
    · exact k _ _ _ rfl (Same.upd_new hr) (.tup (SqT.of upd_same) (Gr.dpAll (o := none) (Same.upd_new hr) _ _ (hp.append hp')))
end
end DL

namespace DL
open PySem PySem.Spec PyProof.Rows L2
section
variable {X : Cx} {o : WO} {H0 : Hp} {ρ : List Sl} {e a b : Expr} {es rest : List Expr} {pos : Pos} {Φ Φa Φb : PyData → Prop} {Ψ : Bool → Prop}
/-! + of lists -/
def rCatS (K : PySem.W.Frag) : R2 := fun x y H Q => ∃ l b xs zs, x = .ref l ∧ y = .ref b ∧ SqL K H l xs ∧ SqL K H b zs ∧ xs.length + zs.length ≤ sizeLine ∧ ∀ p, H p = none → Q (.ref p) (upd H p (.lst (xs ++ zs)))
theorem op_catS : OpR X (binaryOp .Add) (rCatS X.K) := by
  intro pins s σ H x y v u Q I rx ry h
  obtain ⟨l, b, xs, zs, rfl, rfl, hH, hB, hz, q⟩ := h
  cases rx
  cases ry
  obtain ⟨its, r, pl, z⟩ := I.list hH
  obtain ⟨its2, r2, pl2, z2⟩ := I.list hB
  obtain ⟨⟨cls, dd, data, sl⟩, ho, hc, n, hd⟩ := id pl.isList
  obtain ⟨⟨cls2, dd2, data2, sl2⟩, ho2, hc2, n2, hd2⟩ := id pl2.isList
  simp only at hc hd hc2 hd2
  subst hc hd hc2 hd2
  have ea : its.toArray ++ its2.toArray = (its ++ its2).toArray := by simp
  refine concat_meets ⟨_, ho, rfl⟩ ⟨_, ho2, rfl⟩ noFill_list_add seq_list_add PySem.F.slot_list_add PySem.F.entry_list_add (PySem.F.args_list_add_2 _ _) (list_addW l b its.toArray its2.toArray n n2 dd dd2 sl sl2 (by rw [List.size_toArray, List.size_toArray, ← r.length, ← r2.length]; exact hz)) ⟨ho, ho2, ?_⟩
  rw [ea]
  exact ⟨.ref _, _, I.lnew (t' := s.toks) (r.append r2) (by rw [List.length_append]; omega), rfl, q _ I.fresh⟩
theorem ev_catL' (ha : EV X o H0 ρ a Φa) (hb : EV X o H0 ρ b Φb) (h : ∀ x y, Φa x → Φb y → ∃ ds es', x = .list ds ∧ y = .list es' ∧ ds.length + es'.length ≤ sizeLine ∧ Φ (.list (ds ++ es'))) : EV X o H0 ρ (.BinOp a .Add b pos) Φ :=
  ev_bin op_catS ha hb fun x y hx hy => by
    obtain ⟨ds, es', rfl, rfl, hl, hΦ⟩ := h x y hx hy
    intro v u H Q hv hu k
    obtain ⟨p, xs, rfl, hs, hp⟩ := hv.lst_inv
    obtain ⟨q, ys, rfl, hs', hp'⟩ := hu.lst_inv
    exact ⟨p, q, xs, ys, rfl, rfl, hs, hs', by rw [hp.length, hp'.length]; exact hl, fun r hr => k _ _ _ hΦ (Same.upd_new hr) (.lst (SqL.of upd_same) (Gr.dpAll (o := none) (Same.upd_new hr) _ _ (hp.append hp')))⟩
theorem ev_catL {ds es' : List PyData} (ha : EVd X o H0 ρ a (.list ds)) (hb : EVd X o H0 ρ b (.list es')) (hl : ds.length + es'.length ≤ sizeLine) : EVd X o H0 ρ (.BinOp a .Add b pos) (.list (ds ++ es')) :=
  ev_catL' ha hb fun x y hx hy => ⟨ds, es', hx, hy, hl, rfl⟩
/-! in, not in: a tuple of flat data -/
theorem flat_of {K : PySem.W.Frag} {H : Hp} : ∀ {vs : List V} {xs : List Str}, DpAll K H vs (xs.map PyData.str) → vs = xs.map V.str
  | _, [], h => by cases h; rfl
  | _, x :: xs, h => by
    cases h with
    | cons h1 h2 => cases h1.str_inv; rw [flat_of h2]; rfl
theorem inV_str (x : Str) (xs : List Str) : inV (.str x) (xs.map V.str) = decide (x ∈ xs) := by
  unfold inV
  induction xs with
  | nil => simp
  | cons y ys ih =>
    rw [List.map_cons, List.any_cons, ih]
    show (eqV (V.str y) (V.str x) || decide (x ∈ ys)) = decide (x ∈ y :: ys)
    have : eqV (V.str y) (V.str x) = decide (x = y) := by
      show (y == x) = decide (x = y)
      rw [Bool.beq_eq_decide_eq]
      exact decide_eq_decide.mpr ⟨Eq.symm, Eq.symm⟩
    rw [this]
    by_cases h : x = y <;> simp [h]
theorem all_flat (xs : List Str) : (xs.map V.str).all flatV = true := by
  rw [List.all_eq_true]
  intro v hv
  obtain ⟨x, _, rfl⟩ := List.mem_map.mp hv
  rfl
theorem ev_inS {x : Str} {xs : List Str} {ds : List PyData} (ha : EVd X o H0 ρ a (.str x)) (hb : EVd X o H0 ρ b (.tuple ds)) (hd : ds = xs.map PyData.str := by rfl) (hm : behindInMarks .In b = false := by rfl) : EVd X o H0 ρ (.Compare a [.In] [b] pos) (.bool (decide (x ∈ xs))) :=
  ev_cmp op_in_seq hm ha hb fun x' y hx hy => by
    subst hx hy hd
    intro v u H Q hv hu k
    cases hv.str_inv
    obtain ⟨p, vs, rfl, hs, hp⟩ := hu.tup_inv
    cases flat_of hp
    refine ⟨p, _, rfl, .inr hs, rfl, all_flat xs, ?_⟩
    show Q (.bl (inV (.str x) (xs.map V.str))) H
    rw [inV_str]
    exact k _ H _ rfl (Same.refl H) (.bl _)
theorem ev_notInS {x : Str} {xs : List Str} {ds : List PyData} (ha : EVd X o H0 ρ a (.str x)) (hb : EVd X o H0 ρ b (.tuple ds)) (hd : ds = xs.map PyData.str := by rfl) (hm : behindInMarks .NotIn b = false := by rfl) : EVd X o H0 ρ (.Compare a [.NotIn] [b] pos) (.bool (!decide (x ∈ xs))) :=
  ev_cmp op_notIn_seq hm ha hb fun x' y hx hy => by
    subst hx hy hd
    intro v u H Q hv hu k
    cases hv.str_inv
    obtain ⟨p, vs, rfl, hs, hp⟩ := hu.tup_inv
    cases flat_of hp
    refine ⟨p, _, rfl, .inr hs, rfl, all_flat xs, ?_⟩
    show Q (.bl (!inV (.str x) (xs.map V.str))) H
    rw [inV_str]
    exact k _ H _ rfl (Same.refl H) (.bl _)
/-- x in data, x not in data -/
def rInDT (K : PySem.W.Frag) : R2 := fun x y H Q => ∃ d ds, Dp K H x d ∧ Dp K H y (.tuple ds) ∧ SeqAt.shaped d = true ∧ SeqAt.shaped (.tuple ds) = true ∧ Q (.bl (ds.any fun z => PyData.eqv z d)) H
def rNotInDT (K : PySem.W.Frag) : R2 := fun x y H Q => ∃ d ds, Dp K H x d ∧ Dp K H y (.tuple ds) ∧ SeqAt.shaped d = true ∧ SeqAt.shaped (.tuple ds) = true ∧ Q (.bl (!ds.any fun z => PyData.eqv z d)) H
theorem op_inDT (hu : X.A.units + 65 < cLine) : OpR X (compareOp .In) (rInDT X.K) := by
  intro pins s σ H x y v u Q I rx ry h
  obtain ⟨d, ds, hd, he, sd, se, q⟩ := h
  obtain ⟨as, r1⟩ := Dp.reads I d x v hd rx
  obtain ⟨bs, r2⟩ := Dp.reads I (.tuple ds) y u he ry
  exact SeqAt.in_tuple_reads r2 r1 (SeqAt.canLay_of_shaped se) (SeqAt.canLay_of_shaped sd) (room_in_shaped sd hu) ⟨.bl _, H, I, rfl, q⟩
theorem op_notInDT (hu : X.A.units + 65 < cLine) : OpR X (compareOp .NotIn) (rNotInDT X.K) := by
  intro pins s σ H x y v u Q I rx ry h
  obtain ⟨d, ds, hd, he, sd, se, q⟩ := h
  obtain ⟨as, r1⟩ := Dp.reads I d x v hd rx
  obtain ⟨bs, r2⟩ := Dp.reads I (.tuple ds) y u he ry
  exact SeqAt.notIn_tuple_reads r2 r1 (SeqAt.canLay_of_shaped se) (SeqAt.canLay_of_shaped sd) (room_in_shaped sd hu) ⟨.bl _, H, I, rfl, q⟩
theorem room65 {k : Nat} {A : Around} (r : Room k A) : A.units + 65 < cLine := by have := r.un; omega
theorem ev_inD {k : Nat} (hr : Room k X.A) {x : PyData} {ds : List PyData} {c : Bool} (ha : EVd X o H0 ρ a x) (hb : EVd X o H0 ρ b (.tuple ds)) (sx : SeqAt.shaped x = true) (sy : SeqAt.shaped (.tuple ds) = true) (hc : (ds.any fun z => PyData.eqv z x) = c) (hm : behindInMarks .In b = false := by rfl) : EVd X o H0 ρ (.Compare a [.In] [b] pos) (.bool c) :=
  ev_cmp (op_inDT (room65 hr)) hm ha hb fun x' y hx hy => by
    subst hx hy
    intro v u H Q hv hu k
    exact ⟨_, _, hv, hu, sx, sy, by rw [hc]; exact k _ H _ rfl (Same.refl H) (.bl _)⟩
theorem ev_notInD {k : Nat} (hr : Room k X.A) {x : PyData} {ds : List PyData} {c : Bool} (ha : EVd X o H0 ρ a x) (hb : EVd X o H0 ρ b (.tuple ds)) (sx : SeqAt.shaped x = true) (sy : SeqAt.shaped (.tuple ds) = true) (hc : (ds.any fun z => PyData.eqv z x) = c) (hm : behindInMarks .NotIn b = false := by rfl) : EVd X o H0 ρ (.Compare a [.NotIn] [b] pos) (.bool (!c)) :=
  ev_cmp (op_notInDT (room65 hr)) hm ha hb fun x' y hx hy => by
    subst hx hy
    intro v u H Q hv hu k
    exact ⟨_, _, hv, hu, sx, sy, by rw [hc]; exact k _ H _ rfl (Same.refl H) (.bl _)⟩
/-! ### tests -/
theorem tv_val {Φ : PyData → Prop} (h : EV X o H0 ρ e Φ) (i : ∀ d, Φ d → ∃ c, d = .bool c ∧ Ψ c) (he : ∀ whole, isTrue e X.env whole = (do let v ← whole; standAt e.pos; holding [v] (truthy v)) := by intro _; rfl) : TV X o H0 ρ e Ψ :=
  PT.imp (pt_val h he) fun σ H Q ⟨g, sl, k⟩ => ⟨g, sl, fun v H1 d hd g1 p1 => by
    obtain ⟨c, rfl, hc⟩ := i d hd
    cases p1.bl_inv
    exact ⟨c, rfl, k c H1 hc g1⟩⟩
theorem tv_vald {c : Bool} (h : EVd X o H0 ρ e (.bool c)) (he : ∀ whole, isTrue e X.env whole = (do let v ← whole; standAt e.pos; holding [v] (truthy v)) := by intro _; rfl) : TVd X o H0 ρ e c :=
  tv_val h (fun d hd => ⟨c, hd, rfl⟩) he
theorem tv_imp {Ψ' : Bool → Prop} (h : TV X o H0 ρ e Ψ) (i : ∀ d, Ψ d → Ψ' d) : TV X o H0 ρ e Ψ' :=
  PT.imp h fun σ H Q ⟨g, sl, k⟩ => ⟨g, sl, fun v H' hd => k v H' (i v hd)⟩
theorem tv_eq {c c' : Bool} (h : TVd X o H0 ρ e c) (i : c = c') : TVd X o H0 ρ e c' := i ▸ h
theorem tv_not {c : Bool} (h : TVd X o H0 ρ a c) : TVd X o H0 ρ (.UnaryOp .Not a pos) (!c) :=
  PT.imp (pt_not h) fun σ H Q ⟨g, sl, k⟩ => ⟨g, sl, fun v H1 hd g1 => by subst hd; exact k _ H1 rfl g1⟩
theorem wv_and1 {c : Bool} (h : TVd X o H0 ρ a c) : WVd X o H0 ρ (.BoolOp .And [a] pos) c := pw_and1 h
theorem wv_or1 {c : Bool} (h : TVd X o H0 ρ a c) : WVd X o H0 ρ (.BoolOp .Or [a] pos) c := pw_or1 h
theorem wv_and {c c' : Bool} (h : TVd X o H0 ρ a c) (h' : c = true → WVd X o H0 ρ (.BoolOp .And (b :: rest) pos) c') : WVd X o H0 ρ (.BoolOp .And (a :: b :: rest) pos) (c && c') :=
  PW.imp (pw_and h (PW.when h')) fun σ H Q ⟨g, sl, k⟩ => ⟨g, sl, fun v H1 hd g1 => by
    subst hd
    by_cases hv : v = true
    · rw [if_pos hv]
      refine ⟨hv, Gr.trans g g1, sl.mono g1, fun v2 H2 hd2 g2 => ?_⟩
      subst hd2
      exact k _ H2 (by rw [hv]; rfl) (Gr.trans g1 g2)
    · rw [if_neg hv]
      exact k _ H1 (by rw [eq_false_of_ne_true hv]; rfl) g1⟩
theorem wv_or {c c' : Bool} (h : TVd X o H0 ρ a c) (h' : c = false → WVd X o H0 ρ (.BoolOp .Or (b :: rest) pos) c') : WVd X o H0 ρ (.BoolOp .Or (a :: b :: rest) pos) (c || c') :=
  PW.imp (pw_or h (PW.when h')) fun σ H Q ⟨g, sl, k⟩ => ⟨g, sl, fun v H1 hd g1 => by
    subst hd
    by_cases hv : v = true
    · rw [if_pos hv]
      exact k _ H1 (by rw [hv]; rfl) g1
    · rw [if_neg hv]
      refine ⟨eq_false_of_ne_true hv, Gr.trans g g1, sl.mono g1, fun v2 H2 hd2 g2 => ?_⟩
      subst hd2
      exact k _ H2 (by rw [eq_false_of_ne_true hv]; rfl) (Gr.trans g1 g2)⟩
theorem tv_w {c : Bool} (h : WVd X o H0 ρ e c) : TVd X o H0 ρ e c := h.pt
/-! comparisons as tests -/
theorem tv_cmp {op : CmpOp} {r : R2} (ho : OpR X (compareOp op) r) (hm : behindInMarks op b = false) (ha : EV X o H0 ρ a Φa) (hb : EV X o H0 ρ b Φb) (h : ∀ x y, Φa x → Φb y → Bin X.K r x y (fun d => ∃ c, d = .bool c ∧ Ψ c)) : TV X o H0 ρ (.Compare a [op] [b] pos) Ψ :=
  PT.imp (pt_cmpR ho ha hb hm) fun σ H Q ⟨g, sl, k⟩ => tOp_imp (Φ := fun d => ∃ c, d = .bool c ∧ Ψ c) h σ H _ ⟨g, sl, fun v H' d hd g' p => by
    obtain ⟨c, rfl, hc⟩ := hd
    cases p.bl_inv
    exact ⟨c, rfl, k c H' hc g'⟩⟩
theorem tv_cmpd {op : CmpOp} {r : R2} {x y : PyData} {c : Bool} (ho : OpR X (compareOp op) r) (hm : behindInMarks op b = false) (ha : EVd X o H0 ρ a x) (hb : EVd X o H0 ρ b y) (h : Bin X.K r x y (· = .bool c)) : TVd X o H0 ρ (.Compare a [op] [b] pos) c :=
  tv_cmp ho hm ha hb fun x' y' hx hy => by
    subst hx hy
    intro v u H Q hv hu k
    exact h v u H Q hv hu fun v' H' d hd s p => k v' H' d ⟨c, hd, rfl⟩ s p
section
variable {i j : Int}
theorem tv_lt (ha : EVd X o H0 ρ a (.int i)) (hb : EVd X o H0 ρ b (.int j)) : TVd X o H0 ρ (.Compare a [.Lt] [b] pos) (decide (i < j)) := tv_cmpd op_lt (nomark _) ha hb (bin_rB0 rfl)
theorem tv_le (ha : EVd X o H0 ρ a (.int i)) (hb : EVd X o H0 ρ b (.int j)) : TVd X o H0 ρ (.Compare a [.LtE] [b] pos) (decide (i ≤ j)) := tv_cmpd op_le (nomark _) ha hb (bin_rB0 rfl)
theorem tv_gt (ha : EVd X o H0 ρ a (.int i)) (hb : EVd X o H0 ρ b (.int j)) : TVd X o H0 ρ (.Compare a [.Gt] [b] pos) (decide (j < i)) := tv_cmpd op_gt (nomark _) ha hb (bin_rB0 rfl)
theorem tv_ge (ha : EVd X o H0 ρ a (.int i)) (hb : EVd X o H0 ρ b (.int j)) : TVd X o H0 ρ (.Compare a [.GtE] [b] pos) (decide (j ≤ i)) := tv_cmpd op_ge (nomark _) ha hb (bin_rB0 rfl)
theorem tv_eqI (ha : EVd X o H0 ρ a (.int i)) (hb : EVd X o H0 ρ b (.int j)) : TVd X o H0 ρ (.Compare a [.Eq] [b] pos) (decide (i = j)) := tv_cmpd op_eq (nomark _) ha hb (bin_eqI rfl)
theorem tv_neI (ha : EVd X o H0 ρ a (.int i)) (hb : EVd X o H0 ρ b (.int j)) : TVd X o H0 ρ (.Compare a [.NotEq] [b] pos) (!decide (i = j)) := tv_cmpd op_ne (nomark _) ha hb (bin_neI rfl)
theorem tv_eqS {x y : Str} (ha : EVd X o H0 ρ a (.str x)) (hb : EVd X o H0 ρ b (.str y)) : TVd X o H0 ρ (.Compare a [.Eq] [b] pos) (decide (x = y)) := tv_cmpd op_eq (nomark _) ha hb (bin_eqS rfl)
theorem tv_neS {x y : Str} (ha : EVd X o H0 ρ a (.str x)) (hb : EVd X o H0 ρ b (.str y)) : TVd X o H0 ρ (.Compare a [.NotEq] [b] pos) (!decide (x = y)) := tv_cmpd op_ne (nomark _) ha hb (bin_neS rfl)
theorem tv_eqD {k : Nat} (hr : Room k X.A) {x y : PyData} {c : Bool} (ha : EVd X o H0 ρ a x) (hb : EVd X o H0 ρ b y) (sx : SeqAt.shaped x = true) (sy : SeqAt.shaped y = true) (hc : PyData.eqv x y = c) : TVd X o H0 ρ (.Compare a [.Eq] [b] pos) c :=
  tv_cmpd (op_eqD hr.units) (nomark _) ha hb (bin_eqD sx sy (by rw [hc]))
theorem tv_neD {k : Nat} (hr : Room k X.A) {x y : PyData} {c : Bool} (ha : EVd X o H0 ρ a x) (hb : EVd X o H0 ρ b y) (sx : SeqAt.shaped x = true) (sy : SeqAt.shaped y = true) (hc : PyData.eqv x y = c) : TVd X o H0 ρ (.Compare a [.NotEq] [b] pos) (!c) :=
  tv_cmpd (op_neD hr.units) (nomark _) ha hb (bin_neD sx sy (by rw [hc]))
theorem bin_inS {K : PySem.W.Frag} {x : Str} {xs : List Str} (hΦ : Φ (.bool (decide (x ∈ xs)))) : Bin K (rIn K false) (.str x) (.tuple (xs.map PyData.str)) Φ := fun v u H Q hv hu k => by
  cases hv.str_inv
  obtain ⟨p, vs, rfl, hs, hp⟩ := hu.tup_inv
  cases flat_of hp
  refine ⟨p, _, rfl, .inr hs, rfl, all_flat xs, ?_⟩
  show Q (.bl (inV (.str x) (xs.map V.str))) H
  rw [inV_str]
  exact k _ H _ hΦ (Same.refl H) (.bl _)
theorem bin_notInS {K : PySem.W.Frag} {x : Str} {xs : List Str} (hΦ : Φ (.bool (!decide (x ∈ xs)))) : Bin K (rIn K true) (.str x) (.tuple (xs.map PyData.str)) Φ := fun v u H Q hv hu k => by
  cases hv.str_inv
  obtain ⟨p, vs, rfl, hs, hp⟩ := hu.tup_inv
  cases flat_of hp
  refine ⟨p, _, rfl, .inr hs, rfl, all_flat xs, ?_⟩
  show Q (.bl (!inV (.str x) (xs.map V.str))) H
  rw [inV_str]
  exact k _ H _ hΦ (Same.refl H) (.bl _)
theorem tv_inS {x : Str} {xs : List Str} {ds : List PyData} (ha : EVd X o H0 ρ a (.str x)) (hb : EVd X o H0 ρ b (.tuple ds)) (hd : ds = xs.map PyData.str := by rfl) (hm : behindInMarks .In b = false := by rfl) : TVd X o H0 ρ (.Compare a [.In] [b] pos) (decide (x ∈ xs)) := by
  subst hd; exact tv_cmpd op_in_seq hm ha hb (bin_inS rfl)
theorem tv_notInS {x : Str} {xs : List Str} {ds : List PyData} (ha : EVd X o H0 ρ a (.str x)) (hb : EVd X o H0 ρ b (.tuple ds)) (hd : ds = xs.map PyData.str := by rfl) (hm : behindInMarks .NotIn b = false := by rfl) : TVd X o H0 ρ (.Compare a [.NotIn] [b] pos) (!decide (x ∈ xs)) := by
  subst hd; exact tv_cmpd op_notIn_seq hm ha hb (bin_notInS rfl)
theorem tv_inD {k : Nat} (hr : Room k X.A) {x : PyData} {ds : List PyData} {c : Bool} (ha : EVd X o H0 ρ a x) (hb : EVd X o H0 ρ b (.tuple ds)) (sx : SeqAt.shaped x = true) (sy : SeqAt.shaped (.tuple ds) = true) (hc : (ds.any fun z => PyData.eqv z x) = c) (hm : behindInMarks .In b = false := by rfl) : TVd X o H0 ρ (.Compare a [.In] [b] pos) c :=
  tv_cmpd (op_inDT (room65 hr)) hm ha hb fun v u H Q hv hu k => ⟨_, _, hv, hu, sx, sy, by rw [hc]; exact k _ H _ rfl (Same.refl H) (.bl _)⟩
theorem tv_notInD {k : Nat} (hr : Room k X.A) {x : PyData} {ds : List PyData} {c : Bool} (ha : EVd X o H0 ρ a x) (hb : EVd X o H0 ρ b (.tuple ds)) (sx : SeqAt.shaped x = true) (sy : SeqAt.shaped (.tuple ds) = true) (hc : (ds.any fun z => PyData.eqv z x) = c) (hm : behindInMarks .NotIn b = false := by rfl) : TVd X o H0 ρ (.Compare a [.NotIn] [b] pos) (!c) :=
  tv_cmpd (op_notInDT (room65 hr)) hm ha hb fun v u H Q hv hu k => ⟨_, _, hv, hu, sx, sy, by rw [hc]; exact k _ H _ rfl (Same.refl H) (.bl _)⟩
theorem tv_isB {x y : Bool} (ha : EVd X o H0 ρ a (.bool x)) (hb : EVd X o H0 ρ b (.bool y)) : TVd X o H0 ρ (.Compare a [.Is] [b] pos) (decide (x = y)) :=
  tv_cmpd op_isBl (nomark _) ha hb fun v u H Q hv hu k => by
    cases hv.bl_inv; cases hu.bl_inv
    exact ⟨x, y, rfl, rfl, k _ H _ rfl (Same.refl H) (.bl _)⟩
theorem tv_eqB {x y : Bool} (ha : EVd X o H0 ρ a (.bool x)) (hb : EVd X o H0 ρ b (.bool y)) : TVd X o H0 ρ (.Compare a [.Eq] [b] pos) (decide (x = y)) :=
  tv_cmpd op_eq (nomark _) ha hb fun v u H Q hv hu k => by
    cases hv.bl_inv; cases hu.bl_inv
    refine ⟨rfl, ?_⟩
    rw [show decide (V.bl x = V.bl y) = decide (x = y) from by rw [dec_bl]; exact Bool.beq_eq_decide_eq x y]
    exact k _ H _ rfl (Same.refl H) (.bl _)
theorem tv_neB {x y : Bool} (ha : EVd X o H0 ρ a (.bool x)) (hb : EVd X o H0 ρ b (.bool y)) : TVd X o H0 ρ (.Compare a [.NotEq] [b] pos) (!decide (x = y)) :=
  tv_cmpd op_ne (nomark _) ha hb fun v u H Q hv hu k => by
    cases hv.bl_inv; cases hu.bl_inv
    refine ⟨rfl, ?_⟩
    rw [show decide (V.bl x = V.bl y) = decide (x = y) from by rw [dec_bl]; exact Bool.beq_eq_decide_eq x y]
    exact k _ H _ rfl (Same.refl H) (.bl _)
end
/-! values of and, or, not -/
theorem ev_and1 (h : EV X o H0 ρ a Φ) : EV X o H0 ρ (.BoolOp .And [a] pos) Φ := pe_one h
theorem ev_or1 (h : EV X o H0 ρ a Φ) : EV X o H0 ρ (.BoolOp .Or [a] pos) Φ := pe_one h
theorem ev_and {c c' : Bool} (h : EVd X o H0 ρ a (.bool c)) (h' : c = true → EVd X o H0 ρ (.BoolOp .And (b :: rest) pos) (.bool c')) : EVd X o H0 ρ (.BoolOp .And (a :: b :: rest) pos) (.bool (c && c')) :=
  PE.imp (pe_and h (PE.when h')) fun σ H Q ⟨g, sl, k⟩ => ⟨g, sl, fun v H1 d hd g1 p1 => by
    subst hd; cases p1.bl_inv
    refine ⟨c, rfl, ?_⟩
    by_cases hv : c = true
    · rw [if_pos hv]
      refine ⟨hv, Gr.trans g g1, sl.mono g1, fun v2 H2 d2 hd2 g2 p2 => ?_⟩
      subst hd2
      exact k _ H2 _ (by rw [hv]; rfl) (Gr.trans g1 g2) p2
    · rw [if_neg hv]
      exact k _ H1 _ (by rw [eq_false_of_ne_true hv]; rfl) g1 (.bl _)⟩
theorem ev_or {c c' : Bool} (h : EVd X o H0 ρ a (.bool c)) (h' : c = false → EVd X o H0 ρ (.BoolOp .Or (b :: rest) pos) (.bool c')) : EVd X o H0 ρ (.BoolOp .Or (a :: b :: rest) pos) (.bool (c || c')) :=
  PE.imp (pe_or h (PE.when h')) fun σ H Q ⟨g, sl, k⟩ => ⟨g, sl, fun v H1 d hd g1 p1 => by
    subst hd; cases p1.bl_inv
    refine ⟨c, rfl, ?_⟩
    by_cases hv : c = true
    · rw [if_pos hv]
      exact k _ H1 _ (by rw [hv]; rfl) g1 (.bl _)
    · rw [if_neg hv]
      refine ⟨eq_false_of_ne_true hv, Gr.trans g g1, sl.mono g1, fun v2 H2 d2 hd2 g2 p2 => ?_⟩
      subst hd2
      exact k _ H2 _ (by rw [eq_false_of_ne_true hv]; rfl) (Gr.trans g1 g2) p2⟩
theorem ev_not {c : Bool} (h : EVd X o H0 ρ a (.bool c)) : EVd X o H0 ρ (.UnaryOp .Not a pos) (.bool (!c)) :=
  PE.imp (pe_not h) fun σ H Q ⟨g, sl, k⟩ => ⟨g, sl, fun v H1 d hd g1 p1 => by
    subst hd; cases p1.bl_inv
    exact ⟨c, rfl, k _ H1 _ rfl g1 (.bl _)⟩⟩
/-- a if c else b -/
theorem ev_if {c : Expr} (hc : TV X o H0 ρ c Ψ) (ha : Ψ true → EV X o H0 ρ a Φ) (hb : Ψ false → EV X o H0 ρ b Φ) : EV X o H0 ρ (.IfExp c a b pos) Φ :=
  PE.imp (pe_ifExp hc (PE.when ha) (PE.when hb)) fun σ H Q ⟨g, sl, k⟩ => ⟨g, sl, fun v H1 hd g1 => by
    cases v with
    | true => rw [if_pos rfl]; exact ⟨hd, Gr.trans g g1, sl.mono g1, fun v2 H2 d2 hd2 g2 p2 => k v2 H2 d2 hd2 (Gr.trans g1 g2) p2⟩
    | false => rw [if_neg Bool.false_ne_true]; exact ⟨hd, Gr.trans g g1, sl.mono g1, fun v2 H2 d2 hd2 g2 p2 => k v2 H2 d2 hd2 (Gr.trans g1 g2) p2⟩⟩
theorem ev_ifd {c : Expr} {t : Bool} {d d' : PyData} (hc : TVd X o H0 ρ c t) (ha : t = true → EVd X o H0 ρ a d) (hb : t = false → EVd X o H0 ρ b d') : EVd X o H0 ρ (.IfExp c a b pos) (if t then d else d') :=
  ev_if hc (fun h => ev_imp (ha h.symm) fun x hx => by rw [hx, if_pos h.symm]) (fun h => ev_imp (hb h.symm) fun x hx => by rw [hx, ← h, if_neg Bool.false_ne_true])
/-! ### slices of a tuple, of a list -/
theorem cutAll {K : PySem.W.Frag} {H : Hp} {vs : List V} {ds : List PyData} (h : DpAll K H vs ds) (lo hi : Option Int) : DpAll K H (cutV vs lo hi) ((ds.drop (HT.sIx ds.length 0 lo)).take (HT.sIx ds.length ds.length hi - HT.sIx ds.length 0 lo)) := by
  unfold cutV; rw [h.length]; exact (h.drop _).take _
def PtOk (X : Cx) (o : WO) (H0 : Hp) (ρ : List Sl) (e : Option Expr) (i : Option Int) (t : TO) : Prop := PO X e t ∧ ∀ σ H Q, Gr o H0 H → Slots X.K o H0 H ρ σ → (∀ H', Gr o H H' → Q i H') → t σ H Q
theorem po_no : PtOk X o H0 ρ none none tNoPart := ⟨po_none, fun σ H Q g sl k => k H (Gr.refl _ H)⟩
theorem po_so {i : Int} (h : EVd X o H0 ρ e (.int i)) : PtOk X o H0 ρ (some e) (some i) (tPart (tD X.K o H0 ρ (· = .int i))) :=
  ⟨po_some h, fun σ H Q g sl k => ⟨g, sl, fun v H1 d hd g1 p1 => by subst hd; cases p1.int_inv; exact ⟨i, rfl, k H1 g1⟩⟩⟩
theorem ev_sl {lo hi : Option Expr} {tl th : TO} {i j : Option Int} {p2 : Pos} {ds es' : List PyData} (ha : EVd X o H0 ρ a (.tuple ds)) (hl : PtOk X o H0 ρ lo i tl) (hh : PtOk X o H0 ρ hi j th)
    (he : (ds.drop (HT.sIx ds.length 0 i)).take (HT.sIx ds.length ds.length j - HT.sIx ds.length 0 i) = es' := by rfl) : EVd X o H0 ρ (.Subscript a (.Slice lo hi none p2) pos) (.tuple es') :=
  PE.imp (pe_slice sl_tupA ha hl.1 hh.1) fun σ H Q ⟨g, sl, k⟩ => ⟨g, sl, fun v H1 d hd g1 p1 => by
    subst hd
    refine hl.2 σ H1 _ (Gr.trans g g1) (sl.mono g1) fun H2 g2 => hh.2 σ H2 _ (Gr.trans (Gr.trans g g1) g2) ((sl.mono g1).mono g2) fun H3 g3 => ?_
    obtain ⟨p, xs, rfl, hs, hp⟩ := ((Gr.trans g2 g3).dp _ _ p1).tup_inv
    refine ⟨p, xs, rfl, hs, fun hw => ?_, fun hw r hr => ?_⟩
    · refine k _ H3 _ ?_ (Gr.trans g1 (Gr.trans g2 g3)) (.tup hs hp)
      rw [← he]
      rw [hp.length] at hw
      rw [hw.1, hw.2]
      simp
    · refine k _ _ _ rfl (Gr.trans (Gr.trans g1 (Gr.trans g2 g3)) (Gr.same (Same.upd_new hr))) (.tup (SqT.of upd_same) (Gr.dpAll (o := none) (Same.upd_new hr) _ _ ?_))
      rw [← he]
      exact cutAll hp i j⟩
theorem ev_slL {lo hi : Option Expr} {tl th : TO} {i j : Option Int} {p2 : Pos} {ds es' : List PyData} (ha : EVd X o H0 ρ a (.list ds)) (hl : PtOk X o H0 ρ lo i tl) (hh : PtOk X o H0 ρ hi j th)
    (he : (ds.drop (HT.sIx ds.length 0 i)).take (HT.sIx ds.length ds.length j - HT.sIx ds.length 0 i) = es' := by rfl) : EVd X o H0 ρ (.Subscript a (.Slice lo hi none p2) pos) (.list es') :=
  PE.imp (pe_slice sl_list ha hl.1 hh.1) fun σ H Q ⟨g, sl, k⟩ => ⟨g, sl, fun v H1 d hd g1 p1 => by
    subst hd
    refine hl.2 σ H1 _ (Gr.trans g g1) (sl.mono g1) fun H2 g2 => hh.2 σ H2 _ (Gr.trans (Gr.trans g g1) g2) ((sl.mono g1).mono g2) fun H3 g3 => ?_
    obtain ⟨p, xs, rfl, hs, hp⟩ := ((Gr.trans g2 g3).dp _ _ p1).lst_inv
    refine ⟨p, xs, rfl, hs, fun r hr => ?_⟩
    refine k _ _ _ rfl (Gr.trans (Gr.trans g1 (Gr.trans g2 g3)) (Gr.same (Same.upd_new hr))) (.lst (SqL.of upd_same) (Gr.dpAll (o := none) (Same.upd_new hr) _ _ ?_))
    rw [← he]
    exact cutAll hp i j⟩
end
end DL

namespace DL
open PySem PySem.Spec PyProof.Rows L2
/-! ### what a def promises -/
/-- the name x stands for a def that keeps its promise -/
def Ok (P : Program) (w : World) (K : PySem.W.Frag) (mg : Str → Option Value) (base : Heap) (k : Nat) (x : Str) (ps : List Str) (sp : Sp) : Prop :=
  ∃ f fd, mg x = some (.ref f) ∧ PySem.W.keepIn K (.ref f) = true ∧ Binds K fd ps [] ∧ FnOk P w K mg base CX0 k f fd ps sp
/-- pure: data to data -/
def spF (K : PySem.W.Frag) (R : List PyData → PyData → Prop) : Sp := fun vs H Q _ => ∃ ds d, DpAll K H vs ds ∧ R ds d ∧ ∀ v H', Same H H' → Dp K H' v d → Q v H'
/-- with the draws ahead -/
def spW (K : PySem.W.Frag) (R : List PyData → (PyData → Prop) → Prop) : Sp := fun vs H Q _ => ∃ aw ad vs' ds Φ, vs = .ref aw :: vs' ∧ Wok K aw ad H ∧ DpAll K H vs' ds ∧ R ds Φ ∧ ∀ v H' d, Φ d → Gr (some (K, aw, ad)) H H' → Dp K H' v d → Q v H'
section
variable {X : Cx} {o : WO} {H0 : Hp} {ρ : List Sl} {e a b : Expr} {es : List Expr} {pos p : Pos} {Φ Φa Φb : PyData → Prop} {x : Str} {ps : List Str} {k : Nat}
theorem ev_call {R : List PyData → PyData → Prop} {Φs : List PyData → Prop} (C : Ok X.prog X.w X.K X.mg X.base k x ps (spF X.K R)) (hr : Room k X.A) (ha : EA X o H0 ρ (e :: es) Φs) (h : ∀ ds, Φs ds → ∃ d, R ds d ∧ Φ d)
    (hg : Gl X x := by rfl) (hdb : (x == ("__debug__" : Str)) = false := by decide) (he : starEach (e :: es) X.env = (false, eval e X.env) :: starEach es X.env := by rfl) (hpl : (backTo pos (starEach es X.env)).any (·.1) = false := by rfl) :
    EV X o H0 ρ (.Call (.Name x p) (e :: es) [] pos) Φ := by
  obtain ⟨f, fd, hm, kp, bd, F⟩ := C
  exact PE.imp (pe_call F hr hg hm kp bd .nil pass0 ha hdb he hpl) fun σ H Q ⟨g, sl, q⟩ => ⟨g, sl, fun vs H1 ds hds g1 p1 => by
    obtain ⟨d, hR, hΦ⟩ := h ds hds
    refine ⟨ds, d, by rw [List.append_nil]; exact p1, hR, fun v H' s dp => q v H' d hΦ (Gr.trans g1 (Gr.same s)) dp⟩⟩
theorem ev_calld {R : List PyData → PyData → Prop} {ds : List PyData} {d : PyData} (C : Ok X.prog X.w X.K X.mg X.base k x ps (spF X.K R)) (hr : Room k X.A) (ha : EAd X o H0 ρ (e :: es) ds) (h : R ds d)
    (hg : Gl X x := by rfl) (hdb : (x == ("__debug__" : Str)) = false := by decide) (he : starEach (e :: es) X.env = (false, eval e X.env) :: starEach es X.env := by rfl) (hpl : (backTo pos (starEach es X.env)).any (·.1) = false := by rfl) :
    EVd X o H0 ρ (.Call (.Name x p) (e :: es) [] pos) d := ev_call C hr ha (fun ds' e' => ⟨d, by subst e'; exact h, rfl⟩) hg hdb he hpl
/-- f(w, ..) -/
theorem ev_callW {aw ad : Addr} {R : List PyData → (PyData → Prop) → Prop} {Φs : List PyData → Prop} (C : Ok X.prog X.w X.K X.mg X.base k x ps (spW X.K R)) (hr : Room k X.A) (i : Nat) {xw : Str} {pw : Pos}
    (ha : EA X (some (X.K, aw, ad)) H0 ρ es Φs) (h : ∀ ds, Φs ds → R ds Φ) (hρ : ρ[i]? = some .wob := by rfl) (hN : X.N[i]? = some xw := by rfl) (hv : Vis X.env.scope xw := by first | exact Or.inl rfl | exact Or.inr (Or.inl rfl) | exact Or.inr (Or.inr rfl))
    (hg : Gl X x := by rfl) (hdb : (x == ("__debug__" : Str)) = false := by decide) (hd : (xw == ("__debug__" : Str)) = false := by decide) (hcd : (xw == ("__classdict__" : Str)) = false := by decide) (he : starEach (.Name xw pw :: es) X.env = (false, eval (.Name xw pw) X.env) :: starEach es X.env := by rfl) (hpl : (backTo pos (starEach es X.env)).any (·.1) = false := by rfl) :
    EV X (some (X.K, aw, ad)) H0 ρ (.Call (.Name x p) (.Name xw pw :: es) [] pos) Φ := by
  obtain ⟨f, fd, hm, kp, bd, F⟩ := C
  exact PE.imp (pe_call F hr hg hm kp bd .nil pass0 (pa_cons (pv i hN hv hd hcd) ha he) hdb he hpl) fun σ H Q ⟨g, sl, q⟩ => by
    obtain ⟨_, h1, v, rfl, h2⟩ := sl.get hρ
    obtain ⟨rfl, wk⟩ := h2
    refine ⟨_, h1, g, sl, fun vs H1 ds hds g1 p1 => ?_⟩
    exact ⟨aw, ad, vs, ds, Φ, by rw [List.append_nil], (Gr.trans g g1).2 wk, p1, h ds hds, fun v H' d hd g2 dp => q v H' d hd (Gr.trans g1 g2) dp⟩
/-! built-ins -/
theorem ev_abs {i : Int} (hm : X.mg "abs" = none) (ha : EVd X o H0 ρ e (.int i)) (hg : Gl X "abs" := by rfl) (he : starEach [e] X.env = (false, eval e X.env) :: starEach [] X.env := by rfl) (hpl : (backTo pos (starEach [] X.env)).any (·.1) = false := by rfl) :
    EVd X o H0 ρ (.Call (.Name "abs" p) [e] [] pos) (.int i.natAbs) :=
  PE.imp (pe_callB call_abs hg hm (by decide +kernel) (ea_consd ha ea_nil he) (by decide) (by decide) he hpl) fun σ H Q ⟨g, sl, q⟩ => ⟨g, sl, fun vs H1 ds hds g1 p1 => by
    subst hds
    cases p1 with
    | cons h1 h2 =>
      cases h2; cases h1.int_inv
      refine ⟨i, rfl, ?_⟩
      rw [show (if i < 0 then -i else i) = (i.natAbs : Int) by omega]
      exact q _ H1 _ rfl g1 (.int _)⟩
theorem ev_int1 {i : Int} (hm : X.mg "int" = none) (ha : EVd X o H0 ρ e (.int i)) (hg : Gl X "int" := by rfl) (he : starEach [e] X.env = (false, eval e X.env) :: starEach [] X.env := by rfl) (hpl : (backTo pos (starEach [] X.env)).any (·.1) = false := by rfl) :
    EVd X o H0 ρ (.Call (.Name "int" p) [e] [] pos) (.int i) :=
  PE.imp (pe_callTy call_int1 hg hm (by decide +kernel) (ea_consd ha ea_nil he) (by decide) (by decide) he hpl) fun σ H Q ⟨g, sl, q⟩ => ⟨g, sl, fun vs H1 ds hds g1 p1 => by
    subst hds
    cases p1 with
    | cons h1 h2 =>
      cases h2; cases h1.int_inv
      exact .inl ⟨i, rfl, q _ H1 _ rfl g1 (.int _)⟩⟩
theorem ev_int1V {Φ : PyData → Prop} (hm : X.mg "int" = none) (ha : EV X o H0 ρ e Φ) (hi : ∀ d, Φ d → ∃ i, d = .int i) (hg : Gl X "int" := by rfl) (he : starEach [e] X.env = (false, eval e X.env) :: starEach [] X.env := by rfl) (hpl : (backTo pos (starEach [] X.env)).any (·.1) = false := by rfl) :
    EV X o H0 ρ (.Call (.Name "int" p) [e] [] pos) Φ :=
  PE.imp (pe_callTy call_int1 hg hm (by decide +kernel) (ea_cons (Φr := fun ds => ∃ d, Φ d ∧ ds = [d]) ha ea_nil (fun d ds h1 h2 => ⟨d, h1, by rw [h2]⟩) he) (by decide) (by decide) he hpl) fun σ H Q ⟨g, sl, q⟩ => ⟨g, sl, fun vs H1 ds hds g1 p1 => by
    obtain ⟨d, hΦ, rfl⟩ := hds
    obtain ⟨i, rfl⟩ := hi d hΦ
    cases p1 with
    | cons h1 h2 =>
      cases h2; cases h1.int_inv
      exact .inl ⟨i, rfl, q _ H1 _ hΦ g1 (.int _)⟩⟩
theorem ev_intB {c : Bool} (hm : X.mg "int" = none) (ha : EVd X o H0 ρ e (.bool c)) (hg : Gl X "int" := by rfl) (he : starEach [e] X.env = (false, eval e X.env) :: starEach [] X.env := by rfl) (hpl : (backTo pos (starEach [] X.env)).any (·.1) = false := by rfl) :
    EVd X o H0 ρ (.Call (.Name "int" p) [e] [] pos) (.int (if c then 1 else 0)) :=
  PE.imp (pe_callTy call_int1 hg hm (by decide +kernel) (ea_consd ha ea_nil he) (by decide) (by decide) he hpl) fun σ H Q ⟨g, sl, q⟩ => ⟨g, sl, fun vs H1 ds hds g1 p1 => by
    subst hds
    cases p1 with
    | cons h1 h2 =>
      cases h2; cases h1.bl_inv
      exact .inr ⟨c, rfl, q _ H1 _ rfl g1 (.int _)⟩⟩
theorem ev_max2 {i j : Int} (hc : X.calm = true) (hm : X.mg "max" = none) (ha : EAd X o H0 ρ [a, b] [.int i, .int j]) (hg : Gl X "max" := by rfl) (he : starEach [a, b] X.env = (false, eval a X.env) :: starEach [b] X.env := by rfl) (hpl : (backTo pos (starEach [b] X.env)).any (·.1) = false := by rfl) :
    EVd X o H0 ρ (.Call (.Name "max" p) [a, b] [] pos) (.int (max i j)) :=
  PE.imp (pe_callB (call_max2 hc) hg hm (by decide +kernel) ha (by decide) (by decide) he hpl) fun σ H Q ⟨g, sl, q⟩ => ⟨g, sl, fun vs H1 ds hds g1 p1 => by
    subst hds
    cases p1 with
    | cons h1 h2 =>
      cases h2 with
      | cons h3 h4 =>
        cases h4; cases h1.int_inv; cases h3.int_inv
        refine ⟨i, j, rfl, ?_⟩
        rw [show (if j > i then j else i) = max i j by omega]
        exact q _ H1 _ rfl g1 (.int _)⟩
theorem ev_lenL {ds : List PyData} (hm : X.mg "len" = none) (ha : EVd X o H0 ρ e (.list ds)) (hg : Gl X "len" := by rfl) (he : starEach [e] X.env = (false, eval e X.env) :: starEach [] X.env := by rfl) (hpl : (backTo pos (starEach [] X.env)).any (·.1) = false := by rfl) :
    EVd X o H0 ρ (.Call (.Name "len" p) [e] [] pos) (.int ds.length) :=
  PE.imp (pe_callB call_len hg hm boot_len (ea_consd ha ea_nil he) (by decide) (by decide) he hpl) fun σ H Q ⟨g, sl, q⟩ => ⟨g, sl, fun vs H1 ds' hds g1 p1 => by
    subst hds
    cases p1 with
    | cons h1 h2 =>
      cases h2
      obtain ⟨r, xs, rfl, hs, hp⟩ := h1.lst_inv
      exact ⟨_, ds.length, rfl, .inl ⟨xs, hs, hp.length.symm⟩, q _ H1 _ rfl g1 (.int _)⟩⟩
theorem ev_tupleT {ds : List PyData} (hm : X.mg "tuple" = none) (ha : EVd X o H0 ρ e (.list ds)) (hg : Gl X "tuple" := by rfl) (he : starEach [e] X.env = (false, eval e X.env) :: starEach [] X.env := by rfl) (hpl : (backTo pos (starEach [] X.env)).any (·.1) = false := by rfl) :
    EVd X o H0 ρ (.Call (.Name "tuple" p) [e] [] pos) (.tuple ds) :=
  PE.imp (pe_callTy call_tuple_of hg hm (by decide +kernel) (ea_consd ha ea_nil he) (by decide) (by decide) he hpl) fun σ H Q ⟨g, sl, q⟩ => ⟨g, sl, fun vs H1 ds' hds g1 p1 => by
    subst hds
    cases p1 with
    | cons h1 h2 =>
      cases h2
      obtain ⟨r, xs, rfl, hs, hp⟩ := h1.lst_inv
      exact ⟨_, xs, rfl, .inl ⟨hs, fun l hl => q _ _ _ rfl (Gr.trans g1 (Gr.same (Same.upd_new hl))) (.tup (SqT.of upd_same) (Gr.dpAll (o := none) (Same.upd_new hl) _ _ hp))⟩⟩⟩
end
/-! ### statements -/
section
variable {X : Cx} {o : WO} {H0 : Hp} {ρ : List Sl} {e a b : Expr} {es : List Expr} {pos p : Pos} {Φ Φa Φb : PyData → Prop} {x y : Str} {sts rest body : List Stmt} {Nx : List Sl → Prop} {Rt : PyData → Prop} {Ψ : Bool → Prop}
theorem sv_nil (h : Nx ρ) : SVs X o H0 ρ [] Nx Rt := PSs.imp pss_nil fun D σ H ⟨_, g, sl, k, _⟩ => k σ H ρ h g sl
theorem sv_ret (h : EV X o H0 ρ e Φ) (hr : ∀ d, Φ d → Rt d) : SVs X o H0 ρ (.Return (some e) pos :: rest) Nx Rt :=
  PSs.imp (pss_cons (ps_ret h) pss_never) fun D σ H ⟨_, g, sl, _, k⟩ => ⟨g, sl, fun v H' d hd g' p => k v H' d (hr d hd) (Gr.trans g g') p⟩
theorem sv_retd {d : PyData} (h : EVd X o H0 ρ e d) (hr : Rt d) : SVs X o H0 ρ (.Return (some e) pos :: rest) Nx Rt := sv_ret h fun d' e' => by rw [e']; exact hr
/-- weaker ends -/
theorem sv_imp {Nx' : List Sl → Prop} {Rt' : PyData → Prop} (h : SVs X o H0 ρ sts Nx Rt) (hn : ∀ ρ', Nx ρ' → Nx' ρ') (hr : ∀ d, Rt d → Rt' d) : SVs X o H0 ρ sts Nx' Rt' :=
  PSs.imp h fun D σ H ⟨en, g, sl, k1, k2⟩ => ⟨en, g, sl, fun σ' H' ρ' q => k1 σ' H' ρ' (hn _ q), fun v H' d q => k2 v H' d (hr _ q)⟩
/-- one statement, then the rest -/
theorem sv_seq {st : Stmt} {t : TS} {α : Type} {q : α → Prop} {r : α → List Sl} (h1 : PS X st t) (h2 : ∀ a, q a → SVs X o H0 (r a) rest Nx Rt)
    (h : ∀ (D : Ends) σ H, tS X.K o H0 ρ Nx Rt D σ H → t { D with nx := fun σ' H' => ∃ a, q a ∧ tS X.K o H0 (r a) Nx Rt D σ' H' } σ H) : SVs X o H0 ρ (st :: rest) Nx Rt :=
  PSs.imp (pss_cons h1 (PSs.ex h2)) h
/-- x = e -/
theorem sv_set (i : Nat) {pos' : Pos} (hN : X.N.Nodup) (h : EV X o H0 ρ e Φ) (hk : ∀ d, Φ d → SVs X o H0 (ρ.set i (.dat d)) rest Nx Rt) (hi : X.N[i]? = some x := by rfl) (hx : Loc X.env.scope x := by first | exact Or.inl rfl | exact Or.inr rfl)
    (hs : swapsWith e (some (.Name x pos')) pos.line X.env = pure false := by rfl) (hf : X.fn x = true ∨ X.env.scope.names.lookup x = some .local := by first | exact .inl rfl | exact .inr rfl) : SVs X o H0 ρ (.Assign [.Name x pos'] e pos :: rest) Nx Rt :=
  sv_seq (ps_set hN hi hx h hs hf) hk fun D σ H ⟨en, g, sl, k1, k2⟩ => ⟨g, sl, fun v H1 d hd g1 p1 => ⟨d, hd, en, Gr.trans g g1, (sl.mono g1).set ⟨v, rfl, p1⟩, k1, k2⟩⟩
theorem sv_setd (i : Nat) {pos' : Pos} {d : PyData} (hN : X.N.Nodup) (h : EVd X o H0 ρ e d) (hk : SVs X o H0 (ρ.set i (.dat d)) rest Nx Rt) (hi : X.N[i]? = some x := by rfl) (hx : Loc X.env.scope x := by first | exact Or.inl rfl | exact Or.inr rfl)
    (hs : swapsWith e (some (.Name x pos')) pos.line X.env = pure false := by rfl) (hf : X.fn x = true ∨ X.env.scope.names.lookup x = some .local := by first | exact .inl rfl | exact .inr rfl) : SVs X o H0 ρ (.Assign [.Name x pos'] e pos :: rest) Nx Rt :=
  sv_set i hN h (fun d' e' => by rw [e']; exact hk) hi hx hs hf
/-- x = []: a list to be filled -/
theorem sv_setM (i : Nat) {pos' pl : Pos} (hN : X.N.Nodup) (hk : ∀ a, SVs X o H0 (ρ.set i (.mtl a [])) rest Nx Rt) (hi : X.N[i]? = some x := by rfl) (hx : Loc X.env.scope x := by first | exact Or.inl rfl | exact Or.inr rfl)
    (hs : swapsWith (.List [] pl) (some (.Name x pos')) pos.line X.env = pure false := by rfl) (hf : X.fn x = true ∨ X.env.scope.names.lookup x = some .local := by first | exact .inl rfl | exact .inr rfl) : SVs X o H0 ρ (.Assign [.Name x pos'] (.List [] pl) pos :: rest) Nx Rt :=
  sv_seq (ps_set hN hi hx (pe_lst pa_nil) hs hf) (fun (a : Addr) (_ : True) => hk a) fun D σ H ⟨en, g, sl, k1, k2⟩ => ⟨Nat.zero_le _, fun q hq => ⟨q, trivial, en, Gr.trans g (Gr.same (Same.upd_new hq)), (sl.mono (Gr.same (Same.upd_new hq))).set ⟨rfl, g.free hq, [], upd_same, .nil⟩, k1, k2⟩⟩
/-- a, b = x, y (stored as a pair that nobody sees) -/
theorem sv_par (i j : Nat) {px py pt : Pos} {kt k2 pt2} {Φs : List PyData → Prop} (hc : X.calm = true) (hN : X.N.Nodup) (ha : EA X o H0 ρ [a, b] Φs) (hk : ∀ d d', Φs [d, d'] → SVs X o H0 ((ρ.set i (.dat d)).set j (.dat d')) rest Nx Rt) (hl : ∀ ds, Φs ds → ∃ d d', ds = [d, d'])
    (hi : X.N[i]? = some x := by rfl) (hj : X.N[j]? = some y := by rfl) (hij : i ≠ j := by decide)
    (hx : X.env.scope.names.lookup x = some .local := by rfl) (hy : X.env.scope.names.lookup y = some .local := by rfl)
    (hw : swappedStores [.Tuple [.Name x px, .Name y py] kt pt] (.Tuple [a, b] k2 pt2) X.env = pure (some [x, y]) := by rfl)
    (hs : swapsWithSole [.Tuple [.Name x px, .Name y py] kt pt] (.Tuple [a, b] k2 pt2) pos.line X.env = pure false := by rfl) : SVs X o H0 ρ (.Assign [.Tuple [.Name x px, .Name y py] kt pt] (.Tuple [a, b] k2 pt2) pos :: rest) Nx Rt :=
  sv_seq (ps_par hc hN hi hj hij hx hy ha hw hs) (fun (dd : PyData × PyData) (hdd : Φs [dd.1, dd.2]) => hk dd.1 dd.2 hdd) fun D σ H ⟨en, g, sl, k1, k2⟩ => ⟨g, sl, fun vs H1 ds hds g1 p1 => by
    obtain ⟨d, d', rfl⟩ := hl ds hds
    cases p1 with
    | cons q1 q2 =>
      cases q2 with
      | cons q2 q3 =>
        cases q3
        exact ⟨_, _, rfl, (d, d'), hds, en, Gr.trans g g1, ((sl.mono g1).set (s := .dat d) ⟨_, rfl, q1⟩).set (s := .dat d') ⟨_, rfl, q2⟩, k1, k2⟩⟩
theorem sv_pard (i j : Nat) {px py pt : Pos} {kt k2 pt2} {d d' : PyData} (hc : X.calm = true) (hN : X.N.Nodup) (ha : EAd X o H0 ρ [a, b] [d, d']) (hk : SVs X o H0 ((ρ.set i (.dat d)).set j (.dat d')) rest Nx Rt)
    (hi : X.N[i]? = some x := by rfl) (hj : X.N[j]? = some y := by rfl) (hij : i ≠ j := by decide)
    (hx : X.env.scope.names.lookup x = some .local := by rfl) (hy : X.env.scope.names.lookup y = some .local := by rfl)
    (hw : swappedStores [.Tuple [.Name x px, .Name y py] kt pt] (.Tuple [a, b] k2 pt2) X.env = pure (some [x, y]) := by rfl)
    (hs : swapsWithSole [.Tuple [.Name x px, .Name y py] kt pt] (.Tuple [a, b] k2 pt2) pos.line X.env = pure false := by rfl) : SVs X o H0 ρ (.Assign [.Tuple [.Name x px, .Name y py] kt pt] (.Tuple [a, b] k2 pt2) pos :: rest) Nx Rt :=
  sv_par i j hc hN ha (fun _ _ h => by cases h; exact hk) (fun ds h => ⟨d, d', h⟩) hi hj hij hx hy hw hs
/-! targets of names -/
/-- names by their slots -/
def GNs (X : Cx) : List Expr → List Nat → Prop
  | [], [] => True
  | e :: es, i :: is => (∃ x p, e = .Name x p ∧ X.N[i]? = some x ∧ Loc X.env.scope x ∧ (X.fn x = true ∨ X.env.scope.names.lookup x = some .local)) ∧ GNs X es is ∧ (assignEach (e :: es) X.env).map (·.2) = assign e X.env :: (assignEach es X.env).map (·.2)
  | _, _ => False
def gAll : List Nat → TGs
  | [] => gNil
  | i :: is => gCons (gName i) (gAll is)
def setAll : List Sl → List Nat → List PyData → List Sl
  | ρ, i :: is, d :: ds => setAll (ρ.set i (.dat d)) is ds
  | ρ, _, _ => ρ
theorem pgs_all (hN : X.N.Nodup) : ∀ {es : List Expr} {is : List Nat}, GNs X es is → PGs X es (gAll is)
  | [], [], _ => pgs_nil
  | e :: es, i :: is, ⟨⟨x, p, e1, h1, h2, h3⟩, hr, hs⟩ => by
    subst e1
    exact pgs_cons (pg_name hN h1 h2 h3) (pgs_all hN hr) hs
  | [], _ :: _, h => h.elim
  | _ :: _, [], h => h.elim
theorem gAll_run {K : PySem.W.Frag} {H0 H : Hp} {Q : L2.St → Hp → Prop} : ∀ {is : List Nat} {vs : List V} {ds : List PyData} {ρ : List Sl} {σ : L2.St}, DpAll K H vs ds → is.length = ds.length → Slots K o H0 H ρ σ → (∀ σ', Slots K o H0 H (setAll ρ is ds) σ' → Q σ' H) → gAll is vs σ H Q
  | [], [], [], ρ, σ, _, _, sl, q => ⟨rfl, q σ sl⟩
  | i :: is, v :: vs, d :: ds, ρ, σ, .cons h1 h2, hl, sl, q => ⟨v, vs, rfl, gAll_run h2 (Nat.succ.inj hl) (sl.set (s := .dat d) ⟨v, rfl, h1⟩) q⟩
  | [], _ :: _, _ :: _, _, _, _, hl, _, _ => nomatch hl
  | _ :: _, [], [], _, _, _, hl, _, _ => nomatch hl
/-- a, b, .. = a tuple -/
theorem sv_unp (is : List Nat) {ts : List Expr} {kt : Nat} {pt : Pos} (hc : X.calm = true) (hN : X.N.Nodup) (h : EV X o H0 ρ e Φ) (hk : ∀ ds, Φ (.tuple ds) → SVs X o H0 (setAll ρ is ds) rest Nx Rt) (hl : ∀ d, Φ d → ∃ ds, d = .tuple ds ∧ ds.length = is.length)
    (hg : GNs X ts is) (hn : (assignEach ts X.env).length = is.length := by rfl) (hst : (assignEach ts X.env).findIdx? (·.1) = none := by rfl)
    (hs : swapsWithSole [.Tuple ts kt pt] e pos.line X.env = pure false := by rfl) (hw : swappedStores [.Tuple ts kt pt] e X.env = pure none := by rfl) (h1 : (assignEach [.Tuple ts kt pt] X.env).map (·.2) = [assign (.Tuple ts kt pt) X.env] := by rfl) :
    SVs X o H0 ρ (.Assign [.Tuple ts kt pt] e pos :: rest) Nx Rt :=
  sv_seq (ps_asg h (pg_tup hc (pgs_all hN hg) hn hst) hs hw h1) hk fun D σ H ⟨en, g, sl, k1, k2⟩ => ⟨g, sl, fun v H1 d hd g1 p1 => by
    obtain ⟨ds, rfl, hl⟩ := hl d hd
    obtain ⟨r, xs, rfl, hs, hp⟩ := p1.tup_inv
    exact ⟨r, xs, rfl, hs, by rw [hp.length, hl], gAll_run hp hl.symm (sl.mono g1) fun σ' sl' => ⟨ds, hd, en, Gr.trans g g1, sl', k1, k2⟩⟩⟩
theorem sv_unpd (is : List Nat) {ts : List Expr} {kt : Nat} {pt : Pos} {ds : List PyData} (hc : X.calm = true) (hN : X.N.Nodup) (h : EVd X o H0 ρ e (.tuple ds)) (hl : ds.length = is.length) (hk : SVs X o H0 (setAll ρ is ds) rest Nx Rt)
    (hg : GNs X ts is) (hn : (assignEach ts X.env).length = is.length := by rfl) (hst : (assignEach ts X.env).findIdx? (·.1) = none := by rfl)
    (hs : swapsWithSole [.Tuple ts kt pt] e pos.line X.env = pure false := by rfl) (hw : swappedStores [.Tuple ts kt pt] e X.env = pure none := by rfl) (h1 : (assignEach [.Tuple ts kt pt] X.env).map (·.2) = [assign (.Tuple ts kt pt) X.env] := by rfl) :
    SVs X o H0 ρ (.Assign [.Tuple ts kt pt] e pos :: rest) Nx Rt :=
  sv_unp is hc hN h (fun ds' e' => by cases e'; exact hk) (fun d hd => ⟨ds, hd, hl⟩) hg hn hst hs hw h1
/-- x += e -/
theorem sv_inc (i : Nat) {pos' : Pos} {m n : Int} {s : Sl} (hN : X.N.Nodup) (h : EVd X o H0 ρ e (.int n)) (hρ : ρ[i]? = some s) (hsd : s.dt = some (.int m)) (hk : SVs X o H0 (ρ.set i (.dat (.int (m + n)))) rest Nx Rt) (hi : X.N[i]? = some x := by rfl) (hx : Loc X.env.scope x := by first | exact Or.inl rfl | exact Or.inr rfl)
    (hf : X.fn x = true ∨ X.env.scope.names.lookup x = some .local := by first | exact .inl rfl | exact .inr rfl) : SVs X o H0 ρ (.AugAssign (.Name x pos') .Add e pos :: rest) Nx Rt :=
  sv_seq (ps_aug hN hi hx h ip_add hf) (fun (_ : Unit) (_ : True) => hk) fun D σ H ⟨en, g, sl, k1, k2⟩ => by
    obtain ⟨v, h1, h2⟩ := sl.dt g hρ hsd
    cases h2.int_inv
    refine ⟨_, h1, g, sl, fun v H1 d hd g1 p1 => ?_⟩
    subst hd
    cases p1.int_inv
    exact ⟨m, n, rfl, rfl, (), trivial, en, Gr.trans g g1, (sl.mono g1).set ⟨_, rfl, .int _⟩, k1, k2⟩
/-- if -/
theorem sv_if {c : Expr} {A B : List Stmt} {Mid : List Sl → Prop} (hc : TV X o H0 ρ c Ψ) (ha : Ψ true → SVs X o H0 ρ A Mid Rt) (hb : Ψ false → SVs X o H0 ρ B Mid Rt) (hk : ∀ ρ', Mid ρ' → SVs X o H0 ρ' rest Nx Rt) : SVs X o H0 ρ (.If c A B pos :: rest) Nx Rt :=
  sv_seq (q := Mid) (r := id) (ps_if hc (PSs.ex (α := Unit) (p := fun _ => Ψ true) fun _ h => ha h) (PSs.ex (α := Unit) (p := fun _ => Ψ false) fun _ h => hb h)) hk fun D σ H ⟨en, g, sl, k1, k2⟩ => ⟨g, sl, fun v H1 hd g1 => by
    cases v with
    | true => exact ⟨(), hd, en, Gr.trans g g1, sl.mono g1, fun σ' H' ρ' hm g' sl' => ⟨ρ', hm, en, g', sl', k1, k2⟩, k2⟩
    | false => exact ⟨(), hd, en, Gr.trans g g1, sl.mono g1, fun σ' H' ρ' hm g' sl' => ⟨ρ', hm, en, g', sl', k1, k2⟩, k2⟩⟩
/-- if c: .. return -/
theorem sv_ifr {c : Expr} {A : List Stmt} {t : Bool} (hc : TVd X o H0 ρ c t) (ha : t = true → SVs X o H0 ρ A (fun _ => False) Rt) (hk : t = false → SVs X o H0 ρ rest Nx Rt) : SVs X o H0 ρ (.If c A [] pos :: rest) Nx Rt :=
  sv_if (Mid := fun ρ' => ρ' = ρ ∧ t = false) hc (fun h => sv_imp (ha h.symm) (fun _ z => z.elim) fun _ z => z) (fun h => sv_nil ⟨rfl, h.symm⟩) fun ρ' ⟨e1, e2⟩ => by subst e1; exact hk e2
/-- a state said otherwise -/
theorem sv_cast {ρ' : List Sl} (h : SVs X o H0 ρ' sts Nx Rt) (e : ρ = ρ') : SVs X o H0 ρ sts Nx Rt := e ▸ h
/-- while: the word of the slots, a number that falls -/
theorem sv_while {c : Expr} (hp : PassesOwn (model X.prog X.w) X.A X.env X.xe) {α : Type} (st : α → List Sl) (μ : α → Nat) (J : α → Prop) (a0 : α) (e0 : ρ = st a0) (j0 : J a0) (t : α → Bool) (hc : ∀ a, J a → TVd X o H0 (st a) c (t a))
    (hb : ∀ a, J a → t a = true → SVs X o H0 (st a) body (fun ρ' => ∃ a', ρ' = st a' ∧ J a' ∧ μ a' < μ a) Rt) (hk : ∀ a, J a → t a = false → SVs X o H0 (st a) rest Nx Rt) : SVs X o H0 ρ (.While c body [] pos :: rest) Nx Rt := by
  subst e0
  refine sv_seq (α := α) (q := fun a => J a ∧ t a = false) (r := st) (ps_while hp (tc := fun σ H Q => ∃ a, J a ∧ tT X.K o H0 (st a) (· = t a) σ H Q) (tb := fun D σ H => ∃ a, (J a ∧ t a = true) ∧ tS X.K o H0 (st a) (fun ρ' => ∃ a', ρ' = st a' ∧ J a' ∧ μ a' < μ a) Rt D σ H) ⟨fun pins s σ H Q I ⟨a, j, q⟩ => (hc a j).run pins s σ H Q I q⟩ (PSs.ex fun a h => hb a h.1 h.2)) (fun a h => hk a h.1 h.2) ?_
  intro D σ H ⟨en, g, sl, k1, k2⟩
  refine ⟨fun m σ H => ∃ a, m = μ a ∧ J a ∧ Gr o H0 H ∧ Slots X.K o H0 H (st a) σ, ⟨_, a0, rfl, j0, g, sl⟩, ?_⟩
  rintro m σ H ⟨a, rfl, j, g, sl⟩
  refine ⟨a, j, g, sl, fun b H1 hb g1 => ?_⟩
  subst hb
  by_cases h : t a = true
  · rw [if_pos h]
    refine ⟨fun σ' H' => ∃ a', μ a' < μ a ∧ J a' ∧ Gr o H0 H' ∧ Slots X.K o H0 H' (st a') σ', fun σ' H' ⟨a', l, j', g', sl'⟩ => ⟨_, l, a', rfl, j', g', sl'⟩, a, ⟨j, h⟩, en, Gr.trans g g1, sl.mono g1, ?_, k2⟩
    rintro σ' H' ρ' ⟨a', rfl, j', l⟩ g' sl'
    exact ⟨a', l, j', g', sl'⟩
  · rw [if_neg h]
    exact ⟨a, ⟨j, eq_false_of_ne_true h⟩, en, Gr.trans g g1, sl.mono g1, k1, k2⟩
end
end DL

namespace DL
open PySem PySem.Spec PyProof.Rows L2
theorem lfreeAll_of {es : List PyData} (h : ∀ (n : Nat) e, es[n]? = some e → lfree e = true) : lfreeAll es = true := by
  induction es with
  | nil => rfl
  | cons a t ih =>
    show (lfree a && lfreeAll t) = true
    rw [h 0 a rfl, ih fun n e he => h (n + 1) e (by simpa using he)]
    rfl
theorem lfreeAll_append {xs ys : List PyData} (h : lfreeAll xs = true) (h' : lfreeAll ys = true) : lfreeAll (xs ++ ys) = true := by
  induction xs with
  | nil => exact h'
  | cons a t ih =>
    have q := Bool.and_eq_true_iff.mp (show (lfree a && lfreeAll t) = true from h)
    show (lfree a && lfreeAll (t ++ ys)) = true
    rw [q.1, ih q.2]; rfl
/-! ### append -/
section
variable {X : Cx} {o : WO} {H0 : Hp} {ρ : List Sl} {e a b iter : Expr} {es : List Expr} {pos p : Pos} {Φ Φa Φb : PyData → Prop} {x y : Str} {sts rest body : List Stmt} {Nx : List Sl → Prop} {Rt : PyData → Prop} {Ψ : Bool → Prop}
theorem sv_append (i : Nat) {l : Addr} {ds : List PyData} {apos cpos xpos : Pos} (hρ : ρ[i]? = some (.mtl l ds)) (hf : firmBut i ρ = true) (hds : lfreeAll ds = true) (hlen : ds.length < sizeLine) (h : EV X o H0 ρ e Φ) (hd : ∀ d, Φ d → lfree d = true)
    (hk : ∀ d, Φ d → SVs X o H0 (ρ.set i (.mtl l (ds ++ [d]))) rest Nx Rt) (hN : X.N[i]? = some x := by rfl) (hv : Vis X.env.scope x := by first | exact Or.inl rfl | exact Or.inr (Or.inl rfl) | exact Or.inr (Or.inr rfl)) (hdb : (x == ("__debug__" : Str)) = false := by decide)
    (hcd : (x == ("__classdict__" : Str)) = false := by decide)
    (hbase : attributeBase (.Name x xpos) "append" X.env (eval (.Name x xpos) X.env) = eval (.Name x xpos) X.env := by rfl)
    (hfew : ((backTo cpos (starEach (e :: []) X.env)).all (fun x => !x.1) && (backToKw cpos (keywordEach [] X.env)).all (fun x => x.1.isSome)
      && decide ((e :: []).length + ([] : List Keyword).length + (if ([] : List Keyword).isEmpty then 0 else 1) < 30)) = true := by rfl)
    (hline : (apos.endLine == cpos.line) = true := by rfl) (hs : starEach (e :: []) X.env = (false, eval e X.env) :: starEach [] X.env := by rfl) (hplain : (backTo cpos (starEach [] X.env)).any (·.1) = false := by rfl)
    (hsw : swapsWith (.Call (.Attribute (.Name x xpos) "append" apos) [e] [] cpos) none pos.line X.env = pure false := by rfl) :
    SVs X o H0 ρ (.Expr (.Call (.Attribute (.Name x xpos) "append" apos) [e] [] cpos) pos :: rest) Nx Rt := by
  refine sv_seq (ps_expr (pe_bm PySem.F.plainAttrs_list PySem.F.slot_list_append PySem.F.type_list_append mt_append (pv i hN hv hdb hcd) (pa_cons h pa_nil hs) hbase hfew hline hs hplain) hsw) hk ?_
  intro D σ H ⟨en, g, sl, k1, k2⟩
  obtain ⟨q, h1, h2⟩ := sl.get hρ
  obtain ⟨rfl, h0, vs, hl, hp⟩ := h2
  refine ⟨_, h1, .inl ⟨rfl, _, SqL.of hl⟩, g, sl, fun v H1 d hΦ g1 p1 => ?_⟩
  have hl1 := g1.keep hl rfl
  refine ⟨l, vs, v, rfl, rfl, hl1, by rw [hp.length]; exact hlen, d, hΦ, en, (Gr.trans g g1).setL h0, ?_, k1, k2⟩
  refine Slots.setL h0 hl1 ?_ hf hρ (sl.mono g1)
  exact (DpAll.setL hl1 ds vs hds (g1.dpAll _ _ hp)).append (.cons (Dp.setL hl1 d v (hd d hΦ) p1) .nil)
/-! ### targets of a for -/
def Tgt (X : Cx) (tg : Expr) (ok : PyData → Prop) (st : List Sl → PyData → List Sl) : Prop :=
  ∃ g, PG X tg g ∧ ∀ o H0 v d ρ σ H Q, ok d → Dp X.K H v d → Slots X.K o H0 H ρ σ → (∀ σ', Slots X.K o H0 H (st ρ d) σ' → Q σ' H) → g v σ H Q
theorem tg_name (i : Nat) {pos' : Pos} (hN : X.N.Nodup) (hi : X.N[i]? = some x := by rfl) (hx : Loc X.env.scope x := by first | exact Or.inl rfl | exact Or.inr rfl) (hf : X.fn x = true ∨ X.env.scope.names.lookup x = some .local := by first | exact .inl rfl | exact .inr rfl) : Tgt X (.Name x pos') (fun _ => True) (fun ρ d => ρ.set i (.dat d)) :=
  ⟨_, pg_name hN hi hx hf, fun o H0 v d ρ σ H Q _ hp sl q => q _ (sl.set (s := .dat d) ⟨v, rfl, hp⟩)⟩
def setTup (is : List Nat) (ρ : List Sl) : PyData → List Sl
  | .tuple ds => setAll ρ is ds
  | _ => ρ
theorem tg_tup (is : List Nat) {ts : List Expr} {kt : Nat} {pt : Pos} (hc : X.calm = true) (hN : X.N.Nodup) (hg : GNs X ts is) (hn : (assignEach ts X.env).length = is.length := by rfl) (hst : (assignEach ts X.env).findIdx? (·.1) = none := by rfl) :
    Tgt X (.Tuple ts kt pt) (fun d => ∃ ds, d = .tuple ds ∧ ds.length = is.length) (setTup is) :=
  ⟨_, pg_tup hc (pgs_all hN hg) hn hst, fun o H0 v d ρ σ H Q hok hp sl q => by
    obtain ⟨ds, rfl, hl⟩ := hok
    obtain ⟨r, xs, rfl, hs, hp⟩ := hp.tup_inv
    exact ⟨r, xs, rfl, hs, by rw [hp.length, hl], gAll_run hp hl.symm sl q⟩⟩
/-! ### for -/
section
variable {tg : Expr} {ok : PyData → Prop} {st : List Sl → PyData → List Sl}
/-- the loop's body, whatever its turn -/
def fbT (K : PySem.W.Frag) (o : WO) (st : List Sl → PyData → List Sl) (ds : List PyData) (Inv : Nat → List Sl → Prop) (Rt : PyData → Prop) : TS := fun D σ H => ∃ q : Hp × Nat × PyData × List Sl, (ds[q.2.1]? = some q.2.2.1 ∧ Inv q.2.1 q.2.2.2) ∧ tS K o q.1 (st q.2.2.2 q.2.2.1) (Inv (q.2.1 + 1)) Rt D σ H
def fbL (K : PySem.W.Frag) (o : WO) (st : List Sl → PyData → List Sl) (ΦL : List PyData → Prop) (Inv : List PyData → Nat → List Sl → Prop) (Rt : PyData → Prop) : TS := fun D σ H => ∃ q : List PyData × Hp × Nat × PyData × List Sl, (ΦL q.1 ∧ q.1[q.2.2.1]? = some q.2.2.2.1 ∧ Inv q.1 q.2.2.1 q.2.2.2.2) ∧ tS K o q.2.1 (st q.2.2.2.2 q.2.2.2.1) (Inv q.1 (q.2.2.1 + 1)) Rt D σ H
def fbR (K : PySem.W.Frag) (o : WO) (H0 : Hp) (st : List Sl → PyData → List Sl) (N : Nat) (lo : Int) (Inv : Nat → List Sl → Prop) (Rt : PyData → Prop) : TS := fun D σ H => ∃ q : Nat × List Sl, (q.1 < N ∧ Inv q.1 q.2) ∧ tS K o H0 (st q.2 (.int (lo + q.1))) (Inv (q.1 + 1)) Rt D σ H
theorem for_body {ds : List PyData} {Inv : Nat → List Sl → Prop} (hb : ∀ H1 n d ρ', ds[n]? = some d → Inv n ρ' → SVs X o H1 (st ρ' d) body (Inv (n + 1)) Rt) :
    PSs X body (fbT X.K o st ds Inv Rt) :=
  PSs.ex fun q h => hb q.1 q.2.1 q.2.2.1 q.2.2.2 h.1 h.2
theorem sv_forT {ds : List PyData} (hp : PassesOwn (model X.prog X.w) X.A X.env X.xe) (hc : X.calm = true) (h : EVd X o H0 ρ iter (.tuple ds)) (ht : Tgt X tg ok st) (hok : ∀ (n : Nat) d, ds[n]? = some d → ok d) (Inv : Nat → List Sl → Prop) (h0 : Inv 0 (ρ.map Sl.young))
    (hb : ∀ H1 n d ρ', ds[n]? = some d → Inv n ρ' → SVs X o H1 (st ρ' d) body (Inv (n + 1)) Rt) (hk : ∀ ρ', Inv ds.length ρ' → SVs X o H0 (ρ'.map Sl.young) rest Nx Rt)
    (hs : ∀ x, foldedSetIterable iter X.env x = pure x := by intro _; rfl) : SVs X o H0 ρ (.For tg iter body [] pos :: rest) Nx Rt := by
  obtain ⟨g, hg, hrun⟩ := ht
  refine sv_seq (ps_for hp hc (pi_tup h) hg (for_body hb) hs) hk ?_
  intro D σ H ⟨en, g0, sl, k1, k2⟩
  refine ⟨g0, sl, fun v H1 d hd g1 p1 => ?_⟩
  subst hd
  obtain ⟨r, xs, rfl, hsq, hp1⟩ := p1.tup_inv
  have g01 := Gr.trans g0 g1
  refine ⟨r, rfl, ⟨xs, hsq⟩, for_tup (xs := xs) (g := g) (tb := fbT X.K o st ds Inv Rt) (D := { D with nx := fun σ' H' => ∃ a, Inv ds.length a ∧ tS X.K o H0 (List.map Sl.young a) Nx Rt D σ' H' }) (fun n σ' H' => Gr o H1 H' ∧ ∃ ρ', Inv n ρ' ∧ Slots X.K o H1 H' ρ' σ') ⟨Gr.refl _ _, _, h0, Slots.map (f := Sl.young) (fun q => SlOk.rise g01 q) (sl.mono g1)⟩ (fun n σ' H' _ q => q.1.tup hsq) ?_ ?_⟩
  · rintro n x σ' H' hx ⟨gH, ρ', inv, sl'⟩
    obtain ⟨d, hd, hpd⟩ := hp1.get' hx
    refine hrun o H1 x d ρ' σ' H' _ (hok n d hd) (gH.dp _ _ hpd) sl' fun σ2 sl2 => ?_
    exact ⟨(H1, n, d, ρ'), ⟨hd, inv⟩, en.mono g01, gH, sl2, fun σ3 H3 ρ3 inv3 g3 sl3 => ⟨g3, ρ3, inv3, sl3⟩, fun v3 H3 d3 hd3 g3 p3 => k2 v3 H3 d3 hd3 (Gr.trans g01 g3) p3⟩
  · rintro σ' H' ⟨gH, ρ', inv, sl'⟩
    rw [hp1.length] at inv
    exact ⟨ρ', inv, en, Gr.trans g01 gH, Slots.map (f := Sl.young) (fun q => SlOk.fall gH (fun v q => en.wok q) q) sl', k1, k2⟩
theorem sv_forL' {ΦL : List PyData → Prop} (hp : PassesOwn (model X.prog X.w) X.A X.env X.xe) (hc : X.calm = true) (h : EV X o H0 ρ iter (fun d => ∃ ds, d = .list ds ∧ ΦL ds)) (ht : Tgt X tg ok st) (hok : ∀ ds, ΦL ds → ∀ (n : Nat) d, ds[n]? = some d → ok d) (Inv : List PyData → Nat → List Sl → Prop) (h0 : ∀ ds, ΦL ds → Inv ds 0 (ρ.map Sl.young))
    (hb : ∀ ds, ΦL ds → ∀ H1 n d ρ', ds[n]? = some d → Inv ds n ρ' → SVs X o H1 (st ρ' d) body (Inv ds (n + 1)) Rt) (hk : ∀ ds, ΦL ds → ∀ ρ', Inv ds ds.length ρ' → SVs X o H0 (ρ'.map Sl.young) rest Nx Rt)
    (hs : ∀ x, foldedSetIterable iter X.env x = pure x := by intro _; rfl) : SVs X o H0 ρ (.For tg iter body [] pos :: rest) Nx Rt := by
  obtain ⟨g, hg, hrun⟩ := ht
  refine sv_seq (α := List PyData × List Sl) (q := fun q => ΦL q.1 ∧ Inv q.1 q.1.length q.2) (r := fun q => q.2.map Sl.young) (ps_for hp hc (pi_list h) hg (tb := fbL X.K o st ΦL Inv Rt) (PSs.ex fun q hq => hb q.1 hq.1 q.2.1 q.2.2.1 q.2.2.2.1 q.2.2.2.2 hq.2.1 hq.2.2) hs) (fun q hq => hk q.1 hq.1 q.2 hq.2) ?_
  intro D σ H ⟨en, g0, sl, k1, k2⟩
  refine ⟨g0, sl, fun v H1 d hd g1 p1 => ?_⟩
  obtain ⟨ds, rfl, hΦ⟩ := hd
  obtain ⟨r, xs, rfl, hsq, hp1⟩ := p1.lst_inv
  have g01 := Gr.trans g0 g1
  refine ⟨r, rfl, ⟨xs, hsq⟩, for_list (xs := xs) (g := g) (tb := fbL X.K o st ΦL Inv Rt) (D := { D with nx := fun σ' H' => ∃ a : List PyData × List Sl, (ΦL a.1 ∧ Inv a.1 a.1.length a.2) ∧ tS X.K o H0 (List.map Sl.young a.2) Nx Rt D σ' H' }) (fun n σ' H' => Gr o H1 H' ∧ ∃ ρ', Inv ds n ρ' ∧ Slots X.K o H1 H' ρ' σ') ⟨Gr.refl _ _, _, h0 ds hΦ, Slots.map (f := Sl.young) (fun q => SlOk.rise g01 q) (sl.mono g1)⟩ (fun n σ' H' _ q => q.1.lst hsq) ?_ ?_⟩
  · rintro n x σ' H' hx ⟨gH, ρ', inv, sl'⟩
    obtain ⟨d, hd, hpd⟩ := hp1.get' hx
    refine hrun o H1 x d ρ' σ' H' _ (hok ds hΦ n d hd) (gH.dp _ _ hpd) sl' fun σ2 sl2 => ?_
    exact ⟨(ds, H1, n, d, ρ'), ⟨hΦ, hd, inv⟩, en.mono g01, gH, sl2, fun σ3 H3 ρ3 inv3 g3 sl3 => ⟨g3, ρ3, inv3, sl3⟩, fun v3 H3 d3 hd3 g3 p3 => k2 v3 H3 d3 hd3 (Gr.trans g01 g3) p3⟩
  · rintro σ' H' ⟨gH, ρ', inv, sl'⟩
    rw [hp1.length] at inv
    exact ⟨(ds, ρ'), ⟨hΦ, inv⟩, en, Gr.trans g01 gH, Slots.map (f := Sl.young) (fun q => SlOk.fall gH (fun v q => en.wok q) q) sl', k1, k2⟩
theorem sv_forL {ds : List PyData} (hp : PassesOwn (model X.prog X.w) X.A X.env X.xe) (hc : X.calm = true) (h : EVd X o H0 ρ iter (.list ds)) (ht : Tgt X tg ok st) (hok : ∀ (n : Nat) d, ds[n]? = some d → ok d) (Inv : Nat → List Sl → Prop) (h0 : Inv 0 (ρ.map Sl.young))
    (hb : ∀ H1 n d ρ', ds[n]? = some d → Inv n ρ' → SVs X o H1 (st ρ' d) body (Inv (n + 1)) Rt) (hk : ∀ ρ', Inv ds.length ρ' → SVs X o H0 (ρ'.map Sl.young) rest Nx Rt)
    (hs : ∀ x, foldedSetIterable iter X.env x = pure x := by intro _; rfl) : SVs X o H0 ρ (.For tg iter body [] pos :: rest) Nx Rt :=
  sv_forL' (ΦL := (· = ds)) hp hc (ev_imp h fun d e => ⟨ds, e, rfl⟩) ht (fun ds' e => by rw [e]; exact hok) (fun _ => Inv) (fun _ _ => h0) (fun ds' e => by rw [e]; exact hb) (fun ds' e => by rw [e]; exact hk) hs
/-- over a range: nothing is left behind, lists may be filled -/
theorem for_bodyR {N : Nat} {lo : Int} {Inv : Nat → List Sl → Prop} (hb : ∀ n ρ', n < N → Inv n ρ' → SVs X o H0 (st ρ' (.int (lo + n))) body (Inv (n + 1)) Rt) :
    PSs X body (fbR X.K o H0 st N lo Inv Rt) :=
  PSs.ex fun q h => hb q.1 q.2 h.1 h.2
theorem sv_forR2 {pr : Pos} {lo hi : Int} (hp : PassesOwn (model X.prog X.w) X.A X.env X.xe) (hc : X.calm = true) (hm : X.mg "range" = none) (ha : EAd X o H0 ρ [a, b] [.int lo, .int hi]) (hbd : -(2 ^ 62) ≤ lo ∧ lo < 2 ^ 62 ∧ -(2 ^ 62) ≤ hi ∧ hi < 2 ^ 62) (ht : Tgt X tg ok st) (hok : ∀ i, ok (.int i)) (Inv : Nat → List Sl → Prop) (h0 : Inv 0 ρ)
    (hb : ∀ n ρ', n < (hi - lo).toNat → Inv n ρ' → SVs X o H0 (st ρ' (.int (lo + n))) body (Inv (n + 1)) Rt) (hk : ∀ ρ', Inv (hi - lo).toNat ρ' → SVs X o H0 ρ' rest Nx Rt)
    (hg : Gl X "range" := by rfl) (hs1 : starEach [a, b] X.env = [(false, eval a X.env), (false, eval b X.env)] := by rfl) (hs2 : starEach [b] X.env = [(false, eval b X.env)] := by rfl)
    (hs : ∀ x, foldedSetIterable (.Call (.Name "range" pr) [a, b] [] p) X.env x = pure x := by intro _; rfl) : SVs X o H0 ρ (.For tg (.Call (.Name "range" pr) [a, b] [] p) body [] pos :: rest) Nx Rt := by
  obtain ⟨g, hgt, hrun⟩ := ht
  refine sv_seq (ps_for hp hc (pi_range2 hg hm ha hs1 hs2) hgt (for_bodyR hb) hs) hk ?_
  intro D σ H ⟨en, g0, sl, k1, k2⟩
  refine ⟨g0, sl, fun vs H1 ds hds g1 p1 => ?_⟩
  subst hds
  have g01 := Gr.trans g0 g1
  cases p1 with
  | cons q1 q2 =>
    cases q2 with
    | cons q2 q3 =>
      cases q3; cases q1.int_inv; cases q2.int_inv
      refine ⟨lo, hi, rfl, hbd, for_range (g := g) (tb := fbR X.K o H0 st (hi - lo).toNat lo Inv Rt) (D := { D with nx := fun σ' H' => ∃ a, Inv (hi - lo).toNat a ∧ tS X.K o H0 a Nx Rt D σ' H' }) (fun n σ' H' => Gr o H0 H' ∧ ∃ ρ', Inv n ρ' ∧ Slots X.K o H0 H' ρ' σ') ⟨g01, _, h0, sl.mono g1⟩ ?_ ?_⟩
      · rintro n σ' H' hn ⟨gH, ρ', inv, sl'⟩
        refine hrun o H0 _ (.int (lo + n)) ρ' σ' H' _ (hok _) (.int _) sl' fun σ2 sl2 => ?_
        exact ⟨(n, ρ'), ⟨hn, inv⟩, en, gH, sl2, fun σ3 H3 ρ3 inv3 g3 sl3 => ⟨g3, ρ3, inv3, sl3⟩, k2⟩
      · rintro σ' H' ⟨gH, ρ', inv, sl'⟩
        exact ⟨ρ', inv, en, gH, sl', k1, k2⟩
theorem sv_forR1 {pr : Pos} {hi : Int} (hp : PassesOwn (model X.prog X.w) X.A X.env X.xe) (hc : X.calm = true) (hm : X.mg "range" = none) (ha : EAd X o H0 ρ [a] [.int hi]) (hbd : -(2 ^ 62) ≤ hi ∧ hi < 2 ^ 62) (ht : Tgt X tg ok st) (hok : ∀ i, ok (.int i)) (Inv : Nat → List Sl → Prop) (h0 : Inv 0 ρ)
    (hb : ∀ n ρ', n < hi.toNat → Inv n ρ' → SVs X o H0 (st ρ' (.int n)) body (Inv (n + 1)) Rt) (hk : ∀ ρ', Inv hi.toNat ρ' → SVs X o H0 ρ' rest Nx Rt)
    (hg : Gl X "range" := by rfl) (hs1 : starEach [a] X.env = [(false, eval a X.env)] := by rfl)
    (hs : ∀ x, foldedSetIterable (.Call (.Name "range" pr) [a] [] p) X.env x = pure x := by intro _; rfl) : SVs X o H0 ρ (.For tg (.Call (.Name "range" pr) [a] [] p) body [] pos :: rest) Nx Rt := by
  obtain ⟨g, hgt, hrun⟩ := ht
  refine sv_seq (ps_for hp hc (pi_range1 hg hm ha hs1) hgt (for_bodyR (lo := 0) (fun n ρ' hn inv => by rw [Int.zero_add]; exact hb n ρ' hn inv)) hs) hk ?_
  intro D σ H ⟨en, g0, sl, k1, k2⟩
  refine ⟨g0, sl, fun vs H1 ds hds g1 p1 => ?_⟩
  subst hds
  have g01 := Gr.trans g0 g1
  cases p1 with
  | cons q1 q2 =>
    cases q2; cases q1.int_inv
    refine ⟨hi, rfl, hbd.1, hbd.2, for_range (g := g) (tb := fbR X.K o H0 st hi.toNat 0 Inv Rt) (D := { D with nx := fun σ' H' => ∃ a, Inv hi.toNat a ∧ tS X.K o H0 a Nx Rt D σ' H' }) (fun n σ' H' => Gr o H0 H' ∧ ∃ ρ', Inv n ρ' ∧ Slots X.K o H0 H' ρ' σ') ⟨g01, _, h0, sl.mono g1⟩ ?_ ?_⟩
    · rintro n σ' H' hn ⟨gH, ρ', inv, sl'⟩
      refine hrun o H0 _ (.int (0 + n)) ρ' σ' H' _ (hok _) (.int _) sl' fun σ2 sl2 => ?_
      exact ⟨(n, ρ'), ⟨hn, inv⟩, en, gH, sl2, fun σ3 H3 ρ3 inv3 g3 sl3 => ⟨g3, ρ3, inv3, sl3⟩, k2⟩
    · rintro σ' H' ⟨gH, ρ', inv, sl'⟩
      exact ⟨ρ', inv, en, gH, sl', k1, k2⟩
end
end
/-! ### comprehensions: one for, its target one name; an if or none -/
section
variable {X : Cx} {o : WO} {H0 : Hp} {ρ : List Sl} {elt tg iter c : Expr} {scope : Scope} {x : Str} {i : Nat} {pos : Pos}
abbrev blkX (X : Cx) (scope : Scope) (s : Shared) (H : Hp) (C : Addr) (cl : List (Str × Addr)) (fp : List Addr) : Cx := X.blk s H scope (compEnvC scope cl C X.env) fp
def rhoC (ρ : List Sl) (i : Nat) (d : PyData) : List Sl := ((ρ.map Sl.age).set i .un).set i (.dat d)
/-- what a turn keeps: the new list's items -/
def lcPv (K : PySem.W.Frag) (o : WO) (H1 : Hp) (D : Addr) (J : Nat → List PyData → Prop) (n : Nat) (H : Hp) : Prop := Gr o H1 H ∧ ∃ vs es, H D = some (.lst vs) ∧ DpAll K H vs es ∧ lfreeAll es = true ∧ es.length ≤ n ∧ J n es
def tcE (K : PySem.W.Frag) (o : WO) (ρ : List Sl) (i : Nat) (ds : List PyData) (Φ : Nat → PyData → Prop) (t : Nat → Bool → Prop) : TE := fun σ H Q => ∃ q : Hp × Nat × PyData, (ds[q.2.1]? = some q.2.2 ∧ t q.2.1 true) ∧ tD K o q.1 (rhoC ρ i q.2.2) (Φ q.2.1) σ H Q
def tcT (K : PySem.W.Frag) (o : WO) (ρ : List Sl) (i : Nat) (ds : List PyData) (t : Nat → Bool → Prop) : TT := fun σ H Q => ∃ q : Hp × Nat × PyData, ds[q.2.1]? = some q.2.2 ∧ tT K o q.1 (rhoC ρ i q.2.2) (t q.2.1) σ H Q
theorem rho_slots {K : PySem.W.Frag} {H1 H : Hp} {σ : L2.St} (g01 : Gr o H0 H1) (sl : Slots K o H0 H1 ρ σ) (gH : Gr o H1 H) {d : PyData} {v : V} (hp : Dp K H v d) : Slots K o H1 H (rhoC ρ i d) ((wipe σ [i]).set i (some v)) := by
  have s1 : Slots K o H1 H (ρ.map Sl.age) σ := (Slots.map (f := Sl.age) (fun q => SlOk.age g01 q) sl).mono gH
  have s2 := s1.wipe [i]
  exact s2.set (s := .dat d) ⟨v, rfl, hp⟩
theorem lc_turn {K : PySem.W.Frag} {H1 : Hp} {D : Addr} (hD : H1 D = none) {ds : List PyData} {Φ : Nat → PyData → Prop} {t : Nat → Bool → Prop} {J : Nat → List PyData → Prop} {σ : L2.St} (g01 : Gr o H0 H1) (sl : Slots K o H0 H1 ρ σ) (hl : ds.length ≤ sizeLine)
    (hf : ∀ n d, Φ n d → lfree d = true) (hyes : ∀ n es e d, ds[n]? = some d → J n es → t n true → Φ n e → J (n + 1) (es ++ [e])) (hno : ∀ n es d, ds[n]? = some d → J n es → t n false → J (n + 1) es)
    {n : Nat} {v : V} {d : PyData} {H : Hp} (hd : ds[n]? = some d) (hp : Dp K H v d) (pv : lcPv K o H1 D J n H) :
    gName i v (wipe σ [i]) H fun σ2 H2 => wipe σ2 [i] = wipe σ [i] ∧ tcT K o ρ i ds t σ2 H2 fun b H3 =>
      if b = true then tcE K o ρ i ds Φ t σ2 H3 fun y H4 => ∃ acc, H4 D = some (.lst acc) ∧ acc.length < sizeLine ∧ lcPv K o H1 D J (n + 1) (upd H4 D (.lst (acc ++ [y]))) else lcPv K o H1 D J (n + 1) H3 := by
  obtain ⟨gH, vs, es, hD1, hps, hfs, hle, hJ⟩ := pv
  have hn : n < ds.length := (List.getElem?_eq_some_iff.mp hd).1
  refine ⟨?_, (H1, n, d), hd, gH, rho_slots g01 sl gH hp, fun b H3 hb g3 => ?_⟩
  · show ((σ.set i none).set i (some v)).set i none = σ.set i none
    rw [List.set_set, List.set_set]
  · cases b with
    | false =>
      rw [if_neg Bool.false_ne_true]
      exact ⟨Gr.trans gH g3, vs, es, g3.keep hD1 rfl, g3.dpAll _ _ hps, hfs, by omega, hno n es d hd hJ hb⟩
    | true =>
      rw [if_pos rfl]
      refine ⟨(H1, n, d), ⟨hd, hb⟩, Gr.trans gH g3, (rho_slots g01 sl gH hp).mono g3, fun y H4 e he g4 p4 => ?_⟩
      have hD4 := g4.keep (g3.keep hD1 rfl) rfl
      refine ⟨vs, hD4, by rw [hps.length]; omega, (Gr.trans (Gr.trans gH g3) g4).setL hD, vs ++ [y], es ++ [e], upd_same, ?_, ?_, ?_, hyes n es e d hd hJ hb he⟩
      · exact (DpAll.setL hD4 es vs hfs (g4.dpAll _ _ (g3.dpAll _ _ hps))).append (.cons (Dp.setL hD4 e y (hf n e he) p4) .nil)
      · exact lfreeAll_append hfs (by show (lfree e && true) = true; rw [hf n e he]; rfl)
      · rw [List.length_append, List.length_singleton]; omega
structure LcArgs (X : Cx) (o : WO) (ρ : List Sl) (i : Nat) (x : Str) (tg elt : Expr) (ifs : List Expr) (scope : Scope) (ds : List PyData) (Φ : Nat → PyData → Prop) (t : Nat → Bool → Prop) : Prop where
  nd : X.N.Nodup
  calm : X.calm = true
  ok : BlkOk X.N X.env.scope scope [(x, i)]
  hg : ∀ (s : Shared) (H : Hp) (C : Addr) (cl : List (Str × Addr)) (fp : List Addr), PG (blkX X scope s H C cl fp) tg (gName i)
  ht : ∀ (s : Shared) (H : Hp) (C : Addr) (cl : List (Str × Addr)) (fp : List Addr), PTs (blkX X scope s H C cl fp) ifs (tcT X.K o ρ i ds t)
  he : ∀ (s : Shared) (H : Hp) (C : Addr) (cl : List (Str × Addr)) (fp : List Addr) (H1 : Hp) (n : Nat) (d : PyData), ds[n]? = some d → t n true → EV (blkX X scope s H C cl fp) o H1 (rhoC ρ i d) elt (Φ n)
theorem lcArgs0 {ds : List PyData} {Φ : Nat → PyData → Prop} (nd : X.N.Nodup) (calm : X.calm = true) (ok : BlkOk X.N X.env.scope scope [(x, i)])
    (hg : ∀ (s : Shared) (H : Hp) (C : Addr) (cl : List (Str × Addr)) (fp : List Addr), PG (blkX X scope s H C cl fp) tg (gName i))
    (he : ∀ (s : Shared) (H : Hp) (C : Addr) (cl : List (Str × Addr)) (fp : List Addr) (H1 : Hp) (n : Nat) (d : PyData), ds[n]? = some d → EV (blkX X scope s H C cl fp) o H1 (rhoC ρ i d) elt (Φ n)) :
    LcArgs X o ρ i x tg elt [] scope ds Φ (fun _ b => b = true) :=
  ⟨nd, calm, ok, hg, fun s H C cl fp => ⟨fun pins s σ H Q I ⟨q, hq, g, sl, k⟩ => pts_nil.run pins s σ H Q I (k true H rfl (Gr.refl _ _))⟩, fun s H C cl fp H1 n d hd _ => he s H C cl fp H1 n d hd⟩
theorem lcArgs1 {ds : List PyData} {Φ : Nat → PyData → Prop} {t : Nat → Bool → Prop} (nd : X.N.Nodup) (calm : X.calm = true) (ok : BlkOk X.N X.env.scope scope [(x, i)])
    (hg : ∀ (s : Shared) (H : Hp) (C : Addr) (cl : List (Str × Addr)) (fp : List Addr), PG (blkX X scope s H C cl fp) tg (gName i))
    (ht : ∀ (s : Shared) (H : Hp) (C : Addr) (cl : List (Str × Addr)) (fp : List Addr) (H1 : Hp) (n : Nat) (d : PyData), ds[n]? = some d → TV (blkX X scope s H C cl fp) o H1 (rhoC ρ i d) c (t n))
    (he : ∀ (s : Shared) (H : Hp) (C : Addr) (cl : List (Str × Addr)) (fp : List Addr) (H1 : Hp) (n : Nat) (d : PyData), ds[n]? = some d → t n true → EV (blkX X scope s H C cl fp) o H1 (rhoC ρ i d) elt (Φ n)) :
    LcArgs X o ρ i x tg elt [c] scope ds Φ t :=
  ⟨nd, calm, ok, hg, fun s H C cl fp => ⟨fun pins s' σ H' Q I ⟨q, hq, h⟩ => (pts_one (ht s H C cl fp q.1 q.2.1 q.2.2 hq)).run pins s' σ H' Q I h⟩, he⟩
theorem LcArgs.pe {ifs : List Expr} {ds : List PyData} {Φ : Nat → PyData → Prop} {t : Nat → Bool → Prop} (A : LcArgs X o ρ i x tg elt ifs scope ds Φ t) : ∀ (s : Shared) (H : Hp) (C : Addr) (cl : List (Str × Addr)) (fp : List Addr), PE (blkX X scope s H C cl fp) elt (tcE X.K o ρ i ds Φ t) :=
  fun s H C cl fp => ⟨fun pins s' σ H' Q I ⟨q, hq, h⟩ => (A.he s H C cl fp q.1 q.2.1 q.2.2 hq.1 hq.2).run pins s' σ H' Q I h⟩
/-- the reading over what is walked -/
theorem lc_read {ds : List PyData} {Φ : Nat → PyData → Prop} {t : Nat → Bool → Prop} {J : Nat → List PyData → Prop} (hl : ds.length ≤ sizeLine) (hf : ∀ n d, Φ n d → lfree d = true) (j0 : J 0 [])
    (hyes : ∀ n es e d, ds[n]? = some d → J n es → t n true → Φ n e → J (n + 1) (es ++ [e])) (hno : ∀ n es d, ds[n]? = some d → J n es → t n false → J (n + 1) es) {K : PySem.W.Frag} {H H1 : Hp} {σ : L2.St} {Q : VK} (g01 : Gr o H0 H1) (sl : Slots K o H0 H1 ρ σ) (gHH1 : Gr o H H1)
    (k : ∀ v H' d, (∃ es, d = .list es ∧ es.length ≤ ds.length ∧ lfreeAll es = true ∧ J ds.length es) → Gr o H H' → Dp K H' v d → Q v H') {It' : It}
    (hwalk : ∀ (D : Addr) (Pv : Nat → Hp → Prop) (Qd : Hp → Prop), Pv 0 (upd H1 D (.lst [])) → (∀ n H, Pv n H → Gr o H1 H) → (∀ n v d H, ds[n]? = some d → Dp K H v d → Pv n H → gName i v (wipe σ [i]) H fun σ2 H2 => wipe σ2 [i] = wipe σ [i] ∧ tcT K o ρ i ds t σ2 H2 fun b H3 =>
        if b = true then tcE K o ρ i ds Φ t σ2 H3 fun y H4 => ∃ acc, H4 D = some (.lst acc) ∧ acc.length < sizeLine ∧ Pv (n + 1) (upd H4 D (.lst (acc ++ [y]))) else Pv (n + 1) H3) → (∀ H, Pv ds.length H → Qd H) →
      ∃ W : Nat → Nat → Hp → Prop, (∃ m, W 0 m (upd H1 D (.lst []))) ∧ ∀ n m H, W n m H →
        (It'.stop n H ∧ Qd H) ∨ (It'.go n H ∧ ∃ Nx : Hp → Prop, (∀ H', Nx H' → ∃ m', m' < m ∧ W (n + 1) m' H') ∧ ∀ x H', It'.yld n H x H' → gName i x (wipe σ [i]) H' fun σ2 H2 => wipe σ2 [i] = wipe σ [i] ∧ tcT K o ρ i ds t σ2 H2 fun b H3 =>
          if b = true then tcE K o ρ i ds Φ t σ2 H3 fun y H4 => ∃ acc, H4 D = some (.lst acc) ∧ acc.length < sizeLine ∧ Nx (upd H4 D (.lst (acc ++ [y]))) else Nx H3)) :
    ∀ D, H1 D = none → ∃ W : Nat → Nat → Hp → Prop, (∃ m, W 0 m (upd H1 D (.lst []))) ∧ ∀ n m H, W n m H →
      (It'.stop n H ∧ Q (.ref D) H) ∨ (It'.go n H ∧ ∃ Nx : Hp → Prop, (∀ H', Nx H' → ∃ m', m' < m ∧ W (n + 1) m' H') ∧ ∀ x H', It'.yld n H x H' → gName i x (wipe σ [i]) H' fun σ2 H2 => wipe σ2 [i] = wipe σ [i] ∧ tcT K o ρ i ds t σ2 H2 fun b H3 =>
        if b = true then tcE K o ρ i ds Φ t σ2 H3 fun y H4 => ∃ acc, H4 D = some (.lst acc) ∧ acc.length < sizeLine ∧ Nx (upd H4 D (.lst (acc ++ [y]))) else Nx H3) := by
  intro D hD
  refine hwalk D (lcPv K o H1 D J) (fun H => Q (.ref D) H) ⟨Gr.same (Same.upd_new hD), [], [], upd_same, .nil, rfl, Nat.le_refl _, j0⟩ (fun n H q => q.1) (fun n v d H hd hp pv => lc_turn hD g01 sl hl hf hyes hno hd hp pv) ?_
  rintro H2 ⟨gH, vs, es, hD2, hps, hfs, hle, hJ⟩
  exact k (.ref D) H2 _ ⟨es, rfl, hle, hfs, hJ⟩ (Gr.trans gHH1 gH) (.lst (SqL.of hD2) hps)
variable {ifs : List Expr}
theorem ev_lcL {ds : List PyData} {Φ : Nat → PyData → Prop} {t : Nat → Bool → Prop} {J : Nat → List PyData → Prop} (A : LcArgs X o ρ i x tg elt ifs scope ds Φ t) (hi : EVd X o H0 ρ iter (.list ds)) (hl : ds.length ≤ sizeLine) (hf : ∀ n d, Φ n d → lfree d = true) (j0 : J 0 [])
    (hyes : ∀ n es e d, ds[n]? = some d → J n es → t n true → Φ n e → J (n + 1) (es ++ [e])) (hno : ∀ n es d, ds[n]? = some d → J n es → t n false → J (n + 1) es) (hs : ∀ x, foldedSetIterable iter X.env x = pure x := by intro _; rfl) :
    EV X o H0 ρ (.ListComp elt [⟨tg, iter, ifs, 0⟩] scope pos) (fun d => ∃ es, d = .list es ∧ es.length ≤ ds.length ∧ lfreeAll es = true ∧ J ds.length es) :=
  PE.imp (pe_lc A.calm A.nd (pi_list hi) A.ok A.hg A.ht A.pe hs) fun σ H Q ⟨g, sl, k⟩ => ⟨g, sl, fun v H1 d hd g1 p1 => by
    subst hd
    obtain ⟨r, xs, rfl, hsq, hp⟩ := p1.lst_inv
    refine ⟨r, rfl, ⟨xs, hsq⟩, lc_read hl hf j0 hyes hno (Gr.trans g g1) (sl.mono g1) g1 k fun D Pv Qd p0 hG hs' hd' => lc_list (K := X.K) (a := r) (xs := xs) Pv p0 (fun n H _ q => (hG n H q).lst hsq) (fun n v H hv q => ?_) (fun H q => hd' H (by rw [← hp.length]; exact q))⟩
    obtain ⟨d, hd, hpd⟩ := hp.get' hv
    exact hs' n v d H hd ((hG n H q).dp _ _ hpd) q⟩
theorem ev_lcT {ds : List PyData} {Φ : Nat → PyData → Prop} {t : Nat → Bool → Prop} {J : Nat → List PyData → Prop} (A : LcArgs X o ρ i x tg elt ifs scope ds Φ t) (hi : EVd X o H0 ρ iter (.tuple ds)) (hl : ds.length ≤ sizeLine) (hf : ∀ n d, Φ n d → lfree d = true) (j0 : J 0 [])
    (hyes : ∀ n es e d, ds[n]? = some d → J n es → t n true → Φ n e → J (n + 1) (es ++ [e])) (hno : ∀ n es d, ds[n]? = some d → J n es → t n false → J (n + 1) es) (hs : ∀ x, foldedSetIterable iter X.env x = pure x := by intro _; rfl) :
    EV X o H0 ρ (.ListComp elt [⟨tg, iter, ifs, 0⟩] scope pos) (fun d => ∃ es, d = .list es ∧ es.length ≤ ds.length ∧ lfreeAll es = true ∧ J ds.length es) :=
  PE.imp (pe_lc A.calm A.nd (pi_tup hi) A.ok A.hg A.ht A.pe hs) fun σ H Q ⟨g, sl, k⟩ => ⟨g, sl, fun v H1 d hd g1 p1 => by
    subst hd
    obtain ⟨r, xs, rfl, hsq, hp⟩ := p1.tup_inv
    refine ⟨r, rfl, ⟨xs, hsq⟩, lc_read hl hf j0 hyes hno (Gr.trans g g1) (sl.mono g1) g1 k fun D Pv Qd p0 hG hs' hd' => lc_tup (K := X.K) (a := r) (xs := xs) Pv p0 (fun n H _ q => (hG n H q).tup hsq) (fun n v H hv q => ?_) (fun H q => hd' H (by rw [← hp.length]; exact q))⟩
    obtain ⟨d, hd, hpd⟩ := hp.get' hv
    exact hs' n v d H hd ((hG n H q).dp _ _ hpd) q⟩
def rgD (lo : Int) (N : Nat) : List PyData := (List.range N).map fun (n : Nat) => PyData.int (lo + (n : Int))
theorem rgD_get {lo : Int} {N n : Nat} (h : n < N) : (rgD lo N)[n]? = some (.int (lo + n)) := by
  unfold rgD; rw [List.getElem?_map, List.getElem?_range h]; rfl
theorem rgD_len {lo : Int} {N : Nat} : (rgD lo N).length = N := by unfold rgD; rw [List.length_map, List.length_range]
theorem ev_lcR2 {a b : Expr} {pr p : Pos} {lo hi : Int} {Φ : Nat → PyData → Prop} {t : Nat → Bool → Prop} {J : Nat → List PyData → Prop} (A : LcArgs X o ρ i x tg elt ifs scope (rgD lo (hi - lo).toNat) Φ t) (hm : X.mg "range" = none) (ha : EAd X o H0 ρ [a, b] [.int lo, .int hi])
    (hbd : -(2 ^ 62) ≤ lo ∧ lo < 2 ^ 62 ∧ -(2 ^ 62) ≤ hi ∧ hi < 2 ^ 62) (hl : (rgD lo (hi - lo).toNat).length ≤ sizeLine) (hf : ∀ n d, Φ n d → lfree d = true) (j0 : J 0 [])
    (hyes : ∀ n es e d, (rgD lo (hi - lo).toNat)[n]? = some d → J n es → t n true → Φ n e → J (n + 1) (es ++ [e])) (hno : ∀ n es d, (rgD lo (hi - lo).toNat)[n]? = some d → J n es → t n false → J (n + 1) es)
    (hg : Gl X "range" := by rfl) (hs1 : starEach [a, b] X.env = [(false, eval a X.env), (false, eval b X.env)] := by rfl) (hs2 : starEach [b] X.env = [(false, eval b X.env)] := by rfl)
    (hs : ∀ x, foldedSetIterable (.Call (.Name "range" pr) [a, b] [] p) X.env x = pure x := by intro _; rfl) :
    EV X o H0 ρ (.ListComp elt [⟨tg, .Call (.Name "range" pr) [a, b] [] p, ifs, 0⟩] scope pos) (fun d => ∃ es, d = .list es ∧ es.length ≤ (rgD lo (hi - lo).toNat).length ∧ lfreeAll es = true ∧ J (rgD lo (hi - lo).toNat).length es) :=
  PE.imp (pe_lc A.calm A.nd (pi_range2 hg hm ha hs1 hs2) A.ok A.hg A.ht A.pe hs) fun σ H Q ⟨g, sl, k⟩ => ⟨g, sl, fun vs H1 ds hds g1 p1 => by
    subst hds
    cases p1 with
    | cons q1 q2 =>
      cases q2 with
      | cons q2 q3 =>
        cases q3; cases q1.int_inv; cases q2.int_inv
        refine ⟨lo, hi, rfl, hbd, lc_read hl hf j0 hyes hno (Gr.trans g g1) (sl.mono g1) g1 k fun D Pv Qd p0 hG hs' hd' => lc_range Pv p0 (fun n H hn q => ?_) (fun H q => hd' H (by rw [rgD_len]; exact q))⟩
        exact hs' n _ _ H (rgD_get hn) (.int _) q⟩
theorem ev_lcR1 {a : Expr} {pr p : Pos} {hi : Int} {Φ : Nat → PyData → Prop} {t : Nat → Bool → Prop} {J : Nat → List PyData → Prop} (A : LcArgs X o ρ i x tg elt ifs scope (rgD 0 hi.toNat) Φ t) (hm : X.mg "range" = none) (ha : EA X o H0 ρ [a] (· = [.int hi]))
    (hbd : -(2 ^ 62) ≤ hi ∧ hi < 2 ^ 62) (hl : (rgD 0 hi.toNat).length ≤ sizeLine) (hf : ∀ n d, Φ n d → lfree d = true) (j0 : J 0 [])
    (hyes : ∀ n es e d, (rgD 0 hi.toNat)[n]? = some d → J n es → t n true → Φ n e → J (n + 1) (es ++ [e])) (hno : ∀ n es d, (rgD 0 hi.toNat)[n]? = some d → J n es → t n false → J (n + 1) es)
    (hg : Gl X "range" := by rfl) (hs1 : starEach [a] X.env = [(false, eval a X.env)] := by rfl)
    (hs : ∀ x, foldedSetIterable (.Call (.Name "range" pr) [a] [] p) X.env x = pure x := by intro _; rfl) :
    EV X o H0 ρ (.ListComp elt [⟨tg, .Call (.Name "range" pr) [a] [] p, ifs, 0⟩] scope pos) (fun d => ∃ es, d = .list es ∧ es.length ≤ (rgD 0 hi.toNat).length ∧ lfreeAll es = true ∧ J (rgD 0 hi.toNat).length es) :=
  PE.imp (pe_lc A.calm A.nd (pi_range1 hg hm ha hs1) A.ok A.hg A.ht A.pe hs) fun σ H Q ⟨g, sl, k⟩ => ⟨g, sl, fun vs H1 ds hds g1 p1 => by
    subst hds
    cases p1 with
    | cons q1 q2 =>
      cases q2; cases q1.int_inv
      refine ⟨hi, rfl, hbd.1, hbd.2, lc_read hl hf j0 hyes hno (Gr.trans g g1) (sl.mono g1) g1 k fun D Pv Qd p0 hG hs' hd' => lc_range Pv p0 (fun n H hn q => ?_) (fun H q => hd' H (by rw [rgD_len]; exact q))⟩
      exact hs' n _ _ H (rgD_get hn) (.int _) q⟩
end
end DL

namespace DL
open PySem PySem.Spec PyProof.Rows L2
/-! ### defs -/
def Has (K : PySem.W.Frag) (mg : Str → Option Value) (x : Str) (st : Stmt) : Prop := ∃ f fd, mg x = some (.ref f) ∧ FunD K x x (defArgs st) (defBody st) (defScope st) [] [] f fd
def slots0 (n : Nat) (ds : List PyData) : List Sl := ds.map Sl.old ++ List.replicate (n - ds.length) Sl.un
theorem slots_un {K : PySem.W.Frag} {o : WO} {H : Hp} : ∀ n : Nat, Slots K o H H (List.replicate n Sl.un) (List.replicate n none)
  | 0 => trivial
  | n + 1 => ⟨trivial, slots_un n⟩
theorem slots_start {K : PySem.W.Frag} {o : WO} {H : Hp} {n : Nat} {vs : List V} {ds : List PyData} (h : DpAll K H vs ds) : Slots K o H H (slots0 n ds) (vs.map some ++ List.replicate (n - vs.length) none) := by
  unfold slots0
  rw [h.length]
  generalize n - ds.length = m
  induction ds generalizing vs with
  | nil => cases h; exact slots_un m
  | cons d ds ih =>
    cases h with
    | cons h1 h2 => exact ⟨⟨_, rfl, h1⟩, ih h2⟩
abbrev bX (P : Program) (w : World) (K : PySem.W.Frag) (mg : Str → Option Value) (base : Heap) (N : List Str) (x : Str) (st : Stmt) (f : Addr) (cdv : Value) (A : Around) (outer : List Env) (s : Shared) (H : Hp) (E : XK) : Cx := (cxOf CX0 P w K mg base N x (defScope st) f cdv A outer s H E).nox
section
variable {P : Program} {w : World} {K : PySem.W.Frag} {mg : Str → Option Value} {base : Heap} {x : Str} {st : Stmt} {N ps : List Str} {k : Nat}
abbrev BindsH (ps : List Str) (x : Str) (st : Stmt) : Prop := ∀ (kV doc pm : Value) (an : Option Addr) (cdv ct : Value) (us : List Value), us.length = ps.length → bindArgs (PySem.W.fnOf x x (defArgs st) (defBody st) (defScope st) .none kV doc pm an cdv ct) ⟨us, []⟩ = pure (ps.zip us)
/-- a pure def -/
theorem okF {R : List PyData → PyData → Prop} (h : Has K mg x st) (S : FnScope N ps (defScope st)) (bd : BindsH ps x st) (hl : ∀ ds d, R ds d → ds.length = ps.length)
    (hb : ∀ (f : Addr) (cdv : Value) (A : Around) (outer : List Env) (s : Shared) (H : Hp) (E : XK), Room k (A.deeper (envOfC x (defScope st) s.heap.objs.size f cdv)) → ∀ ds d, R ds d →
      SVs (bX P w K mg base N x st f cdv A outer s H E) none H (slots0 N.length ds) (defBody st) (fun _ => False) (· = d)) : Ok P w K mg base (k + 1) x ps (spF K R) := by
  obtain ⟨f, fd, hm, F⟩ := h
  refine ⟨f, fd, hm, F.kp, FunD.bindsN F bd, F.ok S (fun vs H Q E ⟨ds, d, h1, h2, _⟩ => by rw [h1.length]; exact hl ds d h2) fun cdv A outer s H vs Q E hr ⟨ds, d, h1, h2, q⟩ => ?_⟩
  refine ⟨_, PSs.nox (hb f cdv A outer s H E hr ds d h2), trivial, Gr.refl _ _, slots_start h1, fun _ _ _ z => z.elim, fun v H' d' e g p => ?_⟩
  subst e
  exact q v H' g p
/-- a def with the draws ahead -/
theorem okW {R : List PyData → (PyData → Prop) → Prop} (h : Has K mg x st) (S : FnScope N ps (defScope st)) (bd : BindsH ps x st) (hl : ∀ ds Φ, R ds Φ → ds.length + 1 = ps.length)
    (hb : ∀ (f : Addr) (cdv : Value) (A : Around) (outer : List Env) (s : Shared) (H : Hp) (E : XK) (aw ad : Addr), Room k (A.deeper (envOfC x (defScope st) s.heap.objs.size f cdv)) → ∀ ds Φ, R ds Φ →
      SVs (bX P w K mg base N x st f cdv A outer s H E) (some (K, aw, ad)) H (.wob :: slots0 (N.length - 1) ds) (defBody st) (fun _ => False) Φ) : Ok P w K mg base (k + 1) x ps (spW K R) := by
  obtain ⟨f, fd, hm, F⟩ := h
  refine ⟨f, fd, hm, F.kp, FunD.bindsN F bd, F.ok S (fun vs H Q E ⟨aw, ad, vs', ds, Φ, e, _, h1, h2, _⟩ => by rw [e, List.length_cons, h1.length]; exact hl ds Φ h2) fun cdv A outer s H vs Q E hr ⟨aw, ad, vs', ds, Φ, e, wk, h1, h2, q⟩ => ?_⟩
  subst e
  refine ⟨_, PSs.nox (hb f cdv A outer s H E aw ad hr ds Φ h2), wk, Gr.refl _ _, ?_, fun _ _ _ z => z.elim, fun v H' d' e g p => q v H' d' e g p⟩
  have e : L2.start N (.ref aw :: vs') = some (.ref aw) :: (vs'.map some ++ List.replicate (N.length - 1 - vs'.length) none) := by
    unfold L2.start
    rw [List.map_cons, List.length_cons, List.cons_append, show N.length - (vs'.length + 1) = N.length - 1 - vs'.length by omega]
  rw [e]
  exact ⟨⟨_, rfl, rfl, wk⟩, slots_start h1⟩
end
/-! ### constants of the top -/
mutual
def datB (K : PySem.W.Frag) : PyData → Value → Bool
  | .none, u => (match u with | .none => true | _ => false)
  | .bool b, u => (match u with | .bool c => b == c | _ => false)
  | .int i, u => (match u with | .int j _ => decide (i = j) | _ => false)
  | .str x, u => (match u with | .str y _ => decide (x = y) | _ => false)
  | .tuple ds, u => (match u with
    | .ref a => (match K.lookup a with
      | some ⟨.type c, _, .seq its _, _⟩ => decide (c = "tuple") && (decide (its.size ≤ sizeLine) && datAll K ds its.toList)
      | _ => false)
    | _ => false)
  | .list _, _ => false
  | .dict _, _ => false
def datAll (K : PySem.W.Frag) : List PyData → List Value → Bool
  | [], us => us.isEmpty
  | d :: ds, us => (match us with
    | [] => false
    | u :: us => datB K d u && datAll K ds us)
end
section
variable {K : PySem.W.Frag}
mutual
theorem datB_ok : ∀ {d : PyData} {u : Value}, datB K d u = true → ∃ v, RelV v u ∧ ∀ H, Dp K H v d
  | .none, u, h => by
    cases u with
    | none => exact ⟨.non, rfl, fun H => .non⟩
    | _ => simp [datB] at h
  | .bool b, u, h => by
    cases u with
    | bool c =>
      have e : b = c := eq_of_beq (show (b == c) = true by simpa [datB] using h)
      subst e
      exact ⟨.bl b, rfl, fun H => .bl b⟩
    | _ => simp [datB] at h
  | .int i, u, h => by
    cases u with
    | int j t =>
      have e : i = j := by simpa [datB] using h
      subst e
      exact ⟨.int i, ⟨t, rfl⟩, fun H => .int i⟩
    | _ => simp [datB] at h
  | .str x, u, h => by
    cases u with
    | str y t =>
      have e : x = y := by simpa [datB] using h
      subst e
      exact ⟨.str x, ⟨t, rfl⟩, fun H => .str x⟩
    | _ => simp [datB] at h
  | .list _, u, h => by simp [datB] at h
  | .dict _, u, h => by simp [datB] at h
  | .tuple ds, u, h => by
    cases u with
    | ref a =>
      unfold datB at h
      cases q : K.lookup a with
      | none => simp [q] at h
      | some ob =>
        obtain ⟨oc, od, dt, osl⟩ := ob
        cases oc with
        | type c =>
          cases dt with
          | seq its n =>
            simp only [q, Bool.and_eq_true, decide_eq_true_eq] at h
            obtain ⟨h1, h2, h3⟩ := h
            obtain ⟨vs, r, hd⟩ := datAll_ok h3
            exact ⟨.ref a, rfl, fun H => .tup (.inr ⟨_, its, n, q, congrArg Value.type h1, rfl, h2, r⟩) (hd H)⟩
          | _ => simp [q] at h
        | _ => simp [q] at h
    | _ => simp [datB] at h
theorem datAll_ok : ∀ {ds : List PyData} {us : List Value}, datAll K ds us = true → ∃ vs, Vals vs us ∧ ∀ H, DpAll K H vs ds
  | [], us, h => by
    cases us with
    | nil => exact ⟨[], .nil, fun H => .nil⟩
    | cons u us => simp [datAll] at h
  | d :: ds, us, h => by
    cases us with
    | nil => simp [datAll] at h
    | cons u us =>
      unfold datAll at h
      simp only [Bool.and_eq_true] at h
      obtain ⟨v, r, hd⟩ := datB_ok h.1
      obtain ⟨vs, rs, hds⟩ := datAll_ok h.2
      exact ⟨v :: vs, .cons r rs, fun H => .cons (hd H) (hds H)⟩
end
end
def datAt (K : PySem.W.Frag) (c : Str × PyData) : Bool := match PySem.W.nsIn K mainGlobals c.1 with
  | some (some u) => datB K c.2 u
  | _ => false
/-- the module's name x is this data -/
def Con (K : PySem.W.Frag) (mg : Str → Option Value) (x : Str) (d : PyData) : Prop := ∃ v u, mg x = some u ∧ RelV v u ∧ ∀ H, Dp K H v d
theorem datAt_ok {K : PySem.W.Frag} {h : Heap} {mg : Str → Option Value} (X : K.In h) (G : h.Ns mainGlobals mg) {c : Str × PyData} (e : datAt K c = true) : Con K mg c.1 c.2 := by
  unfold datAt at e
  cases q : PySem.W.nsIn K mainGlobals c.1 with
  | none => simp [q] at e
  | some r =>
    cases r with
    | none => simp [q] at e
    | some u =>
      simp only [q] at e
      obtain ⟨v, r, hd⟩ := datB_ok e
      exact ⟨v, u, PySem.W.mg_of X G q, r, hd⟩
abbrev AlC : Type := He.AlD × Bool
def obsC (fa : List He.Fa) (fn : List He.DefD) (cs : List (Str × PyData)) (K : PySem.W.Frag) : AlC := (He.obsD fa fn K, cs.all fun c => datAt K c)
def SaysC (fa : List He.Fa) (fn : List He.DefD) (cs : List (Str × PyData)) (K : PySem.W.Frag) : Prop := obsC fa fn cs K = (He.valD fn, true)
def obsCG (n : Nat) (fa : List He.Fa) (fn : List He.DefD) (cs : List (Str × PyData)) (g : Addr → Option Obj) : AlC := obsC fa fn cs (He.frG g (He.asD g n))
def hookC (n : Nat) (fa : List He.Fa) (fn : List He.DefD) (cs : List (Str × PyData)) : PySem.W.Hook where
  α := AlC
  obs := fun s => obsCG n fa fn cs s.heap.get?
  val := fun _ => (He.valD fn, true)
  says := fun _ h => ∃ K : PySem.W.Frag, K.In h ∧ SaysC fa fn cs K
  of := fun _ _ e => ⟨_, He.frG_in, e⟩
  keeps := fun _ _ _ ⟨K, hK, c⟩ k => ⟨K, PySem.W.Frag.In.keeps hK k, c⟩
theorem obsCG_eq {n : Nat} {fa : List He.Fa} {fn : List He.DefD} {cs : List (Str × PyData)} {g : Addr → Option Obj} {s : Shared} (h : ∀ a, g a = s.heap.get? a) : obsCG n fa fn cs g = (hookC n fa fn cs).obs s := by
  have e : g = s.heap.get? := funext h
  rw [e] <;> rfl
theorem SaysC.d {fa : List He.Fa} {fn : List He.DefD} {cs : List (Str × PyData)} {K : PySem.W.Frag} (c : SaysC fa fn cs K) : He.SaysD fa fn K := congrArg (fun z : AlC => z.1) c
theorem SaysC.con {fa : List He.Fa} {fn : List He.DefD} {cs : List (Str × PyData)} {K : PySem.W.Frag} (c : SaysC fa fn cs K) (i : Nat) {q : Str × PyData} (h : cs[i]? = some q := by rfl) : datAt K q = true :=
  List.all_eq_true.mp (show (cs.all fun c => datAt K c) = true from congrArg (fun z : AlC => z.2) c) q (List.mem_of_getElem? h)
/-- a def by its name -/
def dD (x : Str) (st : Stmt) : He.DefD := ⟨(x, none), x, x, defArgs st, defBody st, defScope st, [], []⟩
theorem has_of {K : PySem.W.Frag} {h : Heap} {mg : Str → Option Value} (X : K.In h) (G : h.Ns mainGlobals mg) {fa : List He.Fa} {fn : List He.DefD} {x : Str} {st : Stmt} (c : He.SaysD fa fn K) (i j : Nat) (hi : fn[i]? = some (dD x st) := by rfl) (hj : fa[j]? = some (.glo x) := by rfl) : Has K mg x st := by
  obtain ⟨fd, F⟩ := c.def_ i hi
  exact ⟨_, fd, He.glo_ok X G (c.fact j hj), F⟩
end DL

namespace DL
open PySem PySem.Spec PyProof.Rows L2 MA
/-! ### fractions and numbers as data; how large they are -/
def fr (q : Rat) : PyData := .tuple [.int q.num, .int (q.den : Int)]
def _root_.MA.Num.d : Num → PyData
  | .none => .tuple [.str "none"]
  | .nothing s => .tuple [.str "nothing", .int s]
  | .endless s => .tuple [.str "endless", .int s]
  | .number s w p => .tuple [.str "number", .int s, .int w, .int p]
def _root_.MA.Fmt.d (F : Fmt) : PyData := .tuple [.int (F.p : Int), .int F.lo, .int F.hi]
def _root_.MA.Way.s : Way → Str
  | .even => "even"
  | .away => "away"
  | .up => "up"
  | .down => "down"
  | .cut => "cut"
def _root_.MA.Mark.s : Mark → Str
  | .inexact => "inexact"
  | .overflow => "overflow"
  | .underflow => "underflow"
  | .invalid => "invalid"
  | .division => "division"
def msd (ms : List Mark) : PyData := .tuple (ms.map fun m => .str m.s)
def rsd (r : Num × List Mark) : PyData := .tuple [r.1.d, msd r.2]
def Bd (n : Nat) (q : Rat) : Prop := q.num.natAbs < 2 ^ n ∧ q.den < 2 ^ n
theorem Bd.mono {m n : Nat} {q : Rat} (h : Bd m q) (hn : m ≤ n) : Bd n q :=
  ⟨Nat.lt_of_lt_of_le h.1 (Nat.pow_le_pow_right (by decide) hn), Nat.lt_of_lt_of_le h.2 (Nat.pow_le_pow_right (by decide) hn)⟩
theorem natAbs_ediv_le (a : Int) (b : Nat) : (a / (b : Int)).natAbs ≤ a.natAbs := Int.natAbs_ediv_le_natAbs a b
theorem mul_lt_pow {a b m n : Nat} (h : a < 2 ^ m) (h' : b < 2 ^ n) : a * b < 2 ^ (m + n) := by
  rw [Nat.pow_add]
  rcases Nat.eq_zero_or_pos b with e | e
  · rw [e, Nat.mul_zero]; exact Nat.mul_pos (Nat.pow_pos (by decide)) (Nat.pow_pos (by decide))
  · exact Nat.lt_of_lt_of_le (Nat.mul_lt_mul_of_pos_right h e) (Nat.mul_le_mul_left _ (Nat.le_of_lt h'))
theorem Bd.add {m n : Nat} {p q : Rat} (h : Bd m p) (h' : Bd n q) : Bd (m + n + 1) (p + q) := by
  have h1 := mul_lt_pow h.1 h'.2
  have h2 := mul_lt_pow h'.1 h.2
  have h3 := mul_lt_pow h.2 h'.2
  have e : (2 : Nat) ^ (m + n + 1) = 2 * 2 ^ (m + n) := by rw [Nat.pow_succ, Nat.mul_comm]
  rw [Nat.add_comm n m] at h2
  constructor
  · rw [Rat.num_add]
    refine Nat.lt_of_le_of_lt (natAbs_ediv_le _ _) ?_
    refine Nat.lt_of_le_of_lt (Int.natAbs_add_le _ _) ?_
    rw [Int.natAbs_mul, Int.natAbs_mul, Int.natAbs_natCast, Int.natAbs_natCast]
    omega
  · rw [Rat.den_add]
    exact Nat.lt_of_le_of_lt (Nat.div_le_self _ _) (by omega)
theorem Bd.mul {m n : Nat} {p q : Rat} (h : Bd m p) (h' : Bd n q) : Bd (m + n) (p * q) := by
  have h1 := mul_lt_pow h.1 h'.1
  have h3 := mul_lt_pow h.2 h'.2
  constructor
  · rw [Rat.num_mul]
    refine Nat.lt_of_le_of_lt (natAbs_ediv_le _ _) ?_
    rw [Int.natAbs_mul]; exact h1
  · rw [Rat.den_mul]
    exact Nat.lt_of_le_of_lt (Nat.div_le_self _ _) h3
theorem Bd.neg {m : Nat} {p : Rat} (h : Bd m p) : Bd m (-p) := ⟨by rw [Rat.neg_num, Int.natAbs_neg]; exact h.1, h.2⟩
theorem Bd.sub {m n : Nat} {p q : Rat} (h : Bd m p) (h' : Bd n q) : Bd (m + n + 1) (p - q) := by rw [Rat.sub_eq_add_neg]; exact h.add h'.neg
theorem Bd.ab {m : Nat} {p : Rat} (h : Bd m p) : Bd m (ab p) := ⟨by rw [ab_num, Int.natAbs_natCast]; exact h.1, by rw [ab_den]; exact h.2⟩
theorem Bd.inv {m : Nat} {p : Rat} (h : Bd m p) : Bd (m + 1) p⁻¹ := by
  have e : (2 : Nat) ^ (m + 1) = 2 * 2 ^ m := by rw [Nat.pow_succ, Nat.mul_comm]
  have e0 : 0 < 2 ^ m := Nat.pow_pos (by decide)
  constructor
  · rw [Rat.num_inv, Int.natAbs_mul, Int.natAbs_natCast]
    have : p.num.sign.natAbs ≤ 1 := by rcases Int.lt_trichotomy p.num 0 with c | c | c <;> simp [Int.sign_eq_neg_one_of_neg, Int.sign_eq_one_of_pos, c]
    have := Nat.mul_le_mul_right p.den this
    have := h.2
    omega
  · rw [Rat.den_inv]
    have := h.1
    split <;> omega
theorem Bd.div {m n : Nat} {p q : Rat} (h : Bd m p) (h' : Bd n q) : Bd (m + (n + 1)) (p / q) := by rw [Rat.div_def]; exact h.mul h'.inv
theorem Bd.tw {k : Int} {n : Nat} (h : k.natAbs < n) : Bd n (two k) := by
  obtain ⟨h1, h2⟩ := two_fr k
  constructor
  · rw [h1]
    split
    · rw [Int.natAbs_pow]; exact Nat.pow_lt_pow_right (by decide) (by omega)
    · exact Nat.one_lt_two_pow (by omega)
  · have : ((two k).den : Int) < ((2 ^ n : Nat) : Int) := by
      rw [h2]
      split
      · have : 1 < 2 ^ n := Nat.one_lt_two_pow (by omega)
        omega
      · have : 2 ^ (-k).toNat < 2 ^ n := Nat.pow_lt_pow_right (by decide) (by omega)
        have e : ((2 : Int) ^ (-k).toNat) = ((2 ^ (-k).toNat : Nat) : Int) := by simp
        rw [e]; omega
    omega
theorem Bd.int {i : Int} {n : Nat} (h : i.natAbs < 2 ^ n) (hn : 0 < n) : Bd n (i : Rat) := ⟨by rw [Rat.num_intCast]; exact h, by rw [Rat.den_intCast]; exact Nat.one_lt_two_pow (by omega)⟩
theorem Bd.zero {n : Nat} (hn : 0 < n) : Bd n 0 := ⟨Nat.pow_pos (by decide), Nat.one_lt_two_pow (by omega)⟩
/-- what * and // ask -/
theorem log2_lt {x n : Nat} (h : x < 2 ^ n) (hn : 0 < n) : x.log2 < n := PySem.Flt.log2_lt_of hn h
theorem mulW {i j : Int} {a b : Nat} (ha : i.natAbs < 2 ^ a) (hb : j.natAbs < 2 ^ b) (h0 : 0 < a := by decide) (h1 : 0 < b := by decide) (h : a + b ≤ 1000000 := by decide) : CMulW i j := wide_mul ha hb h0 h1 h
theorem nat_lt {n a : Nat} (h : n < 2 ^ a) : ((n : Nat) : Int).natAbs < 2 ^ a := by rw [Int.natAbs_natCast]; exact h
theorem fr_divInt {u l d : Int} (hl : l ≠ 0) (hd : d = l.sign * (Nat.gcd u.natAbs l.natAbs : Nat)) : PyData.tuple [.int (u.fdiv d), .int (l.fdiv d)] = fr (Rat.divInt u l) := by
  have hg : (0 : Int) < ((Nat.gcd u.natAbs l.natAbs : Nat) : Int) := by
    have := Nat.gcd_pos_of_pos_right u.natAbs (n := l.natAbs) (by omega)
    omega
  have du : ((Nat.gcd u.natAbs l.natAbs : Nat) : Int) ∣ u := by
    exact Int.ofNat_dvd_left.mpr (Nat.gcd_dvd_left _ _)
  have dl : ((Nat.gcd u.natAbs l.natAbs : Nat) : Int) ∣ l := by
    exact Int.ofNat_dvd_left.mpr (Nat.gcd_dvd_right _ _)
  unfold fr
  rw [Rat.num_divInt, Rat.den_divInt, if_neg hl]
  have eg : l.gcd u = Nat.gcd u.natAbs l.natAbs := by rw [Int.gcd_comm]; rfl
  rw [eg]
  generalize hG : Nat.gcd u.natAbs l.natAbs = g at *
  obtain ⟨a, ha⟩ := du
  obtain ⟨b, hb⟩ := dl
  have g0 : (g : Int) ≠ 0 := by omega
  have hb0 : b ≠ 0 := fun e => hl (by rw [hb, e, Int.mul_zero])
  rcases Int.lt_or_gt_of_ne hl with c | c
  · rw [hd, Int.sign_eq_neg_one_of_neg c]
    have e1 : u.fdiv (-1 * (g : Int)) = -a := by rw [ha, show (g : Int) * a = (-1 * (g : Int)) * (-a) by grind, Int.mul_fdiv_cancel_left _ (by omega)]
    have e2 : l.fdiv (-1 * (g : Int)) = -b := by rw [hb, show (g : Int) * b = (-1 * (g : Int)) * (-b) by grind, Int.mul_fdiv_cancel_left _ (by omega)]
    have e3 : -1 * u / (g : Int) = -a := by rw [ha, show -1 * ((g : Int) * a) = (g : Int) * (-a) by grind, Int.mul_ediv_cancel_left _ g0]
    have e4 : ((l.natAbs / g : Nat) : Int) = -b := by
      rw [Int.natCast_ediv, show ((l.natAbs : Nat) : Int) = -l by omega, hb, show -((g : Int) * b) = (g : Int) * (-b) by grind, Int.mul_ediv_cancel_left _ g0]
    rw [e1, e2, e3, e4]
  · rw [hd, Int.sign_eq_one_of_pos c, Int.one_mul, Int.one_mul]
    have e1 : u.fdiv (g : Int) = a := by rw [ha, Int.mul_fdiv_cancel_left _ g0]
    have e2 : l.fdiv (g : Int) = b := by rw [hb, Int.mul_fdiv_cancel_left _ g0]
    have e3 : u / (g : Int) = a := by rw [ha, Int.mul_ediv_cancel_left _ g0]
    have e4 : ((l.natAbs / g : Nat) : Int) = b := by
      rw [Int.natCast_ediv, show ((l.natAbs : Nat) : Int) = l by omega, hb, Int.mul_ediv_cancel_left _ g0]
    rw [e1, e2, e3, e4]
theorem add_divInt (p q : Rat) : Rat.divInt (p.num * q.den + q.num * p.den) ((p.den : Int) * q.den) = p + q := by
  conv => rhs; rw [← Rat.num_divInt_den p, ← Rat.num_divInt_den q]
  have h1 : (p.den : Int) ≠ 0 := by have := p.den_nz; omega
  have h2 : (q.den : Int) ≠ 0 := by have := q.den_nz; omega
  rw [Rat.divInt_add_divInt _ _ h1 h2]
theorem mul_divInt (p q : Rat) : Rat.divInt (p.num * q.num) ((p.den : Int) * q.den) = p * q := by
  conv => rhs; rw [← Rat.num_divInt_den p, ← Rat.num_divInt_den q]
  rw [Rat.divInt_mul_divInt]
theorem div_divInt (p q : Rat) : Rat.divInt (p.num * q.den) ((p.den : Int) * q.num) = p / q := by
  rw [Rat.div_def, Rat.inv_def]
  conv => rhs; rw [← Rat.num_divInt_den p]
  rw [Rat.divInt_mul_divInt]
/-- // by any divisor -/
def CDivA (_ j : Int) : Prop := j ≠ 0 ∧ j.natAbs.log2 < 9000
theorem op_fdivA {X : Cx} : OpR X (binaryOp .FloorDiv) (rI CDivA fun i j => .int (i.fdiv j)) := opI fun i j _ _ _ _ _ hc q => floordiv_int hc.1 q (.inl (PyProof.noPylong_of_log2 hc.2))
theorem ev_fdivA {X : Cx} {o : WO} {H0 : Hp} {ρ : List Sl} {a b : Expr} {pos : Pos} {i j : Int} (ha : EVd X o H0 ρ a (.int i)) (hb : EVd X o H0 ρ b (.int j)) (c : CDivA i j) : EVd X o H0 ρ (.BinOp a .FloorDiv b pos) (.int (i.fdiv j)) := ev_bin op_fdivA ha hb fun x y hx hy => by subst hx hy; exact bin_rI c rfl
theorem shl_one {k : Int} {n : Nat} (h0 : 0 ≤ k) (h : k ≤ n) (hn : n ≤ 100000 := by decide) : CShl 1 k := ⟨h0, by rw [show Builtin.Int.intBits 1 = 1 by decide]; omega⟩
theorem one_shl (k : Int) : (1 : Int) * 2 ^ k.toNat = 2 ^ k.toNat := Int.one_mul _
end DL

namespace DL
open PySem PySem.Spec PyProof.Rows L2
def top (i : Nat) : Stmt := PySem.Challenge.pw_roundedwithin_k26_whole_known_words_in_t.main.body.getD i (.Pass ⟨0, 0, 0, 0⟩)
abbrev s_common : Stmt := top 2
theorem sc_common : FnScope ["a", "b"] ["a", "b"] (defScope s_common) := ⟨rfl, rfl, rfl, by decide +kernel, rfl, by decide +kernel, by decide +kernel⟩
abbrev s_fraction : Stmt := top 3
theorem sc_fraction : FnScope ["upper", "lower", "d"] ["upper", "lower"] (defScope s_fraction) := ⟨rfl, rfl, rfl, by decide +kernel, rfl, by decide +kernel, by decide +kernel⟩
abbrev s_times : Stmt := top 4
theorem sc_times : FnScope ["one", "other"] ["one", "other"] (defScope s_times) := ⟨rfl, rfl, rfl, by decide +kernel, rfl, by decide +kernel, by decide +kernel⟩
abbrev s_two_to : Stmt := top 5
theorem sc_two_to : FnScope ["by"] ["by"] (defScope s_two_to) := ⟨rfl, rfl, rfl, by decide +kernel, rfl, by decide +kernel, by decide +kernel⟩
abbrev s_shifted : Stmt := top 6
theorem sc_shifted : FnScope ["one", "by"] ["one", "by"] (defScope s_shifted) := ⟨rfl, rfl, rfl, by decide +kernel, rfl, by decide +kernel, by decide +kernel⟩
abbrev s_value_of : Stmt := top 8
theorem sc_value_of : FnScope ["number", "own"] ["number"] (defScope s_value_of) := ⟨rfl, rfl, rfl, by decide +kernel, rfl, by decide +kernel, by decide +kernel⟩
abbrev s_is_finite : Stmt := top 9
theorem sc_is_finite : FnScope ["number"] ["number"] (defScope s_is_finite) := ⟨rfl, rfl, rfl, by decide +kernel, rfl, by decide +kernel, by decide +kernel⟩
abbrev s_greatest_of : Stmt := top 10
theorem sc_greatest_of : FnScope ["form"] ["form"] (defScope s_greatest_of) := ⟨rfl, rfl, rfl, by decide +kernel, rfl, by decide +kernel, by decide +kernel⟩
abbrev s_form_for : Stmt := top 12
theorem sc_form_for : FnScope ["digits", "wide", "middle", "least"] ["digits", "wide"] (defScope s_form_for) := ⟨rfl, rfl, rfl, by decide +kernel, rfl, by decide +kernel, by decide +kernel⟩
abbrev s_width_of : Stmt := top 13
theorem sc_width_of : FnScope ["digits", "wide"] ["digits", "wide"] (defScope s_width_of) := ⟨rfl, rfl, rfl, by decide +kernel, rfl, by decide +kernel, by decide +kernel⟩
abbrev s_word_of : Stmt := top 14
theorem sc_word_of : FnScope ["digits", "wide", "number", "full", "top", "least", "hidden"] ["digits", "wide", "number"] (defScope s_word_of) := ⟨rfl, rfl, rfl, by decide +kernel, rfl, by decide +kernel, by decide +kernel⟩
abbrev s_number_of_word : Stmt := top 15
theorem sc_number_of_word : FnScope ["digits", "wide", "word", "sign", "power", "rest", "full", "hidden", "least"] ["digits", "wide", "word"] (defScope s_number_of_word) := ⟨rfl, rfl, rfl, by decide +kernel, rfl, by decide +kernel, by decide +kernel⟩
abbrev s_parts_of_word : Stmt := top 16
theorem sc_parts_of_word : FnScope ["digits", "wide", "word", "hidden"] ["digits", "wide", "word"] (defScope s_parts_of_word) := ⟨rfl, rfl, rfl, by decide +kernel, rfl, by decide +kernel, by decide +kernel⟩
abbrev s_key_of_word : Stmt := top 17
theorem sc_key_of_word : FnScope ["digits", "wide", "word", "size"] ["digits", "wide", "word"] (defScope s_key_of_word) := ⟨rfl, rfl, rfl, by decide +kernel, rfl, by decide +kernel, by decide +kernel⟩
abbrev s_all_words : Stmt := top 18
theorem sc_all_words : FnScope ["digits", "wide"] ["digits", "wide"] (defScope s_all_words) := ⟨rfl, rfl, rfl, by decide +kernel, rfl, by decide +kernel, by decide +kernel⟩
abbrev s_next_up : Stmt := top 20
theorem sc_next_up : FnScope ["form", "number"] ["form", "number"] (defScope s_next_up) := ⟨rfl, rfl, rfl, by decide +kernel, rfl, by decide +kernel, by decide +kernel⟩
abbrev s_stepped_up : Stmt := top 21
theorem sc_stepped_up : FnScope ["form", "number", "_", "sign", "whole", "power"] ["form", "number"] (defScope s_stepped_up) := ⟨rfl, rfl, rfl, by decide +kernel, rfl, by decide +kernel, by decide +kernel⟩
abbrev s_stepped_down : Stmt := top 22
theorem sc_stepped_down : FnScope ["form", "number", "_", "sign", "whole", "power"] ["form", "number"] (defScope s_stepped_down) := ⟨rfl, rfl, rfl, by decide +kernel, rfl, by decide +kernel, by decide +kernel⟩
abbrev s__law_draws : Stmt := top 24
theorem sc__law_draws : FnScope ["script", "many", "draws", "mixed", "k", "cell", "rest", "turn"] ["script", "many"] (defScope s__law_draws) := ⟨rfl, rfl, rfl, by decide +kernel, rfl, by decide +kernel, by decide +kernel⟩
abbrev s__law_next : Stmt := top 25
theorem sc__law_next : FnScope ["w", "many"] ["w", "many"] (defScope s__law_next) := ⟨rfl, rfl, rfl, by decide +kernel, rfl, by decide +kernel, by decide +kernel⟩
abbrev s__law_less : Stmt := top 26
theorem sc__law_less : FnScope ["one", "other"] ["one", "other"] (defScope s__law_less) := ⟨rfl, rfl, rfl, by decide +kernel, rfl, by decide +kernel, by decide +kernel⟩
abbrev s_law : Stmt := top 27
theorem sc_law : FnScope ["script", "w", "turn", "digits", "wide", "form", "many", "half", "word", "number", "up", "keys"] ["script"] (defScope s_law) := ⟨rfl, rfl, rfl, by decide +kernel, rfl, by decide +kernel, by decide +kernel⟩
end DL
namespace DL
open PySem PySem.Spec PyProof.Rows L2 MA
section
variable {P : Program} {w : World} {K : PySem.W.Frag} {mg : Str → Option Value} {base : Heap}
theorem shr_bit (n f : Nat) : decide (0 < (n : Int) / 2 ^ f) = decide (f < bitLen n) := by
  rw [decide_eq_decide]
  constructor
  · intro h
    by_cases c : f < bitLen n
    · exact c
    · exfalso
      have h1 := bitLen_lt n
      have h2 : 2 ^ bitLen n ≤ 2 ^ f := Nat.pow_le_pow_right (by decide) (by omega)
      have h3 : n / 2 ^ f = 0 := Nat.div_eq_of_lt (by omega)
      have h4 : (n : Int) / 2 ^ f = ((n / 2 ^ f : Nat) : Int) := by rw [Int.natCast_ediv]; simp
      rw [h4, h3] at h
      exact absurd h (by decide)
  · intro h
    have h1 := bitLen_le h
    have h3 : 0 < n / 2 ^ f := Nat.div_pos h1 (Nat.pow_pos (by decide))
    have h4 : (n : Int) / 2 ^ f = ((n / 2 ^ f : Nat) : Int) := by rw [Int.natCast_ediv]; simp
    rw [h4]; omega
inductive R_common : List PyData → PyData → Prop
  | mk (a b : Int) : R_common [.int a, .int b] (.int (Nat.gcd a.natAbs b.natAbs))
theorem ok_common (h : Has K mg "common" s_common) (babs : mg "abs" = none) : Ok P w K mg base 1 "common" ["a", "b"] (spF K R_common) := by
  refine okF h sc_common (fun _ _ _ _ _ _ us hl => match us, hl with | [_, _], _ => rfl) (fun ds d h => by cases h; rfl) fun f cdv A outer s H E hr ds d h => ?_
  obtain ⟨a, b⟩ := h
  refine sv_pard 0 1 rfl sc_common.nd (ea_consd (ev_abs babs (ev_name 0)) (ea_consd (ev_abs babs (ev_name 1)) ea_nil)) ?_
  refine sv_while PassesOwn.never (α := Nat × Nat) (fun q => [.dat (.int q.1), .dat (.int q.2)]) (fun q => q.2) (fun q => Nat.gcd q.1 q.2 = Nat.gcd a.natAbs b.natAbs) (a.natAbs, b.natAbs) rfl rfl (fun q => decide (0 < q.2))
    (fun q hq => tv_eq (tv_gt (ev_name 1) ev_int) (by rw [decide_eq_decide]; omega))
    (fun q hq ht => sv_pard 0 1 rfl sc_common.nd (ea_consd (ev_name 1) (ea_consd (ev_mod (ev_name 0) (ev_name 1) (by have := of_decide_eq_true ht; omega)) ea_nil)) (sv_nil ⟨(q.2, q.1 % q.2), by rw [← Int.natCast_emod] <;> rfl, by rw [← hq]; show Nat.gcd q.2 (q.1 % q.2) = _; rw [Nat.gcd_comm q.1 q.2, Nat.gcd_rec q.2 q.1, Nat.gcd_comm], by have := of_decide_eq_true ht; exact Nat.mod_lt _ this⟩))
    (fun q hq ht => sv_retd (ev_name 0) (by have := of_decide_eq_false ht; rw [← hq, show q.2 = 0 by omega, Nat.gcd_zero_right]))

abbrev B2 (us : List Value) : Prop := us.length = 2
inductive R_fraction : List PyData → PyData → Prop
  | mk {u l : Int} (hu : u.natAbs < 2 ^ 8000) (hl : l.natAbs < 2 ^ 8000) (h0 : l ≠ 0) : R_fraction [.int u, .int l] (fr (Rat.divInt u l))
theorem ok_fraction (h : Has K mg "fraction" s_fraction) (c_common : Ok P w K mg base 1 "common" ["a", "b"] (spF K R_common)) : Ok P w K mg base 2 "fraction" ["upper", "lower"] (spF K R_fraction) := by
  refine okF h sc_fraction (fun _ _ _ _ _ _ us hl => match us, hl with | [_, _], _ => rfl) (fun ds d h => by cases h; rfl) fun f cdv A outer s H E hr ds d h => ?_
  obtain @⟨u, l, hu, hl, h0⟩ := h
  have hg0 : 0 < Nat.gcd u.natAbs l.natAbs := Nat.gcd_pos_of_pos_right _ (by omega)
  have hgl : Nat.gcd u.natAbs l.natAbs ≤ l.natAbs := Nat.gcd_le_right _ (by omega)
  refine sv_setd 2 sc_fraction.nd (ev_eq (d' := .int (l.sign * (Nat.gcd u.natAbs l.natAbs : Nat))) (ev_ifd (tv_gt (ev_name 1) ev_int) (fun h1 => (ev_calld c_common (hr.mono (by decide)) (ea_consd (ev_name 0) (ea_consd (ev_name 1) ea_nil)) (.mk u l))) (fun h1 => (ev_neg (ev_calld c_common (hr.mono (by decide)) (ea_consd (ev_name 0) (ea_consd (ev_name 1) ea_nil)) (.mk u l))))) ?_) ?_
  · by_cases c : 0 < l
    · rw [if_pos (decide_eq_true c), Int.sign_eq_one_of_pos c, Int.one_mul]
    · rw [if_neg (by simpa using c), Int.sign_eq_neg_one_of_neg (by omega), ← Int.neg_eq_neg_one_mul]
  have hd : CDivA u (l.sign * (Nat.gcd u.natAbs l.natAbs : Nat)) ∧ CDivA l (l.sign * (Nat.gcd u.natAbs l.natAbs : Nat)) := by
    have e : (l.sign * ((Nat.gcd u.natAbs l.natAbs : Nat) : Int)).natAbs = Nat.gcd u.natAbs l.natAbs := by
      rcases Int.lt_or_gt_of_ne h0 with c | c
      · rw [Int.sign_eq_neg_one_of_neg c]; omega
      · rw [Int.sign_eq_one_of_pos c]; omega
    have q : CDivA u (l.sign * ((Nat.gcd u.natAbs l.natAbs : Nat) : Int)) := ⟨fun z => by rw [z] at e; simp at e; omega, by rw [e]; exact Nat.lt_trans (log2_lt (n := 8000) (by omega) (by decide)) (by decide)⟩
    exact ⟨q, q⟩
  exact sv_retd (ev_tupd (ea_consd (ev_fdivA (ev_name 0) (ev_name 2) hd.1) (ea_consd (ev_fdivA (ev_name 1) (ev_name 2) hd.2) ea_nil))) (fr_divInt h0 rfl)
abbrev PF (K : PySem.W.Frag) (P : Program) (w : World) (mg : Str → Option Value) (base : Heap) (k : Nat) (x : Str) (ps : List Str) (R : List PyData → PyData → Prop) : Prop := Ok P w K mg base k x ps (spF K R)
theorem den_lt {n : Nat} {q : Rat} (h : Bd n q) : ((q.den : Nat) : Int).natAbs < 2 ^ n := nat_lt h.2
theorem den_ne (q : Rat) : ((q.den : Nat) : Int) ≠ 0 := by have := q.den_nz; omega
inductive R_times : List PyData → PyData → Prop
  | mk {p q : Rat} (hp : Bd 3000 p) (hq : Bd 3000 q) : R_times [fr p, fr q] (fr (p * q))
theorem ok_times (h : Has K mg "times" s_times) (c_fraction : Ok P w K mg base 2 "fraction" ["upper", "lower"] (spF K R_fraction)) : Ok P w K mg base 3 "times" ["one", "other"] (spF K R_times) := by
  refine okF h sc_times (fun _ _ _ _ _ _ us hl => match us, hl with | [_, _], _ => rfl) (fun ds d h => by cases h; rfl) fun f cdv A outer s H E hr ds d h => ?_
  obtain @⟨p, q, hp, hq⟩ := h
  have b1 : (p.num * q.num).natAbs < 2 ^ 6000 := by rw [Int.natAbs_mul]; exact mul_lt_pow hp.1 hq.1
  have b3 : ((p.den : Int) * (q.den : Int)).natAbs < 2 ^ 6000 := by rw [Int.natAbs_mul]; exact mul_lt_pow (den_lt hp) (den_lt hq)
  exact sv_retd (ev_calld c_fraction (hr.mono (by decide)) (ea_consd (ev_mul (ev_item 0 (ev_name 0) ev_int) (ev_item 0 (ev_name 1) ev_int) (mulW hp.1 hq.1)) (ea_consd (ev_mul (ev_item 1 (ev_name 0) ev_int) (ev_item 1 (ev_name 1) ev_int) (mulW (den_lt hp) (den_lt hq))) ea_nil))
    (.mk (Nat.lt_of_lt_of_le b1 (Nat.pow_le_pow_right (by decide) (by decide))) (Nat.lt_of_lt_of_le b3 (Nat.pow_le_pow_right (by decide) (by decide))) (Int.mul_ne_zero (den_ne p) (den_ne q)))) (by rw [mul_divInt])
inductive R_two_to : List PyData → PyData → Prop
  | mk {k : Int} (h : k.natAbs ≤ 50000) : R_two_to [.int k] (fr (two k))
theorem ok_two_to (h : Has K mg "two_to" s_two_to) : Ok P w K mg base 1 "two_to" ["by"] (spF K R_two_to) := by
  refine okF h sc_two_to (fun _ _ _ _ _ _ us hl => match us, hl with | [_], _ => rfl) (fun ds d h => by cases h; rfl) fun f cdv A outer s H E hr ds d h => ?_
  obtain @⟨k, hk⟩ := h
  refine sv_retd (ev_ifd (tv_ge (ev_name 0) ev_int) (fun h1 => (ev_tupd (ea_consd (ev_shl ev_int (ev_name 0) (shl_one (n := 50000) (of_decide_eq_true h1) (by omega))) (ea_consd ev_int ea_nil)))) (fun h1 => (ev_tupd (ea_consd ev_int (ea_consd (ev_shl ev_int (ev_neg (ev_name 0)) (shl_one (n := 50000) (by have := of_decide_eq_false h1; omega) (by omega))) ea_nil))))) ?_
  obtain ⟨h1, h2⟩ := two_fr k
  unfold fr
  rw [h1, h2]
  by_cases c : 0 ≤ k
  · rw [if_pos (decide_eq_true c), if_pos c, if_pos c, one_shl]
  · rw [if_neg (by simpa using c), if_neg c, if_neg c, one_shl]
inductive R_shifted : List PyData → PyData → Prop
  | mk {q : Rat} {k : Int} (hq : Bd 3000 q) (h : k.natAbs < 3000) : R_shifted [fr q, .int k] (fr (q * two k))
theorem ok_shifted (h : Has K mg "shifted" s_shifted) (c_times : Ok P w K mg base 3 "times" ["one", "other"] (spF K R_times)) (c_two_to : Ok P w K mg base 1 "two_to" ["by"] (spF K R_two_to)) : Ok P w K mg base 4 "shifted" ["one", "by"] (spF K R_shifted) := by
  refine okF h sc_shifted (fun _ _ _ _ _ _ us hl => match us, hl with | [_, _], _ => rfl) (fun ds d h => by cases h; rfl) fun f cdv A outer s H E hr ds d h => ?_
  obtain @⟨q, k, hq, hk⟩ := h
  exact sv_retd (ev_calld c_times (hr.mono (by decide)) (ea_consd (ev_name 0) (ea_consd (ev_calld c_two_to (hr.mono (by decide)) (ea_consd (ev_name 1) ea_nil) (.mk (by omega))) ea_nil)) (.mk hq (Bd.tw hk))) rfl
theorem bitLen_bd {n k : Nat} (h : n < 2 ^ k) : bitLen n ≤ k := by
  by_cases c : bitLen n ≤ k
  · exact c
  · have := bitLen_le (n := n) (k := k) (by omega); omega
end
end DL

namespace DL
open PySem PySem.Spec PyProof.Rows L2 MA
/-! ### numbers by their first word -/
def _root_.MA.Num.tag : Num → Str
  | .none => "none"
  | .nothing _ => "nothing"
  | .endless _ => "endless"
  | .number _ _ _ => "number"
def _root_.MA.Num.tl : Num → List PyData
  | .none => []
  | .nothing s => [.int s]
  | .endless s => [.int s]
  | .number s w p => [.int s, .int w, .int p]
theorem Num.d0 (n : Num) : n.d = .tuple (.str n.tag :: n.tl) := by cases n <;> rfl
theorem Num.d1 {n : Num} (h : n ≠ .none) : n.d = .tuple (.str n.tag :: .int n.sg :: n.tl.drop 1) := by
  cases n with
  | none => exact absurd rfl h
  | _ => rfl
theorem str_ne {x y : Str} (h : decide (x = y) = false) : x ≠ y := of_decide_eq_false h
theorem eqv_none (n : Num) : PyData.eqv n.d (.tuple [.str "none"]) = decide (n = .none) := by
  cases n with
  | none => decide +kernel
  | nothing s => simp [Num.d, PyData.eqv, PyData.eqvAll]
  | endless s => simp [Num.d, PyData.eqv, PyData.eqvAll]
  | number s w p => simp [Num.d, PyData.eqv, PyData.eqvAll]
theorem st_ee : decide (("endless" : Str) = "endless") = true := by decide +kernel
theorem st_ne : decide (("nothing" : Str) = "endless") = false := by decide +kernel
theorem st_oe : decide (("none" : Str) = "endless") = false := by decide +kernel
theorem st_me : decide (("number" : Str) = "endless") = false := by decide +kernel
theorem st_en : decide (("endless" : Str) = "nothing") = false := by decide +kernel
theorem st_nn : decide (("nothing" : Str) = "nothing") = true := by decide +kernel
theorem st_on : decide (("none" : Str) = "nothing") = false := by decide +kernel
theorem st_mn : decide (("number" : Str) = "nothing") = false := by decide +kernel
theorem st_eo : decide (("endless" : Str) = "none") = false := by decide +kernel
theorem st_no : decide (("nothing" : Str) = "none") = false := by decide +kernel
theorem st_oo : decide (("none" : Str) = "none") = true := by decide +kernel
theorem st_mo : decide (("number" : Str) = "none") = false := by decide +kernel
theorem st_em : decide (("endless" : Str) = "number") = false := by decide +kernel
theorem tag_endless (n : Num) : decide (n.tag = "endless") = n.inf := by
  cases n with
  | none => exact st_oe
  | nothing s => exact st_ne
  | endless s => exact st_ee
  | number s w p => exact st_me
theorem tag_nothing (n : Num) : decide (n.tag = "nothing") = n.zero := by
  cases n with
  | none => exact st_on
  | nothing s => exact st_nn
  | endless s => exact st_en
  | number s w p => exact st_mn
theorem tag_none (n : Num) : decide (n.tag = "none") = decide (n = .none) := by
  cases n with
  | none => exact st_oo
  | nothing s => exact st_no.trans (by simp)
  | endless s => exact st_eo.trans (by simp)
  | number s w p => exact st_mo.trans (by simp)
theorem tag_both {a b : Num} (h : (a.inf || b.inf) = true) : decide (a.tag = b.tag) = (a.inf && b.inf) := by
  cases a with
  | endless s =>
    cases b with
    | none => exact st_eo
    | nothing s => exact st_en
    | endless s => exact st_ee
    | number s w p => exact st_em
  | none => cases b with
    | endless s => exact st_oe
    | _ => exact absurd h Bool.false_ne_true
  | nothing s => cases b with
    | endless s => exact st_ne
    | _ => exact absurd h Bool.false_ne_true
  | number s w p => cases b with
    | endless s => exact st_me
    | _ => exact absurd h Bool.false_ne_true
theorem shaped_none : SeqAt.shaped (.tuple [.str "none"]) = true := by decide +kernel
theorem shaped_num (n : Num) : SeqAt.shaped n.d = true := by
  cases n with
  | none => decide +kernel
  | nothing s => exact (by decide +kernel : SeqAt.shaped (.tuple [.str "nothing", .int 0]) = true)
  | endless s => exact (by decide +kernel : SeqAt.shaped (.tuple [.str "endless", .int 0]) = true)
  | number s w p => exact (by decide +kernel : SeqAt.shaped (.tuple [.str "number", .int 0, .int 0, .int 0]) = true)
theorem lfree_num (n : Num) : lfree n.d = true := by cases n <;> rfl
theorem lfree_fr (q : Rat) : lfree (fr q) = true := rfl
theorem lfree_fmt (F : Fmt) : lfree F.d = true := rfl
/-- how large a number is -/
def Nb : Num → Prop
  | .number s w p => (s = 0 ∨ s = 1) ∧ w.natAbs < 2 ^ 80 ∧ p.natAbs < 210
  | .nothing s => s = 0 ∨ s = 1
  | .endless s => s = 0 ∨ s = 1
  | .none => True
theorem Nb.bd {n : Num} (h : Nb n) : Bd 290 n.val := by
  cases n with
  | number s w p =>
    have h1 : Bd 290 ((w : Rat) * two p) := (Bd.int (n := 80) h.2.1 (by decide)).mul (Bd.tw h.2.2)
    show Bd 290 (if s = 1 then -((w : Rat) * two p) else (w : Rat) * two p)
    by_cases c : s = 1
    · rw [if_pos c]; exact h1.neg
    · rw [if_neg c]; exact h1
  | _ => exact Bd.zero (by decide)
structure Fok (F : Fmt) : Prop where
  p2 : 2 ≤ F.p
  pm : F.p ≤ 70
  lo : F.lo.natAbs ≤ 200
  hi : F.hi.natAbs ≤ 200
section
variable {P : Program} {w : World} {K : PySem.W.Frag} {mg : Str → Option Value} {base : Heap}
inductive R_value_of : List PyData → PyData → Prop
  | mk {n : Num} (h : Nb n) (hf : n.fin = true) : R_value_of [n.d] (fr n.val)
theorem fr_lit {n d : Int} (q : Rat) (h1 : q.num = n) (h2 : (q.den : Int) = d) : PyData.tuple [.int n, .int d] = fr q := by unfold fr; rw [h1, h2]
theorem fr_int (i : Int) : PyData.tuple [.int i, .int 1] = fr (i : Rat) := fr_lit _ (Rat.num_intCast i) rfl
theorem ok_value_of (h : Has K mg "value_of" s_value_of) (cN : Con K mg "NOTHING" (.tuple [.int 0, .int 1])) (c_shifted : Ok P w K mg base 4 "shifted" ["one", "by"] (spF K R_shifted)) : Ok P w K mg base 5 "value_of" ["number"] (spF K R_value_of) := by
  refine okF h sc_value_of (fun _ _ _ _ _ _ us hl => match us, hl with | [_], _ => rfl) (fun ds d h => by cases h; rfl) fun f cdv A outer s H E hr ds d h => ?_
  obtain ⟨v1, u1, g1, g2, g3⟩ := cN
  obtain @⟨n, hn, hf⟩ := h
  refine sv_ifr (tv_eq (tv_eqS (ev_item 0 (ev_eq (ev_name 0) (Num.d0 n)) ev_int) ev_str) (tag_nothing n)) (fun h1 => ?_) (fun h1 => ?_)
  · exact sv_retd (ev_glob g1 g2 g3) (by cases n <;> first | exact absurd h1 Bool.false_ne_true | rfl)
  cases n with
  | number s w p =>
    refine sv_setd 1 sc_value_of.nd (ev_calld c_shifted (hr.mono (by decide)) (ea_consd (ev_eq (ev_tupd (ea_consd (ev_item 2 (ev_name 0) ev_int) (ea_consd ev_int ea_nil))) (fr_int w)) (ea_consd (ev_item 3 (ev_name 0) ev_int) ea_nil)) (.mk ((Bd.int (n := 80) hn.2.1 (by decide)).mono (by decide)) (Nat.lt_trans hn.2.2 (by decide)))) ?_
    refine sv_retd (ev_ifd (tv_eqI (ev_item 1 (ev_name 0) ev_int) ev_int) (fun h2 => (ev_tupd (ea_consd (ev_neg (ev_item 0 (ev_name 1) ev_int)) (ea_consd (ev_item 1 (ev_name 1) ev_int) ea_nil)))) (fun h2 => (ev_name 1))) ?_
    show _ = fr (if s = 1 then -((w : Rat) * two p) else (w : Rat) * two p)
    by_cases c : s = 1
    · rw [if_pos (decide_eq_true c), if_pos c]; rfl
    · rw [if_neg (by simpa using c), if_neg c]
  | nothing s => cases h1
  | endless s => cases hf
  | none => cases hf
inductive R_greatest_of : List PyData → PyData → Prop
  | mk {F : Fmt} (h : F.p ≤ 1000) : R_greatest_of [F.d] (greatest F).d
theorem shl1 {X : Cx} {o : WO} {H0 : Hp} {ρ : List Sl} {a b : Expr} {pos : Pos} {j : Int} {n : Nat} (ha : EVd X o H0 ρ a (.int 1)) (hb : EVd X o H0 ρ b (.int j)) (e : j = n) (hn : n ≤ 100000) : EVd X o H0 ρ (.BinOp a .LShift b pos) (.int (2 ^ n)) := by
  subst e
  exact ev_eq (ev_shl ha hb ⟨Int.natCast_nonneg n, by rw [show Builtin.Int.intBits 1 = 1 by decide]; omega⟩) (by rw [Int.one_mul, Int.toNat_natCast])
theorem ok_greatest_of (h : Has K mg "greatest_of" s_greatest_of) : Ok P w K mg base 1 "greatest_of" ["form"] (spF K R_greatest_of) := by
  refine okF h sc_greatest_of (fun _ _ _ _ _ _ us hl => match us, hl with | [_], _ => rfl) (fun ds d h => by cases h; rfl) fun f cdv A outer s H E hr ds d h => ?_
  obtain @⟨F, hp⟩ := h
  exact sv_retd (ev_tupd (ea_consd ev_str (ea_consd ev_int (ea_consd (ev_sub (shl1 ev_int (ev_item 0 (ev_name 0) ev_int) rfl (by omega)) ev_int) (ea_consd (ev_item 2 (ev_name 0) ev_int) ea_nil))))) rfl
/-! ways -/
theorem way_cut (v : Way) : decide (v.s = "cut") = decide (v = .cut) := by cases v <;> decide +kernel
theorem way_up (v : Way) : decide (v.s = "up") = decide (v = .up) := by cases v <;> decide +kernel
theorem way_down (v : Way) : decide (v.s = "down") = decide (v = .down) := by cases v <;> decide +kernel
theorem way_away (v : Way) : decide (v.s = "away") = decide (v = .away) := by cases v <;> decide +kernel
theorem way_near (v : Way) : decide (v.s ∈ (["even", "away"] : List Str)) = decide (v = .even ∨ v = .away) := by cases v <;> decide +kernel
theorem nb_leastFull {F : Fmt} (hF : Fok F) : Nb (leastFull F) := by
  refine ⟨.inl rfl, ?_, by have := hF.lo; show F.lo.natAbs < 210; omega⟩
  show (2 ^ (F.p - 1) : Int).natAbs < 2 ^ 80
  rw [Int.natAbs_pow]
  exact Nat.pow_lt_pow_right (by decide) (by have := hF.pm; omega)
end
end DL

namespace DL
open PySem PySem.Spec PyProof.Rows L2 MA
section
variable {P : Program} {w : World} {K : PySem.W.Frag} {mg : Str → Option Value} {base : Heap}
theorem expo_bd {n : Nat} {q : Rat} (h : Bd n q) : (expo q).natAbs ≤ n + 1 := by
  have e1 := bitLen_bd h.1
  have e2 := bitLen_bd h.2
  unfold expo
  split <;> omega
theorem unit_bd {F : Fmt} {n : Nat} {q : Rat} (hF : Fok F) (h : Bd n q) : (unitAt F q).natAbs ≤ n + 1202 := by
  have e := expo_bd h
  have := hF.lo
  have := hF.pm
  unfold unitAt
  split <;> omega
theorem gns2 {X : Cx} {x y : Str} {p q : Pos} {i j : Nat} (hx : X.N[i]? = some x := by rfl) (hy : X.N[j]? = some y := by rfl) (lx : Loc X.env.scope x := by first | exact Or.inl rfl | exact Or.inr rfl) (ly : Loc X.env.scope y := by first | exact Or.inl rfl | exact Or.inr rfl)
    (fx : X.fn x = true ∨ X.env.scope.names.lookup x = some .local := by first | exact .inl rfl | exact .inr rfl) (fy : X.fn y = true ∨ X.env.scope.names.lookup y = some .local := by first | exact .inl rfl | exact .inr rfl)
    (h1 : (assignEach [Expr.Name x p, .Name y q] X.env).map (·.2) = assign (.Name x p) X.env :: (assignEach [Expr.Name y q] X.env).map (·.2) := by rfl) (h2 : (assignEach [Expr.Name y q] X.env).map (·.2) = assign (.Name y q) X.env :: (assignEach [] X.env).map (·.2) := by rfl) : GNs X [.Name x p, .Name y q] [i, j] :=
  ⟨⟨x, p, rfl, hx, lx, fx⟩, ⟨⟨y, q, rfl, hy, ly, fy⟩, trivial, h2⟩, h1⟩
theorem gns3 {X : Cx} {x y z : Str} {p q r : Pos} {i j k : Nat} (hx : X.N[i]? = some x := by rfl) (hy : X.N[j]? = some y := by rfl) (hz : X.N[k]? = some z := by rfl) (lx : Loc X.env.scope x := by first | exact Or.inl rfl | exact Or.inr rfl) (ly : Loc X.env.scope y := by first | exact Or.inl rfl | exact Or.inr rfl) (lz : Loc X.env.scope z := by first | exact Or.inl rfl | exact Or.inr rfl)
    (fx : X.fn x = true ∨ X.env.scope.names.lookup x = some .local := by first | exact .inl rfl | exact .inr rfl) (fy : X.fn y = true ∨ X.env.scope.names.lookup y = some .local := by first | exact .inl rfl | exact .inr rfl) (fz : X.fn z = true ∨ X.env.scope.names.lookup z = some .local := by first | exact .inl rfl | exact .inr rfl)
    (h1 : (assignEach [Expr.Name x p, .Name y q, .Name z r] X.env).map (·.2) = assign (.Name x p) X.env :: (assignEach [Expr.Name y q, .Name z r] X.env).map (·.2) := by rfl) (h2 : (assignEach [Expr.Name y q, .Name z r] X.env).map (·.2) = assign (.Name y q) X.env :: (assignEach [Expr.Name z r] X.env).map (·.2) := by rfl) (h3 : (assignEach [Expr.Name z r] X.env).map (·.2) = assign (.Name z r) X.env :: (assignEach [] X.env).map (·.2) := by rfl) : GNs X [.Name x p, .Name y q, .Name z r] [i, j, k] :=
  ⟨⟨x, p, rfl, hx, lx, fx⟩, ⟨⟨y, q, rfl, hy, ly, fy⟩, ⟨⟨z, r, rfl, hz, lz, fz⟩, trivial, h3⟩, h2⟩, h1⟩
theorem own_eq (q : Rat) : (if decide (q.num < 0) = true then (1 : Int) else 0) = if q.num < 0 then 1 else 0 := by
  by_cases c : q.num < 0 <;> simp [c]
end
end DL

namespace DL
open PySem PySem.Spec PyProof.Rows L2 MA
/-- a pure def of several ends -/
def spP (K : PySem.W.Frag) (R : List PyData → (PyData → Prop) → Prop) : Sp := fun vs H Q _ => ∃ ds Φ, DpAll K H vs ds ∧ R ds Φ ∧ ∀ v H' d, Φ d → Same H H' → Dp K H' v d → Q v H'
section
variable {P : Program} {w : World} {K : PySem.W.Frag} {mg : Str → Option Value} {base : Heap} {x : Str} {st : Stmt} {N ps : List Str} {k : Nat}
theorem okP {R : List PyData → (PyData → Prop) → Prop} (h : Has K mg x st) (S : FnScope N ps (defScope st)) (bd : BindsH ps x st) (hl : ∀ ds d, R ds d → ds.length = ps.length)
    (hb : ∀ (f : Addr) (cdv : Value) (A : Around) (outer : List Env) (s : Shared) (H : Hp) (E : XK), Room k (A.deeper (envOfC x (defScope st) s.heap.objs.size f cdv)) → ∀ ds Φ, R ds Φ →
      SVs (bX P w K mg base N x st f cdv A outer s H E) none H (slots0 N.length ds) (defBody st) (fun _ => False) Φ) : Ok P w K mg base (k + 1) x ps (spP K R) := by
  obtain ⟨f, fd, hm, F⟩ := h
  refine ⟨f, fd, hm, F.kp, FunD.bindsN F bd, F.ok S (fun vs H Q E ⟨ds, d, h1, h2, _⟩ => by rw [h1.length]; exact hl ds d h2) fun cdv A outer s H vs Q E hr ⟨ds, d, h1, h2, q⟩ => ?_⟩
  exact ⟨_, PSs.nox (hb f cdv A outer s H E hr ds d h2), trivial, Gr.refl _ _, slots_start h1, fun _ _ _ z => z.elim, fun v H' d' e g p => q v H' d' e g p⟩
end
section
variable {X : Cx} {o : WO} {H0 : Hp} {ρ : List Sl} {e a b : Expr} {es : List Expr} {pos p : Pos} {Φ Φa Φb : PyData → Prop} {x : Str} {ps : List Str} {k : Nat}
theorem ev_callP {R : List PyData → (PyData → Prop) → Prop} {Φs : List PyData → Prop} (C : Ok X.prog X.w X.K X.mg X.base k x ps (spP X.K R)) (hr : Room k X.A) (ha : EA X o H0 ρ (e :: es) Φs) (h : ∀ ds, Φs ds → R ds Φ)
    (hg : Gl X x := by rfl) (hdb : (x == ("__debug__" : Str)) = false := by decide) (he : starEach (e :: es) X.env = (false, eval e X.env) :: starEach es X.env := by rfl) (hpl : (backTo pos (starEach es X.env)).any (·.1) = false := by rfl) :
    EV X o H0 ρ (.Call (.Name x p) (e :: es) [] pos) Φ := by
  obtain ⟨f, fd, hm, kp, bd, F⟩ := C
  exact PE.imp (pe_call F hr hg hm kp bd .nil pass0 ha hdb he hpl) fun σ H Q ⟨g, sl, q⟩ => ⟨g, sl, fun vs H1 ds hds g1 p1 =>
    ⟨ds, Φ, by rw [List.append_nil]; exact p1, h ds hds, fun v H' d hd s dp => q v H' d hd (Gr.trans g1 (Gr.same s)) dp⟩⟩
end
theorem num_w_nb {F : Fmt} (hF : Fok F) {w : Int} (h1 : 0 ≤ w) (h2 : w ≤ 2 ^ F.p) : w.natAbs < 2 ^ 80 := by
  have h3 : (2 : Nat) ^ F.p < 2 ^ 80 := Nat.pow_lt_pow_right (by decide) (by have := hF.pm; omega)
  have h4 : ((2 ^ F.p : Nat) : Int) = 2 ^ F.p := by simp
  omega
theorem Fok.nb {F : Fmt} (hF : Fok F) {n : Num} (h : OfF F n) : Nb n := by
  cases n with
  | number s w e =>
    obtain ⟨hs, he, hw, _⟩ := h
    exact ⟨hs, num_w_nb hF (by omega) (by omega), by have := hF.lo; have := hF.hi; omega⟩
  | nothing s => exact h
  | endless s => exact h
  | none => trivial
theorem Nb.turned {n : Num} (h : Nb n) : Nb n.turned := by
  cases n with
  | number s w p => exact ⟨by rcases h.1 with e | e <;> subst e <;> simp, h.2⟩
  | nothing s => rcases h with e | e <;> subst e <;> simp [Num.turned, Nb]
  | endless s => rcases h with e | e <;> subst e <;> simp [Num.turned, Nb]
  | none => trivial
theorem inf_fin {n : Num} (h1 : n ≠ .none) (h2 : n.inf = false) : n.fin = true := by cases n <;> first | rfl | exact absurd rfl h1 | cases h2
section
variable {P : Program} {w : World} {K : PySem.W.Frag} {mg : Str → Option Value} {base : Heap}
end
end DL

namespace DL
open PySem PySem.Spec PyProof.Rows L2 MA
/-! ### the draws -/
abbrev wKvs (ad : Addr) (n : Int) : List (Key × V) := [(.inr "draws", .ref ad), (.inr "at", .int n)]
def kDr : Key := .inr "draws"
def kAt : Key := .inr "at"
theorem k_ne : ¬ kDr = kAt := by decide +kernel
theorem w_at (ad : Addr) (n : Int) : valV (wKvs ad n) kAt = some (.int n) := by
  show valV (((kDr, V.ref ad) : Key × V) :: ((kAt, V.int n) : Key × V) :: []) kAt = _
  rw [valV_neg k_ne, valV_pos rfl]
theorem w_dr (ad : Addr) (n : Int) : valV (wKvs ad n) kDr = some (.ref ad) := valV_pos rfl
theorem w_put (ad : Addr) (n m : Int) : putK (wKvs ad n) kAt (.int m) = wKvs ad m := by
  unfold putK
  rw [if_pos (by rw [valV_any, w_at]; rfl)]
  show [if kDr = kAt then (kDr, V.int m) else (kDr, V.ref ad), if kAt = kAt then (kAt, V.int m) else (kAt, V.int n)] = _
  rw [if_neg k_ne, if_pos rfl]; rfl
section
variable {H : Hp} {aw ad : Addr} {n m : Int}
theorem wget_at (e : H aw = some (.dK (wKvs ad n))) : DGet H aw (.str "at") (some (.int n)) := by
  have := DGet.k (k := kAt) e
  rw [w_at] at this; exact this
theorem wget_dr (e : H aw = some (.dK (wKvs ad n))) : DGet H aw (.str "draws") (some (.ref ad)) := by
  have := DGet.k (k := kDr) e
  rw [w_dr] at this; exact this
theorem wput_at (e : H aw = some (.dK (wKvs ad n))) : DPut H aw (.str "at") (.int m) (upd H aw (.dK (wKvs ad m))) := by
  have := DPut.k (k := kAt) (v := .int m) e (by show 2 < sizeLine; decide)
  rw [w_put] at this; exact this
end
section
variable {P : Program} {w : World} {K : PySem.W.Frag} {mg : Str → Option Value} {base : Heap}
inductive R_next : List PyData → (PyData → Prop) → Prop
  | mk {m : Int} (hm : 0 < m) : R_next [.int m] (fun d => ∃ i, d = .int i ∧ 0 ≤ i ∧ i < m)
theorem ok_next (h : Has K mg "_law_next" s__law_next) (blen : mg "len" = none) (bint : mg "int" = none) : Ok P w K mg base 1 "_law_next" ["w", "many"] (spW K R_next) := by
  obtain ⟨f, fd, hm, F⟩ := h
  refine ⟨f, fd, hm, F.kp, FunD.bindsN F (fun _ _ _ _ _ _ us hl => match us, hl with | [_, _], _ => rfl), F.ok sc__law_next (fun vs H Q E ⟨aw, ad, vs', ds, Φ, e, _, h1, h2, _⟩ => by rw [e, List.length_cons, h1.length]; cases h2; rfl) fun cdv A outer s H vs Q E hr ⟨aw, ad, vs', ds, Φ, e, wk, h1, h2, q⟩ => ?_⟩
  subst e
  obtain @⟨m, hm0⟩ := h2
  cases h1 with
  | cons p1 p2 =>
  cases p2; cases p1.int_inv
  obtain ⟨n, ns, hn, e1, e2, hns⟩ := wk
  have hu := hu_of hr
  refine ⟨_, PSs.nox (pss_cons (ps_daug hu (pv 0) pe_str pe_int in_add (fun _ _ _ => rfl)) (pss_cons (ps_if (pt_cmpR op_gt (pe_dget hu (pv 0) pe_str (fun _ _ => rfl)) (pe_callB call_len rfl blen boot_len (pa_cons (pe_dget hu (pv 0) pe_str (fun _ _ => rfl)) pa_nil)) (nomark _)) (pss_one (ps_ret pe_int)) pss_nil)
    (pss_one (ps_ret (pe_op op_mod (pe_callTy call_int1 rfl bint (by decide +kernel) (pa_cons (pe_ix ix_list (pe_dget hu (pv 0) pe_str (fun _ _ => rfl)) (pe_op op_sub (pe_dget hu (pv 0) pe_str (fun _ _ => rfl)) pe_int) (fun _ _ => rfl)) pa_nil)) (pv 1)))))), ?_⟩
  have e1' : upd H aw (.dK (wKvs ad (n + 1))) aw = some (.dK (wKvs ad (n + 1))) := upd_same
  have e2' : SqL K (upd H aw (.dK (wKvs ad (n + 1)))) ad (ns.map V.int) := SqL.same (fun o e q => by
    rw [upd_ne]; exact e
    intro z; rw [z, e1] at e; cases e; rcases q with ⟨_, q⟩ | ⟨_, _, q⟩ <;> cases q) e2
  have hG : Gr (some (K, aw, ad)) H (upd H aw (.dK (wKvs ad (n + 1)))) := by
    refine ⟨⟨fun a o ho hs => ?_, fun a ha => ?_⟩, fun _ => ⟨n + 1, ns, by omega, e1', e2', hns⟩⟩
    · have : a ≠ aw := fun z => by rw [z, e1] at ho; cases ho; cases hs
      rw [upd_ne this]; exact ho
    · by_cases z : a = aw
      · rw [z, upd_same] at ha; cases ha
      · rw [upd_ne z] at ha; exact ha
  refine ⟨_, rfl, aw, .int n, rfl, wget_at e1, n, 1, rfl, rfl, _, wput_at e1, ?_⟩
  refine ⟨_, rfl, aw, .int (n + 1), rfl, wget_at e1', _, rfl, aw, .ref ad, rfl, wget_dr e1', .ref ad, ns.length, rfl, .inl ⟨_, e2', by rw [List.length_map]⟩, n + 1, ns.length, rfl, rfl, _, rfl, ?_⟩
  refine (show (if decide ((ns.length : Int) < n + 1) = true then (_ : Prop) else _) from ?_)
  by_cases c : (ns.length : Int) < n + 1
  · rw [if_pos (decide_eq_true c)]
    exact q (.int 0) _ (.int 0) ⟨0, rfl, by omega, hm0⟩ hG (.int 0)
  · rw [if_neg (by simpa using c)]
    have hlt : n.toNat < ns.length := by omega
    refine ⟨_, rfl, aw, .ref ad, rfl, wget_dr e1', _, rfl, aw, .int (n + 1), rfl, wget_at e1', n + 1, 1, rfl, rfl, ad, _, n, .int ns[n.toNat], rfl, by show V.int (n + 1 - 1) = V.int n; rw [show n + 1 - 1 = n by omega], e2', ?_, .inl ⟨_, rfl, _, rfl, _, m, rfl, rfl, hm0, ?_⟩⟩
    · have := atI_nat (xs := ns.map V.int) (j := n.toNat) (v := .int ns[n.toNat]) (by simp [hlt])
      rw [Int.toNat_of_nonneg hn] at this; exact this
    · exact q _ _ _ ⟨_, rfl, Int.emod_nonneg _ (by omega), Int.emod_lt_of_pos _ hm0⟩ hG (.int _)
end
end DL

namespace DL
open PySem PySem.Spec PyProof.Rows L2 MA
section
variable {X : Cx} {o : WO} {H0 : Hp} {ρ : List Sl} {e a b : Expr} {es : List Expr} {pos p : Pos} {Φ Φa Φb : PyData → Prop}
theorem ev_itemLd {ds : List PyData} {d : PyData} {n : Nat} (ha : EVd X o H0 ρ a (.list ds)) (hb : EVd X o H0 ρ b (.int n)) (hi : ds[n]? = some d) (hs : PlainIx b := by exact fun _ _ => rfl) : EVd X o H0 ρ (.Subscript a b pos) d :=
  ev_itemL (Φ := (· = d)) ha hb (fun y hy => ⟨n, hy, d, hi, rfl⟩) hs
theorem ev_pow {i j : Int} (ha : EVd X o H0 ρ a (.int i)) (hb : EVd X o H0 ρ b (.int j)) (c : CPow i j) : EVd X o H0 ρ (.BinOp a .Pow b pos) (.int (i ^ j.toNat)) := ev_bin op_pow ha hb fun x y hx hy => by subst hx hy; exact bin_rI c rfl
end
theorem mem_snoc {P : Int → Prop} {ms : List Int} {m : Int} (h : ∀ x ∈ ms, P x) (hm : P m) : ∀ x ∈ ms ++ [m], P x := fun x hx => by
  rcases List.mem_append.mp hx with h1 | h1
  · exact h x h1
  · rw [List.mem_singleton.mp h1]; exact hm
theorem lfree_ints : ∀ ms : List Int, lfreeAll (ms.map PyData.int) = true
  | [] => rfl
  | m :: ms => lfree_ints ms
theorem map_snoc (ms : List Int) (m : Int) : ms.map PyData.int ++ [PyData.int m] = (ms ++ [m]).map PyData.int := by rw [List.map_append]; rfl
def isI : Sl → Prop := fun s => s = .un ∨ ∃ i, s = .dat (.int i)
theorem isI.firm {s : Sl} (h : isI s) : s.firm = true := by rcases h with rfl | ⟨i, rfl⟩ <;> rfl
theorem isI.dat (i : Int) : isI (.dat (.int i)) := .inr ⟨i, rfl⟩
/-- the draws so far -/
def DrI (l : Addr) (sc : PyData) (mn : Int) (B : Nat) (ρ : List Sl) : Prop := ∃ (ms : List Int) (mx : Int) (s4 s5 s6 s7 : Sl), ρ = [.old sc, .old (.int mn), .mtl l (ms.map PyData.int), .dat (.int mx), s4, s5, s6, s7] ∧ isI s4 ∧ isI s5 ∧ isI s6 ∧ isI s7 ∧ 0 ≤ mx ∧ mx < 65537 ∧ ms.length ≤ B ∧ ∀ m ∈ ms, 0 ≤ m
theorem fb2 {a b c d e f g : Sl} {l : Addr} {ds : List PyData} (ha : a.firm = true) (hb : b.firm = true) (hc : c.firm = true) (hd : d.firm = true) (he : e.firm = true) (hf : f.firm = true) (hg : g.firm = true) : firmBut 2 [a, b, .mtl l ds, c, d, e, f, g] = true := by
  show (a.firm && (b.firm && [c, d, e, f, g].all Sl.firm)) = true
  simp [ha, hb, hc, hd, he, hf, hg]
section
variable {P : Program} {w : World} {K : PySem.W.Frag} {mg : Str → Option Value} {base : Heap}
inductive R_draws : List PyData → (PyData → Prop) → Prop
  | mk {ns : List Int} {m : Int} (hl : ns.length ≤ 63) (h0 : 0 ≤ m) (h1 : m ≤ 1000) : R_draws [.list (ns.map .int), .int m] (fun d => ∃ ms : List Int, d = .list (ms.map .int) ∧ ∀ x ∈ ms, 0 ≤ x)
theorem mod_pos {a b : Int} (h : 0 < b) : 0 ≤ a % b ∧ a % b < b := ⟨Int.emod_nonneg _ (by omega), Int.emod_lt_of_pos _ h⟩
theorem ok_draws (h : Has K mg "_law_draws" s__law_draws) (blen : mg "len" = none) (bint : mg "int" = none) (babs : mg "abs" = none) (brange : mg "range" = none) : Ok P w K mg base 1 "_law_draws" ["script", "many"] (spP K R_draws) := by
  refine okP h sc__law_draws (fun _ _ _ _ _ _ us hl => match us, hl with | [_, _], _ => rfl) (fun ds d h => by cases h; rfl) fun f cdv A outer st H E hr ds d h => ?_
  obtain @⟨ns, m, hl, h0, h1⟩ := h
  have lz := line63
  have sz : sizeLine = 16777216 := sizeLine_eq
  refine sv_setM 2 sc__law_draws.nd fun l => ?_
  refine sv_setd 3 sc__law_draws.nd ev_int ?_
  have N := sc__law_draws.nd
  refine sv_forR1 PassesOwn.never rfl brange (ea_consd (ev_lenL blen (ev_name 0)) ea_nil) (by rw [List.length_map]; omega) (tg_name 4 N) (fun _ => trivial) (fun n ρ => DrI l (.list (ns.map .int)) m (62 * n) ρ) ⟨[], 7, .un, .un, .un, .un, rfl, .inl rfl, .inl rfl, .inl rfl, .inl rfl, by decide, by decide, by simp, by simp⟩ ?_ ?_
  · rintro n ρ' hn ⟨ms, mx, s4, s5, s6, s7, rfl, i4, i5, i6, i7, hx0, hx1, hml, hm0⟩
    have hn' : n < ns.length := by rw [List.length_map] at hn; omega
    refine sv_setd 5 N (ev_abs babs (ev_int1 bint (ev_itemLd (d := .int ns[n]) (ev_name 0) (ev_name 4) (by simp [hn'])))) ?_
    refine sv_setd 3 N (ev_mod (ev_int1 bint (ev_add (ev_add (ev_mul (ev_name 3) ev_int (mulW (a := 17) (b := 17) (by omega) (by decide))) (ev_mod (ev_name 5) ev_int (by decide))) (ev_name 4))) ev_int (by decide)) ?_
    refine sv_setd 6 N ev_int ?_
    have hmx := mod_pos (a := mx * 48271 + ((ns[n].natAbs : Nat) : Int) % 1000003 + (n : Int)) (b := 65537) (by decide)
    generalize (mx * 48271 + ((ns[n].natAbs : Nat) : Int) % 1000003 + (n : Int)) % 65537 = mx' at *
    refine sv_if (Mid := fun ρ' => ∃ (ms' : List Int) (r : Int), ρ' = [.old (.list (ns.map .int)), .old (.int m), .mtl l (ms'.map PyData.int), .dat (.int mx'), .dat (.int n), .dat (.int ns[n].natAbs), .dat (.int r), s7] ∧ ms'.length ≤ 62 * n + 2 ∧ (∀ x ∈ ms', 0 ≤ x) ∧ 0 ≤ r)
      (tv_ge (ev_name 5) (ev_pow ev_int ev_int ⟨by decide, by decide, by decide⟩)) (fun hc => ?_) (fun hc => ?_) ?_
    · exact sv_setd 6 N (ev_name 5) (sv_nil ⟨ms, _, rfl, by omega, hm0, by omega⟩)
    · refine sv_append 2 rfl (fb2 rfl rfl rfl rfl rfl rfl i7.firm) (lfree_ints ms) (by rw [List.length_map]; omega) (ev_mod (ev_int1 bint (ev_name 5)) ev_int (by decide)) (fun d hd => by rw [hd]; rfl) fun d hd => ?_
      subst hd
      refine sv_append 2 rfl (fb2 rfl rfl rfl rfl rfl rfl i7.firm) (by rw [map_snoc]; exact lfree_ints _) (by rw [map_snoc, List.length_map, List.length_append]; simp only [List.length_singleton]; omega) (ev_mod (ev_mod (ev_int1 bint (ev_add (ev_mul (ev_name 3) ev_int (mulW (a := 17) (b := 18) (by omega) (by decide))) ev_int)) ev_int (by decide)) ev_int (by decide)) (fun d hd => by rw [hd]; rfl) fun d hd => ?_
      subst hd
      refine sv_nil ⟨(ms ++ [((ns[n].natAbs : Nat) : Int) % 997]) ++ [(mx' * 69621 + 5) % 65521 % 997], 0, by rw [← map_snoc, ← map_snoc]; rfl, by simp; omega, mem_snoc (mem_snoc hm0 (mod_pos (by decide)).1) (mod_pos (by decide)).1, Int.le_refl _⟩
    · rintro ρ2 ⟨ms', r, rfl, hl', hm', hr0⟩
      refine sv_forR1 PassesOwn.never rfl brange (ea_consd ev_int ea_nil) (by decide) (tg_name 7 N) (fun _ => trivial) (fun j ρ => ∃ (ms' : List Int) (r : Int) (s7 : Sl), ρ = [.old (.list (ns.map .int)), .old (.int m), .mtl l (ms'.map PyData.int), .dat (.int mx'), .dat (.int n), .dat (.int ns[n].natAbs), .dat (.int r), s7] ∧ isI s7 ∧ ms'.length ≤ 62 * n + 2 + j ∧ (∀ x ∈ ms', 0 ≤ x) ∧ 0 ≤ r) ⟨ms', r, s7, rfl, i7, by omega, hm', hr0⟩ ?_ ?_
      · rintro j ρ3 hj ⟨ms', r, s7, rfl, i7, hl', hm', hr0⟩
        have hj' : j < 60 := by simpa using hj
        refine sv_if (Mid := fun ρ => ∃ (ms' : List Int) (r : Int) (s7 : Sl), ρ = [.old (.list (ns.map .int)), .old (.int m), .mtl l (ms'.map PyData.int), .dat (.int mx'), .dat (.int n), .dat (.int ns[n].natAbs), .dat (.int r), s7] ∧ isI s7 ∧ ms'.length ≤ 62 * n + 2 + (j + 1) ∧ (∀ x ∈ ms', 0 ≤ x) ∧ 0 ≤ r) (tv_gt (ev_name 6) ev_int) (fun hc => ?_) (fun hc => ?_) (fun ρ4 q => sv_nil q)
        · refine sv_append 2 rfl (fb2 rfl rfl rfl rfl rfl rfl rfl) (lfree_ints ms') (by rw [List.length_map]; omega) (ev_mod (ev_int1 bint (ev_name 6)) ev_int (by decide)) (fun d hd => by rw [hd]; rfl) fun d hd => ?_
          subst hd
          refine sv_setd 6 N (ev_fdiv (ev_name 6) ev_int ⟨by decide, by decide⟩) ?_
          refine sv_nil ⟨ms' ++ [r % 997], r / 997, .dat (.int j), by rw [← map_snoc]; rfl, isI.dat _, by simp; omega, mem_snoc hm' (mod_pos (by decide)).1, Int.ediv_nonneg hr0 (by decide)⟩
        · exact sv_nil ⟨ms', r, .dat (.int j), rfl, isI.dat _, by omega, hm', hr0⟩
      · rintro ρ3 ⟨ms', r, s7, rfl, i7, hl', hm', hr0⟩
        exact sv_nil ⟨ms', mx', _, _, _, s7, rfl, isI.dat _, isI.dat _, isI.dat _, i7, hmx.1, hmx.2, by simp at hl'; omega, hm'⟩
  · rintro ρ' ⟨ms, mx, s4, s5, s6, s7, rfl, i4, i5, i6, i7, hx0, hx1, hml, hm0⟩
    have hml' : ms.length ≤ 62 * 63 := by simp at hml; omega
    refine sv_forR1 PassesOwn.never rfl brange (ea_consd (ev_name 1) ea_nil) (by omega) (tg_name 4 N) (fun _ => trivial) (fun n ρ => DrI l (.list (ns.map .int)) m (62 * 63 + n) ρ) ⟨ms, mx, s4, s5, s6, s7, rfl, i4, i5, i6, i7, hx0, hx1, by omega, hm0⟩ ?_ ?_
    · rintro n ρ' hn ⟨ms, mx, s4, s5, s6, s7, rfl, i4, i5, i6, i7, hx0, hx1, hml, hm0⟩
      refine sv_setd 3 N (ev_mod (ev_int1 bint (ev_add (ev_add (ev_mul (ev_name 3) ev_int (mulW (a := 17) (b := 15) (by omega) (by decide))) (ev_name 4)) ev_int)) ev_int (by decide)) ?_
      have hmx := mod_pos (a := mx * 16807 + (n : Int) + 1) (b := 65537) (by decide)
      refine sv_append 2 rfl (fb2 rfl rfl rfl rfl i5.firm i6.firm i7.firm) (lfree_ints ms) (by rw [List.length_map]; omega) (ev_mod (ev_int1 bint (ev_name 3)) ev_int (by decide)) (fun d hd => by rw [hd]; rfl) fun d hd => ?_
      subst hd
      exact sv_nil ⟨ms ++ [(mx * 16807 + (n : Int) + 1) % 65537 % 997], _, _, s5, s6, s7, by rw [← map_snoc]; rfl, isI.dat _, i5, i6, i7, hmx.1, hmx.2, by simp; omega, mem_snoc hm0 (mod_pos (by decide)).1⟩
    · rintro ρ' ⟨ms, mx, s4, s5, s6, s7, rfl, i4, i5, i6, i7, hx0, hx1, hml, hm0⟩
      refine sv_retd (ev_slL (ev_name 2) po_no (po_so (ev_name 1))) ⟨(ms.drop (HT.sIx (ms.map PyData.int).length 0 none)).take (HT.sIx (ms.map PyData.int).length (ms.map PyData.int).length (some m) - HT.sIx (ms.map PyData.int).length 0 none), by rw [List.map_take, List.map_drop], fun x hx => hm0 x (List.mem_of_mem_drop (List.mem_of_mem_take hx))⟩
end
end DL

namespace DL
open PySem PySem.Spec PyProof.Rows L2 MA
section
variable {P : Program} {w : World} {K : PySem.W.Frag} {mg : Str → Option Value} {base : Heap}
theorem den_mul_pos (p q : Rat) : (0 : Int) < (p.den : Int) * (q.den : Int) := Int.mul_pos (den_pos p) (den_pos q)
inductive R_lless : List PyData → PyData → Prop
  | mk {p q : Rat} (hp : Bd 9000 p) (hq : Bd 9000 q) : R_lless [fr p, fr q] (.bool (decide (p < q)))
theorem ok_lless (h : Has K mg "_law_less" s__law_less) : Ok P w K mg base 1 "_law_less" ["one", "other"] (spF K R_lless) := by
  refine okF h sc__law_less (fun _ _ _ _ _ _ us hl => match us, hl with | [_, _], _ => rfl) (fun ds d h => by cases h; rfl) fun f cdv A outer s H E hr ds d h => ?_
  obtain @⟨p, q, hp, hq⟩ := h
  exact sv_retd (ev_lt (ev_mul (ev_item 0 (ev_name 0) ev_int) (ev_item 1 (ev_name 1) ev_int) (mulW hp.1 (den_lt hq))) (ev_mul (ev_item 0 (ev_name 1) ev_int) (ev_item 1 (ev_name 0) ev_int) (mulW hq.1 (den_lt hp)))) (by rw [decide_eq_decide.mpr (Rat.lt_iff p q)])
end
end DL

namespace DL
open PySem PySem.Spec PyProof.Rows L2 MA
/-! ### the forms of the laws, their numbers -/
def FSm (F : Fmt) : Prop := (F.p = 2 ∨ F.p = 3) ∧ (F.lo = -2 ∨ F.lo = -3) ∧ (F.hi = 1 ∨ F.hi = 2)
def FGr (F : Fmt) : Prop := 11 ≤ F.p ∧ F.p ≤ 24 ∧ F.lo = -120 ∧ F.hi = 120
def Form (F : Fmt) : Prop := FSm F ∨ FGr F
def Good (F : Fmt) (n : Num) : Prop := OfF F n ∧ n.fin = true ∧ (FGr F → ∃ s w e, n = .number s w e ∧ 2 ^ (F.p - 1) ≤ w ∧ -20 ≤ e ∧ e ≤ 20)
theorem Form.fok {F : Fmt} (h : Form F) : Fok F := by
  rcases h with ⟨h1, h2, h3⟩ | ⟨h1, h2, h3, h4⟩ <;> refine ⟨?_, ?_, ?_, ?_⟩ <;> omega
theorem FSm.notGr {F : Fmt} (h : FSm F) (g : FGr F) : False := by have := h.1; have := g.1; omega
theorem Good.nb {F : Fmt} (h : Form F) {n : Num} (g : Good F n) : Nb n := h.fok.nb g.1
theorem bitOr_nat (a b : Nat) : Builtin.bitOr (a : Int) (b : Int) = ((a ||| b : Nat) : Int) := by
  have e : ∀ n : Nat, Builtin.bitNot (n : Int) = -(n : Int) - 1 := fun n => by unfold Builtin.bitNot; omega
  have e2 : Builtin.bitNot (-(a : Int) - 1) = a ∧ Builtin.bitNot (-(b : Int) - 1) = b := by unfold Builtin.bitNot; omega
  have e3 : ∀ n : Nat, Builtin.bitNot (Builtin.bitNot (n : Int)) = (n : Int) := fun n => by unfold Builtin.bitNot; omega
  unfold Builtin.bitOr
  rw [e, e, bitAnd_nn (by omega) (by omega), e2.1, e2.2, e3, Int.toNat_natCast, Int.toNat_natCast]
theorem two_pow_nat (n : Nat) : ((2 : Int) ^ n) = ((2 ^ n : Nat) : Int) := by simp
theorem mask_nat (W p : Nat) : Builtin.bitAnd (W : Int) ((2 : Int) ^ p - 1) = ((W % 2 ^ p : Nat) : Int) := by
  have h : 0 < 2 ^ p := Nat.pow_pos (by decide)
  rw [two_pow_nat, show ((2 ^ p : Nat) : Int) - 1 = ((2 ^ p - 1 : Nat) : Int) by omega, bitAnd_pp (by omega) (by omega), Int.toNat_natCast, Int.toNat_natCast, Nat.and_two_pow_sub_one_eq_mod]
section
variable {P : Program} {w : World} {K : PySem.W.Frag} {mg : Str → Option Value} {base : Heap}
abbrev nx (m : Int) : PyData → Prop := fun d => ∃ i, d = .int i ∧ 0 ≤ i ∧ i < m
section
variable {X : Cx} {aw ad : Addr} {H0 : Hp} {ρ : List Sl} {e : Expr} {pos p pw : Pos} {xw : Str} {k : Nat}
theorem ev_next {m : Int} (C : Ok X.prog X.w X.K X.mg X.base k "_law_next" ["w", "many"] (spW X.K R_next)) (hr : Room k X.A) (i : Nat) (hm : 0 < m) (ha : EVd X (some (X.K, aw, ad)) H0 ρ e (.int m)) (hρ : ρ[i]? = some .wob := by rfl) (hN : X.N[i]? = some xw := by rfl) (hv : Vis X.env.scope xw := by first | exact Or.inl rfl | exact Or.inr (Or.inl rfl) | exact Or.inr (Or.inr rfl))
    (hg : Gl X "_law_next" := by rfl) (hd : (xw == ("__debug__" : Str)) = false := by decide) (hcd : (xw == ("__classdict__" : Str)) = false := by decide) (he0 : starEach [e] X.env = (false, eval e X.env) :: starEach [] X.env := by rfl)
    (he : starEach (.Name xw pw :: [e]) X.env = (false, eval (.Name xw pw) X.env) :: starEach [e] X.env := by rfl) (hpl : (backTo pos (starEach [e] X.env)).any (·.1) = false := by rfl) :
    EV X (some (X.K, aw, ad)) H0 ρ (.Call (.Name "_law_next" p) (.Name xw pw :: [e]) [] pos) (nx m) :=
  ev_callW C hr i (Φs := (· = [.int m])) (ea_consd ha ea_nil he0) (fun ds e => by rw [e]; exact .mk hm) hρ hN hv hg (by decide) hd hcd he hpl
end
def numsD (ns : List Num) : List PyData := ns.map Num.d
theorem numsD_snoc (ns : List Num) (n : Num) : numsD ns ++ [n.d] = numsD (ns ++ [n]) := by unfold numsD; rw [List.map_append]; rfl
theorem lfree_nums : ∀ ns : List Num, lfreeAll (numsD ns) = true
  | [] => rfl
  | n :: ns => by show (lfree n.d && lfreeAll (numsD ns)) = true; rw [lfree_num, lfree_nums ns]; rfl
def AllG (F : Fmt) (ns : List Num) : Prop := ∀ n ∈ ns, Good F n
theorem AllG.snoc {F : Fmt} {ns : List Num} {n : Num} (h : AllG F ns) (g : Good F n) : AllG F (ns ++ [n]) := fun x hx => by
  rcases List.mem_append.mp hx with h1 | h1
  · exact h x h1
  · rw [List.mem_singleton.mp h1]; exact g
/-- a row of numbers by a comprehension over a range -/
theorem ev_row {X : Cx} {o : WO} {H0 : Hp} {ρ : List Sl} {elt tg a b : Expr} {scope : Scope} {x : Str} {i : Nat} {pos pr p : Pos} {F : Fmt} {lo hi : Int} (nd : X.N.Nodup) (calm : X.calm = true) (ok : BlkOk X.N X.env.scope scope [(x, i)])
    (hg : ∀ (s : Shared) (H : Hp) (C : Addr) (cl : List (Str × Addr)) (fp : List Addr), PG (blkX X scope s H C cl fp) tg (gName i)) (hm : X.mg "range" = none) (ha : EAd X o H0 ρ [a, b] [.int lo, .int hi]) (hbd : 0 ≤ lo ∧ lo ≤ hi ∧ hi ≤ 8)
    (he : ∀ (s : Shared) (H : Hp) (C : Addr) (cl : List (Str × Addr)) (fp : List Addr) (H1 : Hp) (m : Int), lo ≤ m → m < hi → EV (blkX X scope s H C cl fp) o H1 (rhoC ρ i (.int m)) elt (fun d => ∃ n, d = n.d ∧ Good F n))
    (hgl : Gl X "range" := by rfl) (hs1 : starEach [a, b] X.env = [(false, eval a X.env), (false, eval b X.env)] := by rfl) (hs2 : starEach [b] X.env = [(false, eval b X.env)] := by rfl)
    (hs : ∀ x, foldedSetIterable (.Call (.Name "range" pr) [a, b] [] p) X.env x = pure x := by intro _; rfl) :
    EV X o H0 ρ (.ListComp elt [⟨tg, .Call (.Name "range" pr) [a, b] [] p, [], 0⟩] scope pos) (fun d => ∃ ns : List Num, d = .list (numsD ns) ∧ ns.length ≤ 8 ∧ AllG F ns) := by
  have lz := sizeLine_eq
  refine ev_imp (ev_lcR2 (Φ := fun _ d => ∃ n, d = n.d ∧ Good F n) (J := fun k es => ∃ ns : List Num, es = numsD ns ∧ ns.length ≤ k ∧ AllG F ns) (lcArgs0 nd calm ok hg fun s H C cl fp H1 n d hd => ?_) hm ha (by omega) (by rw [rgD_len]; omega) (fun n d hd => by obtain ⟨m, rfl, _⟩ := hd; exact lfree_num m) ⟨[], rfl, by simp, fun n hn => by simp at hn⟩ ?_ (fun n es d hd hJ h => by cases h) hgl hs1 hs2 hs) (fun d hd => ?_)
  · have hn : n < (hi - lo).toNat := by have := (List.getElem?_eq_some_iff.mp hd).1; rw [rgD_len] at this; exact this
    rw [rgD_get hn] at hd
    cases hd
    exact he s H C cl fp H1 (lo + n) (by omega) (by omega)
  · rintro n es e d hd ⟨ns, rfl, hl, hg⟩ _ ⟨m, rfl, gm⟩
    exact ⟨ns ++ [m], by rw [numsD_snoc], by simp; omega, hg.snoc gm⟩
  · obtain ⟨es, rfl, _, _, ns, rfl, hl, hg⟩ := hd
    exact ⟨ns, rfl, by rw [rgD_len] at hl; omega, hg⟩
end
end DL

namespace DL
open PySem PySem.Spec PyProof.Rows L2 MA
/-- the number with the sign below nought -/
def neg1 : Num → Num
  | .nothing _ => .nothing 1
  | .number _ w e => .number 1 w e
  | n => n
theorem good_neg1 {F : Fmt} {n : Num} (h : Good F n) (hs : FSm F) : Good F (neg1 n) := by
  obtain ⟨h1, h2, _⟩ := h
  cases n with
  | number s w e => exact ⟨⟨.inr rfl, h1.2⟩, rfl, fun g => (hs.notGr g).elim⟩
  | nothing s => exact ⟨.inr rfl, rfl, fun g => (hs.notGr g).elim⟩
  | endless s => cases h2
  | none => cases h2
def prD (p : Num × Num) : PyData := .tuple [p.1.d, p.2.d]
def prsD (ps : List (Num × Num)) : List PyData := ps.map prD
theorem prsD_snoc (ps : List (Num × Num)) (p : Num × Num) : prsD ps ++ [prD p] = prsD (ps ++ [p]) := by unfold prsD; rw [List.map_append]; rfl
theorem lfree_pr (p : Num × Num) : lfree (prD p) = true := by show (lfree p.1.d && (lfree p.2.d && true)) = true; rw [lfree_num, lfree_num]; rfl
theorem lfree_prs : ∀ ps : List (Num × Num), lfreeAll (prsD ps) = true
  | [] => rfl
  | p :: ps => by show (lfree (prD p) && lfreeAll (prsD ps)) = true; rw [lfree_pr, lfree_prs ps]; rfl
def AllP (F : Fmt) (ps : List (Num × Num)) : Prop := ∀ p ∈ ps, Good F p.1 ∧ Good F p.2
theorem AllP.app {F : Fmt} {ps qs : List (Num × Num)} (h : AllP F ps) (g : AllP F qs) : AllP F (ps ++ qs) := fun x hx => by
  rcases List.mem_append.mp hx with h1 | h1
  · exact h x h1
  · exact g x h1
theorem numsD_get {ns : List Num} {k : Nat} {d : PyData} (h : (numsD ns)[k]? = some d) : ∃ n, ns[k]? = some n ∧ d = n.d := by
  unfold numsD at h
  rw [List.getElem?_map] at h
  cases e : ns[k]? with
  | none => rw [e] at h; cases h
  | some q => rw [e] at h; exact ⟨q, rfl, (Option.some.inj h).symm⟩
theorem numsD_len (ns : List Num) : (numsD ns).length = ns.length := by unfold numsD; rw [List.length_map]
theorem prsD_len (ps : List (Num × Num)) : (prsD ps).length = ps.length := by unfold prsD; rw [List.length_map]
theorem prsD_get {ns : List (Num × Num)} {k : Nat} {d : PyData} (h : (prsD ns)[k]? = some d) : ∃ n, ns[k]? = some n ∧ d = prD n := by
  unfold prsD at h
  rw [List.getElem?_map] at h
  cases e : ns[k]? with
  | none => rw [e] at h; cases h
  | some q => rw [e] at h; exact ⟨q, rfl, (Option.some.inj h).symm⟩
def isD : Sl → Prop := fun s => s.firm = true
section
variable {P : Program} {w : World} {K : PySem.W.Frag} {mg : Str → Option Value} {base : Heap}
end
end DL

namespace DL
open PySem PySem.Spec PyProof.Rows L2 MA
theorem PE.exh {X : Cx} {e : Expr} {α : Type} {p : α → Prop} {t : α → TE} (h : ∀ a, p a → PE X e (t a)) : PE X e (fun σ H Q => ∃ a, p a ∧ t a σ H Q) := ⟨fun pins s σ H Q I ⟨a, q, r⟩ => (h a q).run pins s σ H Q I r⟩
theorem merge_w (ad : Addr) (n : Int) : mergeK [] (wKvs ad n) = wKvs ad n := by
  show putK (putK [] kDr (V.ref ad)) kAt (V.int n) = _
  have e1 : putK ([] : List (Key × V)) kDr (V.ref ad) = [(kDr, V.ref ad)] := rfl
  rw [e1]
  unfold putK
  rw [if_neg]
  · rfl
  · show ¬ ((decide (kDr = kAt) || false) = true)
    rw [decide_eq_false k_ne]; decide
theorem ints_of {K : PySem.W.Frag} {H : Hp} : ∀ {xs : List V} {ms : List Int}, DpAll K H xs (ms.map PyData.int) → xs = ms.map V.int
  | _, [], h => by cases h; rfl
  | _, m :: ms, h => by
    cases h with
    | cons h1 h2 => cases h1.int_inv; rw [ints_of h2]; rfl
theorem dp_ints {K : PySem.W.Frag} {H : Hp} : ∀ ns : List Int, DpAll K H (ns.map V.int) (ns.map PyData.int)
  | [] => .nil
  | n :: ns => .cons (.int n) (dp_ints ns)
theorem merge_w' (ad : Addr) (n : Int) : mergeK [] [(Sum.inr ("draws" : Str), V.ref ad), (Sum.inr ("at" : Str), V.int n)] = wKvs ad n := merge_w ad n
def spLaw (K : PySem.W.Frag) : Sp := fun vs H Q _ => ∃ (a : Addr) (ns : List Int), vs = [.ref a] ∧ SqL K H a (ns.map V.int) ∧ ns.length ≤ 63 ∧ ∀ H', Q (.bl true) H'
def Sl.ou : Sl → Bool
  | .old _ => true
  | .un => true
  | _ => false
theorem Slots.rebase {K : PySem.W.Frag} {o : WO} {H H1 : Hp} (s : Same H H1) : ∀ {ρ : List Sl} {σ : L2.St}, ρ.all Sl.ou = true → Slots K none H H ρ σ → Slots K o H1 H1 ρ σ
  | [], [], _, h => h
  | [], _ :: _, _, h => h.elim
  | _ :: _, [], _, h => h.elim
  | x :: ρ, q :: σ, l, h => by
    rw [List.all_cons, Bool.and_eq_true] at l
    refine ⟨?_, Slots.rebase s l.2 h.2⟩
    cases x with
    | un => trivial
    | old d => obtain ⟨v, e, hd⟩ := h.1; exact ⟨v, e, Gr.dp (o := none) s d v hd⟩
    | dat d => cases l.1
    | wob => cases l.1
    | mtl a ds => cases l.1
def tTop (K : PySem.W.Frag) (ρ : List Sl) : TS := fun D σ H => Slots K none H H ρ σ ∧ ∀ H', D.rt (.bl true) H'
/-- w = {"draws": .., "at": 0}, then the rest -/
theorem ps_mkw {X : Cx} {ρ : List Sl} {e1 : Expr} {xw : Str} {pw p1 p2 p3 pd pos : Pos} {j1 j2 j3 : Nat} {rest : List Stmt} (i : Nat) (hN : X.N.Nodup) (h1 : ∀ H0, EV X none H0 ρ e1 (fun d => ∃ ms : List Int, d = .list (ms.map .int) ∧ ∀ x ∈ ms, 0 ≤ x)) (hρ : ρ.all Sl.ou = true)
    (hrest : ∀ H1 aw ad, SVs X (some (X.K, aw, ad)) H1 (ρ.set i .wob) rest (fun _ => False) (· = .bool true)) (hi : X.N[i]? = some xw := by rfl) (hx : Loc X.env.scope xw := by first | exact Or.inl rfl | exact Or.inr rfl)
    (hs : swapsWith (.Dict [some (.Constant (.str "draws") j1 p1), some (.Constant (.str "at") j2 p2)] [e1, .Constant (.int 0) j3 p3] pd) (some (.Name xw pw)) pos.line X.env = pure false := by rfl) (hf : X.fn xw = true ∨ X.env.scope.names.lookup xw = some .local := by first | exact .inl rfl | exact .inr rfl) :
    PSs X (.Assign [.Name xw pw] (.Dict [some (.Constant (.str "draws") j1 p1), some (.Constant (.str "at") j2 p2)] [e1, .Constant (.int 0) j3 p3] pd) pos :: rest) (tTop X.K ρ) := by
  refine PSs.imp (pss_cons (ps_set hN hi hx (pe_disp (pps_cons pe_str (PE.exh (α := Hp) (p := fun _ => True) fun H0 _ => h1 H0) (pps_cons pe_str pe_int pps_nil)) rfl rfl (fun z => by cases z) (Nat.le_of_ble_eq_true rfl)) hs hf) (PSs.ex (α := Hp × Addr × Addr) (p := fun _ => True) fun q _ => hrest q.1 q.2.1 q.2.2)) ?_
  intro D σ H ⟨sl, hD⟩
  intro p hp
  have s0 : Same H (upd H p (.dK [])) := Same.upd_new hp
  refine ⟨upd H p (.dK []), trivial, Gr.refl _ _, Slots.rebase s0 hρ sl, fun v H2 d hd g2 dp => ?_⟩
  obtain ⟨ms, rfl, hms⟩ := hd
  obtain ⟨ad, xs, rfl, hsq, hdp⟩ := dp.lst_inv
  cases ints_of hdp
  refine ⟨g2 _ _ upd_same, wKvs ad 0, rfl, Nat.le_of_ble_eq_true rfl, ?_⟩
  rw [merge_w]
  have s2 : SqL X.K (upd H2 p (.dK (wKvs ad 0))) ad (ms.map V.int) := SqL.same (fun o e q => by
    rw [upd_ne]; exact e
    intro z; rw [z, g2 _ _ upd_same] at e; cases e; rcases q with ⟨_, q⟩ | ⟨_, _, q⟩ <;> cases q) hsq
  have wk : Wok X.K p ad (upd H2 p (.dK (wKvs ad 0))) := ⟨0, ms, Int.le_refl _, upd_same, s2, hms⟩
  have s3 : Same H (upd H2 p (.dK (wKvs ad 0))) := fun b o e => by
    have : b ≠ p := fun z => by rw [z, hp] at e; cases e
    rw [upd_ne this]; exact g2 _ _ (s0 _ _ e)
  refine ⟨(upd H2 p (.dK (wKvs ad 0)), p, ad), trivial, wk, Gr.refl _ _, (Slots.rebase s3 hρ sl).set (s := .wob) ⟨.ref p, rfl, rfl, wk⟩, fun _ _ _ z => z.elim, fun v H' d e g p => ?_⟩
  subst e
  cases p.bl_inv
  exact hD H'
section
variable {P : Program} {w : World} {K : PySem.W.Frag} {mg : Str → Option Value} {base : Heap}
/-- the law's def -/
theorem ok_law {N : List Str} {st : Stmt} {f : Addr} {fd : FuncData} {k : Nat} (F : FunD K "law" "law" (defArgs st) (defBody st) (defScope st) [] [] f fd) (S : FnScope N ["script"] (defScope st))
    (hb : ∀ (cdv : Value) (A : Around) (outer : List Env) (s : Shared) (H : Hp) (E : XK) (ns : List Int), ns.length ≤ 63 → Room k (A.deeper (envOfC "law" (defScope st) s.heap.objs.size f cdv)) →
      PSs (bX P w K mg base N "law" st f cdv A outer s H E) (defBody st) (tTop K (slots0 N.length [.list (ns.map .int)]))) : FnOk P w K mg base CX0 (k + 1) f fd ["script"] (spLaw K) := by
  refine F.ok S (fun vs H Q E h => by obtain ⟨a, ns, rfl, _⟩ := h; rfl) fun cdv A outer s H vs Q E hr hsp => ?_
  obtain ⟨a, ns, rfl, hsq, hl, hQ⟩ := hsp
  exact ⟨_, PSs.nox (hb cdv A outer s H E ns hl hr), slots_start (.cons (.lst hsq (dp_ints ns)) .nil), hQ⟩
/-- what a law asks of each pair -/
inductive R_holds (WS : Way → Prop) : List PyData → PyData → Prop
  | mk {F : Fmt} {v : Way} {a b : Num} (hF : Form F) (hv : WS v) (ha : Good F a) (hb : Good F b) : R_holds WS [F.d, .str v.s, a.d, b.d, fr a.val, fr b.val] (.bool true)
/-- the forms -/
def FmtI (a b c : PyData → Prop) : Prop := True
theorem form_sm {i j k : Int} (hi : 0 ≤ i ∧ i < 2) (hj : 0 ≤ j ∧ j < 2) (hk : 0 ≤ k ∧ k < 2) : ∃ F : Fmt, PyData.tuple [.int (2 + i), .int (-2 - j), .int (1 + k)] = F.d ∧ Form F :=
  ⟨⟨(2 + i).toNat, -2 - j, 1 + k⟩, by show _ = PyData.tuple [.int (((2 + i).toNat : Nat) : Int), _, _]; rw [Int.toNat_of_nonneg (by omega)], .inl ⟨by show (2 + i).toNat = 2 ∨ (2 + i).toNat = 3; omega, by show -2 - j = -2 ∨ -2 - j = -3; omega, by show 1 + k = 1 ∨ 1 + k = 2; omega⟩⟩
theorem form_gr {i : Int} (hi : 0 ≤ i ∧ i < 14) : ∃ F : Fmt, PyData.tuple [.int (11 + i), .int (-120), .int 120] = F.d ∧ Form F :=
  ⟨⟨(11 + i).toNat, -120, 120⟩, by show _ = PyData.tuple [.int (((11 + i).toNat : Nat) : Int), _, _]; rw [Int.toNat_of_nonneg (by omega)], .inr ⟨by show 11 ≤ (11 + i).toNat; omega, by show (11 + i).toNat ≤ 24; omega, rfl, rfl⟩⟩
/-- arithmetic of what is drawn -/
theorem ev_addN {X : Cx} {o : WO} {H0 : Hp} {ρ : List Sl} {a b : Expr} {pos : Pos} {i m : Int} (ha : EVd X o H0 ρ a (.int i)) (hb : EV X o H0 ρ b (nx m)) : EV X o H0 ρ (.BinOp a .Add b pos) (fun d => ∃ j, d = .int (i + j) ∧ 0 ≤ j ∧ j < m) :=
  ev_bin op_add ha hb fun x y hx hy => by obtain ⟨j, rfl, h⟩ := hy; subst hx; exact bin_rI0 ⟨j, rfl, h⟩
theorem ev_subN {X : Cx} {o : WO} {H0 : Hp} {ρ : List Sl} {a b : Expr} {pos : Pos} {i m : Int} (ha : EVd X o H0 ρ a (.int i)) (hb : EV X o H0 ρ b (nx m)) : EV X o H0 ρ (.BinOp a .Sub b pos) (fun d => ∃ j, d = .int (i - j) ∧ 0 ≤ j ∧ j < m) :=
  ev_bin op_sub ha hb fun x y hx hy => by obtain ⟨j, rfl, h⟩ := hy; subst hx; exact bin_rI0 ⟨j, rfl, h⟩
/-- over a tuple of several ends -/
theorem sv_forT' {X : Cx} {o : WO} {H0 : Hp} {ρ : List Sl} {iter tg : Expr} {pos : Pos} {rest body : List Stmt} {Nx : List Sl → Prop} {Rt : PyData → Prop} {ok : PyData → Prop} {st : List Sl → PyData → List Sl} {ΦL : List PyData → Prop} (hp : PassesOwn (model X.prog X.w) X.A X.env X.xe) (hc : X.calm = true) (h : EV X o H0 ρ iter (fun d => ∃ ds, d = .tuple ds ∧ ΦL ds)) (ht : Tgt X tg ok st) (hok : ∀ ds, ΦL ds → ∀ (n : Nat) d, ds[n]? = some d → ok d) (Inv : List PyData → Nat → List Sl → Prop) (h0 : ∀ ds, ΦL ds → Inv ds 0 (ρ.map Sl.young))
    (hb : ∀ ds, ΦL ds → ∀ H1 n d ρ', ds[n]? = some d → Inv ds n ρ' → SVs X o H1 (st ρ' d) body (Inv ds (n + 1)) Rt) (hk : ∀ ds, ΦL ds → ∀ ρ', Inv ds ds.length ρ' → SVs X o H0 (ρ'.map Sl.young) rest Nx Rt)
    (hs : ∀ x, foldedSetIterable iter X.env x = pure x := by intro _; rfl) : SVs X o H0 ρ (.For tg iter body [] pos :: rest) Nx Rt := by
  obtain ⟨g, hg, hrun⟩ := ht
  refine sv_seq (α := List PyData × List Sl) (q := fun q => ΦL q.1 ∧ Inv q.1 q.1.length q.2) (r := fun q => q.2.map Sl.young) (ps_for hp hc (pi_tup h) hg (tb := fbL X.K o st ΦL Inv Rt) (PSs.ex fun q hq => hb q.1 hq.1 q.2.1 q.2.2.1 q.2.2.2.1 q.2.2.2.2 hq.2.1 hq.2.2) hs) (fun q hq => hk q.1 hq.1 q.2 hq.2) ?_
  intro D σ H ⟨en, g0, sl, k1, k2⟩
  refine ⟨g0, sl, fun v H1 d hd g1 p1 => ?_⟩
  obtain ⟨ds, rfl, hΦ⟩ := hd
  obtain ⟨r, xs, rfl, hsq, hp1⟩ := p1.tup_inv
  have g01 := Gr.trans g0 g1
  refine ⟨r, rfl, ⟨xs, hsq⟩, for_tup (xs := xs) (g := g) (tb := fbL X.K o st ΦL Inv Rt) (D := { D with nx := fun σ' H' => ∃ a : List PyData × List Sl, (ΦL a.1 ∧ Inv a.1 a.1.length a.2) ∧ tS X.K o H0 (List.map Sl.young a.2) Nx Rt D σ' H' }) (fun n σ' H' => Gr o H1 H' ∧ ∃ ρ', Inv ds n ρ' ∧ Slots X.K o H1 H' ρ' σ') ⟨Gr.refl _ _, _, h0 ds hΦ, Slots.map (f := Sl.young) (fun q => SlOk.rise g01 q) (sl.mono g1)⟩ (fun n σ' H' _ q => q.1.tup hsq) ?_ ?_⟩
  · rintro n x σ' H' hx ⟨gH, ρ', inv, sl'⟩
    obtain ⟨d, hd, hpd⟩ := hp1.get' hx
    refine hrun o H1 x d ρ' σ' H' _ (hok ds hΦ n d hd) (gH.dp _ _ hpd) sl' fun σ2 sl2 => ?_
    exact ⟨(ds, H1, n, d, ρ'), ⟨hΦ, hd, inv⟩, en.mono g01, gH, sl2, fun σ3 H3 ρ3 inv3 g3 sl3 => ⟨g3, ρ3, inv3, sl3⟩, fun v3 H3 d3 hd3 g3 p3 => k2 v3 H3 d3 hd3 (Gr.trans g01 g3) p3⟩
  · rintro σ' H' ⟨gH, ρ', inv, sl'⟩
    rw [hp1.length] at inv
    exact ⟨(ds, ρ'), ⟨hΦ, inv⟩, en, Gr.trans g01 gH, Slots.map (f := Sl.young) (fun q => SlOk.fall gH (fun v q => en.wok q) q) sl', k1, k2⟩
end
end DL

namespace DL
open PySem PySem.Spec PyProof.Rows L2 MA
/-! ### equality of data by what it means -/
theorem eqv_fr (p q : Rat) : PyData.eqv (fr p) (fr q) = decide (p = q) := by
  show (p.num == q.num && ((p.den : Int) == (q.den : Int) && true)) = _
  rw [Bool.and_true]
  by_cases c : p = q
  · subst c; simp
  · rw [decide_eq_false c]
    by_cases h1 : p.num = q.num
    · have h2 : ¬ p.den = q.den := fun z => c (Rat.ext h1 z)
      have : ¬ (p.den : Int) = (q.den : Int) := by omega
      simp [h1, this]
    · simp [h1]
theorem shaped_fr (q : Rat) : SeqAt.shaped (fr q) = true := rfl
theorem eqv_marks (ms : List Mark) : PyData.eqv (msd ms) (.tuple []) = decide (ms = []) := by
  cases ms with
  | nil => rfl
  | cons m ms => rfl
theorem mark_ok (m : Mark) : PyData.canLay0 (.str m.s) = true := by cases m <;> decide +kernel
theorem marks_ok : ∀ ms : List Mark, PyData.canLayAll0 (ms.map fun m => PyData.str m.s) = true ∧ PyData.depthAll (ms.map fun m => PyData.str m.s) = 0
  | [] => ⟨rfl, rfl⟩
  | m :: ms => by
    obtain ⟨h1, h2⟩ := marks_ok ms
    refine ⟨?_, ?_⟩
    · show (PyData.canLay0 (.str m.s) && PyData.canLayAll0 (ms.map fun m => PyData.str m.s)) = true
      rw [mark_ok, h1]; rfl
    · show max 0 (PyData.depthAll (ms.map fun m => PyData.str m.s)) = 0
      rw [h2]; rfl
theorem shaped_marks (ms : List Mark) : SeqAt.shaped (msd ms) = true := by
  obtain ⟨h1, h2⟩ := marks_ok ms
  show (PyData.canLayAll0 (ms.map fun m => PyData.str m.s) && decide (PyData.depthAll (ms.map fun m => PyData.str m.s) + 1 ≤ 64)) = true
  rw [h1, h2]; rfl
theorem shaped_nil : SeqAt.shaped (.tuple []) = true := rfl
theorem mark_inj : ∀ m m' : Mark, decide (m.s = m'.s) = decide (m = m') := by
  intro m m'; cases m <;> cases m' <;> decide +kernel
theorem over_in (ms : List Mark) : decide (("overflow" : Str) ∈ ms.map Mark.s) = decide (Mark.overflow ∈ ms) := by
  rw [decide_eq_decide, List.mem_map]
  constructor
  · rintro ⟨m, hm, e⟩
    have : m = .overflow := of_decide_eq_true ((mark_inj m .overflow).symm.trans (decide_eq_true e))
    rw [← this]; exact hm
  · intro h; exact ⟨_, h, rfl⟩
theorem msd_map (ms : List Mark) : (ms.map fun m => PyData.str m.s) = (ms.map Mark.s).map PyData.str := by rw [List.map_map]; rfl
section
variable {X : Cx} {o : WO} {H0 : Hp} {ρ : List Sl} {a b : Expr} {pos : Pos}
theorem ev_eqFr {k : Nat} (hr : Room k X.A) {p q : Rat} (ha : EVd X o H0 ρ a (fr p)) (hb : EVd X o H0 ρ b (fr q)) : EVd X o H0 ρ (.Compare a [.Eq] [b] pos) (.bool (decide (p = q))) := ev_eqD hr ha hb (shaped_fr p) (shaped_fr q) (eqv_fr p q)
theorem tv_eqFr {k : Nat} (hr : Room k X.A) {p q : Rat} (ha : EVd X o H0 ρ a (fr p)) (hb : EVd X o H0 ρ b (fr q)) : TVd X o H0 ρ (.Compare a [.Eq] [b] pos) (decide (p = q)) := tv_eqD hr ha hb (shaped_fr p) (shaped_fr q) (eqv_fr p q)
theorem tv_neFr {k : Nat} (hr : Room k X.A) {p q : Rat} (ha : EVd X o H0 ρ a (fr p)) (hb : EVd X o H0 ρ b (fr q)) : TVd X o H0 ρ (.Compare a [.NotEq] [b] pos) (!decide (p = q)) := tv_neD hr ha hb (shaped_fr p) (shaped_fr q) (eqv_fr p q)
theorem ev_eqMs {k : Nat} (hr : Room k X.A) {ms : List Mark} (ha : EVd X o H0 ρ a (msd ms)) (hb : EVd X o H0 ρ b (.tuple [])) : EVd X o H0 ρ (.Compare a [.Eq] [b] pos) (.bool (decide (ms = []))) := ev_eqD hr ha hb (shaped_marks ms) shaped_nil (eqv_marks ms)
theorem tv_neMs {k : Nat} (hr : Room k X.A) {ms : List Mark} (ha : EVd X o H0 ρ a (msd ms)) (hb : EVd X o H0 ρ b (.tuple [])) : TVd X o H0 ρ (.Compare a [.NotEq] [b] pos) (!decide (ms = [])) := tv_neD hr ha hb (shaped_marks ms) shaped_nil (eqv_marks ms)
theorem tv_eqMs {k : Nat} (hr : Room k X.A) {ms : List Mark} (ha : EVd X o H0 ρ a (msd ms)) (hb : EVd X o H0 ρ b (.tuple [])) : TVd X o H0 ρ (.Compare a [.Eq] [b] pos) (decide (ms = [])) := tv_eqD hr ha hb (shaped_marks ms) shaped_nil (eqv_marks ms)
theorem tv_over {ms : List Mark} (ha : EVd X o H0 ρ a (.str "overflow")) (hb : EVd X o H0 ρ b (msd ms)) (hm : behindInMarks .In b = false := by rfl) : TVd X o H0 ρ (.Compare a [.In] [b] pos) (decide (Mark.overflow ∈ ms)) :=
  tv_eq (tv_inS (xs := ms.map Mark.s) ha hb (msd_map ms) hm) (over_in ms)
theorem tv_notOver {ms : List Mark} (ha : EVd X o H0 ρ a (.str "overflow")) (hb : EVd X o H0 ρ b (msd ms)) (hm : behindInMarks .NotIn b = false := by rfl) : TVd X o H0 ρ (.Compare a [.NotIn] [b] pos) (!decide (Mark.overflow ∈ ms)) :=
  tv_eq (tv_notInS (xs := ms.map Mark.s) ha hb (msd_map ms) hm) (by rw [over_in])
theorem fr2_1 : PyData.tuple [.int 2, .int 1] = fr 2 := rfl
theorem bd2 {n : Nat} (h : 2 ≤ n) : Bd n 2 := ⟨Nat.lt_of_lt_of_le (by decide) (Nat.pow_le_pow_right (by decide) h), Nat.lt_of_lt_of_le (by decide) (Nat.pow_le_pow_right (by decide) h)⟩
end
theorem Form.p1 {F : Fmt} (h : Form F) : 1 ≤ F.p := by rcases h with h | h; have := h.1; omega; have := h.1; omega
theorem Form.hl {F : Fmt} (h : Form F) : F.lo ≤ F.hi := by rcases h with ⟨_, h, h'⟩ | ⟨_, _, h, h'⟩ <;> omega
theorem Form.nbr {F : Fmt} (h : Form F) {v : Way} {q : Rat} {s : Int} (hs : s = 0 ∨ s = 1) : Nb (rnd F v q s).1 := h.fok.nb (ofF_rnd h.hl h.p1 hs)
theorem sg01 {F : Fmt} {n : Num} (h : OfF F n) : n.sg = 0 ∨ n.sg = 1 := by
  cases n with
  | number s w e => exact h.1
  | nothing s => exact h
  | endless s => exact h
  | none => exact .inl rfl
theorem signN01 {v : Way} {a b : Int} (ha : a = 0 ∨ a = 1) : signN v a b = 0 ∨ signN v a b = 1 := by unfold signN; split; exact ha; split <;> simp
theorem ofF_plus {F : Fmt} (h : Form F) {v : Way} {a b : Num} (oa : OfF F a) (ob : OfF F b) : OfF F (plusM F v a b).1 := by
  unfold plusM
  split
  · trivial
  · split
    · split
      · split
        · exact oa
        · trivial
      · show OfF F (if a.inf = true then a else b)
        split <;> assumption
    · exact ofF_rnd h.hl h.p1 (signN01 (sg01 oa))
theorem ofF_minus {F : Fmt} (h : Form F) {v : Way} {a b : Num} (oa : OfF F a) (ob : OfF F b) : OfF F (minusM F v a b).1 := ofF_plus h oa (turned_ofF ob)
theorem mod2_01 {a b : Int} : (a + b) % 2 = 0 ∨ (a + b) % 2 = 1 := by omega
theorem ofF_product {F : Fmt} (h : Form F) {v : Way} {a b : Num} : OfF F (productM F v a b).1 := by
  unfold productM
  split
  · trivial
  · split
    · split
      · trivial
      · exact mod2_01
    · exact ofF_rnd h.hl h.p1 mod2_01
theorem ofF_over {F : Fmt} (h : Form F) {v : Way} {a b : Num} : OfF F (overM F v a b).1 := by
  unfold overM
  split
  · trivial
  · split
    · trivial
    · split
      · exact mod2_01
      · split
        · exact mod2_01
        · split
          · exact mod2_01
          · exact ofF_rnd h.hl h.p1 mod2_01
theorem fin_of_tag (n : Num) : decide (n.tag ∈ (["number", "nothing"] : List Str)) = n.fin := by
  cases n with
  | number s w e => exact (by decide +kernel : decide (("number" : Str) ∈ (["number", "nothing"] : List Str)) = true)
  | nothing s => exact (by decide +kernel : decide (("nothing" : Str) ∈ (["number", "nothing"] : List Str)) = true)
  | endless s => exact (by decide +kernel : decide (("endless" : Str) ∈ (["number", "nothing"] : List Str)) = false)
  | none => exact (by decide +kernel : decide (("none" : Str) ∈ (["number", "nothing"] : List Str)) = false)
end DL

namespace DL
open PySem PySem.Spec PyProof.Rows L2 MA
section
variable {P : Program} {w : World} {K : PySem.W.Frag} {mg : Str → Option Value} {base : Heap}
inductive R_is_finite : List PyData → PyData → Prop
  | mk {n : Num} : R_is_finite [n.d] (.bool n.fin)
theorem ok_is_finite (h : Has K mg "is_finite" s_is_finite) : Ok P w K mg base 1 "is_finite" ["number"] (spF K R_is_finite) := by
  refine okF h sc_is_finite (fun _ _ _ _ _ _ us hl => match us, hl with | [_], _ => rfl) (fun ds d h => by cases h; rfl) fun f cdv A outer st H E hr ds d h => ?_
  obtain @⟨n⟩ := h
  exact sv_retd (ev_inS (xs := ["number", "nothing"]) (ev_item 0 (ev_eq (ev_name 0) (Num.d0 n)) ev_int) (ev_tupd (ea_consd ev_str (ea_consd ev_str ea_nil)))) (by rw [fin_of_tag])
theorem nothing_in (a b : Num) : decide (("nothing" : Str) ∈ ([a.tag, b.tag] : List Str)) = (a.zero || b.zero) := by
  have e1 := tag_nothing a
  have e2 := tag_nothing b
  rw [← e1, ← e2, ← Bool.decide_or, decide_eq_decide]
  simp only [List.mem_cons, List.not_mem_nil, or_false]
  constructor
  · rintro (h | h); exact .inl h.symm; exact .inr h.symm
  · rintro (h | h); exact .inl h.symm; exact .inr h.symm
theorem tag_same (a b : Num) : (decide (a.tag = b.tag) && decide (a.tag ∈ (["endless", "nothing"] : List Str))) = ((a.inf && b.inf) || (a.zero && b.zero)) := by
  have i1 : decide (a.tag ∈ (["endless", "nothing"] : List Str)) = (a.inf || a.zero) := by
    rw [← tag_endless a, ← tag_nothing a, ← Bool.decide_or, decide_eq_decide]
    simp only [List.mem_cons, List.not_mem_nil, or_false]
  rw [i1]
  cases a with
  | endless s =>
    have : decide ((Num.endless s).tag = b.tag) = b.inf := by rw [← tag_endless b, decide_eq_decide]; exact ⟨Eq.symm, Eq.symm⟩
    rw [this]; simp [Num.inf, Num.zero]
  | nothing s =>
    have : decide ((Num.nothing s).tag = b.tag) = b.zero := by rw [← tag_nothing b, decide_eq_decide]; exact ⟨Eq.symm, Eq.symm⟩
    rw [this]; simp [Num.inf, Num.zero]
  | none => simp [Num.inf, Num.zero]
  | number s w p => simp [Num.inf, Num.zero]
end
end DL

namespace DL
open PySem PySem.Spec PyProof.Rows L2 MA
theorem eqv_int1 {x y : Str} {a b : Int} : PyData.eqv (.tuple [.str x, .int a]) (.tuple [.str y, .int b]) = (decide (x = y) && decide (a = b)) := by
  show ((x == y) && ((a == b) && true)) = _
  rw [Bool.and_true, Bool.beq_eq_decide_eq, Bool.beq_eq_decide_eq]
theorem eqv_endless (n : Num) (k : Int) : PyData.eqv n.d (.tuple [.str "endless", .int k]) = decide (n = .endless k) := by
  cases n with
  | none => simp [Num.d, PyData.eqv, PyData.eqvAll]
  | nothing s => rw [show (Num.nothing s).d = .tuple [.str "nothing", .int s] from rfl, eqv_int1, st_ne]; simp
  | endless s => rw [show (Num.endless s).d = .tuple [.str "endless", .int s] from rfl, eqv_int1, st_ee]; simp
  | number s w p => simp [Num.d, PyData.eqv, PyData.eqvAll]
theorem shaped_endless (k : Int) : SeqAt.shaped (.tuple [.str "endless", .int k]) = true := shaped_num (.endless k)
theorem shaped_three (a b c : Num) : SeqAt.shaped (.tuple [a.d, b.d, c.d]) = true := by
  have h (n : Num) : PyData.canLay0 n.d = true ∧ PyData.depth n.d = 1 := by
    constructor
    · exact SeqAt.canLay_of_shaped (shaped_num n)
    · cases n <;> rfl
  show (PyData.canLayAll0 [a.d, b.d, c.d] && decide (PyData.depthAll [a.d, b.d, c.d] + 1 ≤ 64)) = true
  have e1 : PyData.canLayAll0 [a.d, b.d, c.d] = true := by
    show (PyData.canLay0 a.d && (PyData.canLay0 b.d && (PyData.canLay0 c.d && true))) = true
    rw [(h a).1, (h b).1, (h c).1]; rfl
  have e2 : PyData.depthAll [a.d, b.d, c.d] = 1 := by
    show max (PyData.depth a.d) (max (PyData.depth b.d) (max (PyData.depth c.d) 0)) = 1
    rw [(h a).2, (h b).2, (h c).2]; rfl
  rw [e1, e2]; rfl
section
variable {P : Program} {w : World} {K : PySem.W.Frag} {mg : Str → Option Value} {base : Heap}
theorem gns4 {X : Cx} {x y z t : Str} {p q r s : Pos} {i j k l : Nat} (hx : X.N[i]? = some x := by rfl) (hy : X.N[j]? = some y := by rfl) (hz : X.N[k]? = some z := by rfl) (ht : X.N[l]? = some t := by rfl) (lx : Loc X.env.scope x := by first | exact Or.inl rfl | exact Or.inr rfl) (ly : Loc X.env.scope y := by first | exact Or.inl rfl | exact Or.inr rfl) (lz : Loc X.env.scope z := by first | exact Or.inl rfl | exact Or.inr rfl) (lt : Loc X.env.scope t := by first | exact Or.inl rfl | exact Or.inr rfl)
    (fx : X.fn x = true ∨ X.env.scope.names.lookup x = some .local := by first | exact .inl rfl | exact .inr rfl) (fy : X.fn y = true ∨ X.env.scope.names.lookup y = some .local := by first | exact .inl rfl | exact .inr rfl) (fz : X.fn z = true ∨ X.env.scope.names.lookup z = some .local := by first | exact .inl rfl | exact .inr rfl) (ft : X.fn t = true ∨ X.env.scope.names.lookup t = some .local := by first | exact .inl rfl | exact .inr rfl)
    (h1 : (assignEach [Expr.Name x p, .Name y q, .Name z r, .Name t s] X.env).map (·.2) = assign (.Name x p) X.env :: (assignEach [Expr.Name y q, .Name z r, .Name t s] X.env).map (·.2) := by rfl) (h2 : (assignEach [Expr.Name y q, .Name z r, .Name t s] X.env).map (·.2) = assign (.Name y q) X.env :: (assignEach [Expr.Name z r, .Name t s] X.env).map (·.2) := by rfl) (h3 : (assignEach [Expr.Name z r, .Name t s] X.env).map (·.2) = assign (.Name z r) X.env :: (assignEach [Expr.Name t s] X.env).map (·.2) := by rfl) (h4 : (assignEach [Expr.Name t s] X.env).map (·.2) = assign (.Name t s) X.env :: (assignEach [] X.env).map (·.2) := by rfl) : GNs X [.Name x p, .Name y q, .Name z r, .Name t s] [i, j, k, l] :=
  ⟨⟨x, p, rfl, hx, lx, fx⟩, ⟨⟨y, q, rfl, hy, ly, fy⟩, ⟨⟨z, r, rfl, hz, lz, fz⟩, ⟨⟨t, s, rfl, ht, lt, ft⟩, trivial, h4⟩, h3⟩, h2⟩, h1⟩
inductive R_stepped_up : List PyData → PyData → Prop
  | mk {F : Fmt} {s w p : Int} (hF : Fok F) : R_stepped_up [F.d, (Num.number s w p).d] (stepUp F s w p).d
theorem ok_stepped_up (h : Has K mg "stepped_up" s_stepped_up) : Ok P w K mg base 1 "stepped_up" ["form", "number"] (spF K R_stepped_up) := by
  refine okF h sc_stepped_up (fun _ _ _ _ _ _ us hl => match us, hl with | [_, _], _ => rfl) (fun ds d h => by cases h; rfl) fun f cdv A outer st H E hr ds d h => ?_
  obtain @⟨F, s, w, p, hF⟩ := h
  have hp := hF.pm
  have hp2 := hF.p2
  refine sv_unpd [2, 3, 4, 5] rfl sc_stepped_up.nd (ev_name 1) rfl ?_ gns4
  refine sv_ifr (tv_lt (ev_add (ev_name 4) ev_int) (shl1 ev_int (ev_item 0 (ev_name 0) ev_int) rfl (by omega))) (fun h1 => ?_) (fun h1 => ?_)
  · exact sv_retd (ev_tupd (ea_consd ev_str (ea_consd (ev_name 3) (ea_consd (ev_add (ev_name 4) ev_int) (ea_consd (ev_name 5) ea_nil))))) (by rw [stepUp, if_pos (of_decide_eq_true h1)]; rfl)
  refine sv_retd (ev_ifd (tv_lt (ev_name 5) (ev_item 2 (ev_name 0) ev_int)) (fun h2 => (ev_tupd (ea_consd ev_str (ea_consd (ev_name 3) (ea_consd (shl1 ev_int (ev_sub (ev_item 0 (ev_name 0) ev_int) ev_int) (show (F.p : Int) - 1 = ((F.p - 1 : Nat) : Int) by omega) (by omega)) (ea_consd (ev_add (ev_name 5) ev_int) ea_nil)))))) (fun h2 => (ev_tupd (ea_consd ev_str (ea_consd (ev_name 3) ea_nil))))) ?_
  rw [stepUp, if_neg (of_decide_eq_false h1)]
  by_cases c : p < F.hi
  · rw [if_pos c, decide_eq_true c]; rfl
  · rw [if_neg c, decide_eq_false c]; rfl
inductive R_stepped_down : List PyData → PyData → Prop
  | mk {F : Fmt} {s w p : Int} (hF : Fok F) : R_stepped_down [F.d, (Num.number s w p).d] (stepDown F s w p).d
theorem ok_stepped_down (h : Has K mg "stepped_down" s_stepped_down) : Ok P w K mg base 1 "stepped_down" ["form", "number"] (spF K R_stepped_down) := by
  refine okF h sc_stepped_down (fun _ _ _ _ _ _ us hl => match us, hl with | [_, _], _ => rfl) (fun ds d h => by cases h; rfl) fun f cdv A outer st H E hr ds d h => ?_
  obtain @⟨F, s, w, p, hF⟩ := h
  have hp := hF.pm
  have hp2 := hF.p2
  refine sv_unpd [2, 3, 4, 5] rfl sc_stepped_down.nd (ev_name 1) rfl ?_ gns4
  refine sv_ifr (tv_eqI (ev_name 4) ev_int) (fun h1 => ?_) (fun h1 => ?_)
  · exact sv_retd (ev_tupd (ea_consd ev_str (ea_consd (ev_name 3) ea_nil))) (by rw [stepDown, if_pos (of_decide_eq_true h1)]; rfl)
  refine sv_ifr (tv_w (wv_or (tv_gt (ev_name 4) (shl1 ev_int (ev_sub (ev_item 0 (ev_name 0) ev_int) ev_int) (show (F.p : Int) - 1 = ((F.p - 1 : Nat) : Int) by omega) (by omega))) (fun h3 => (wv_or1 (tv_eqI (ev_name 5) (ev_item 1 (ev_name 0) ev_int)))))) (fun h2 => ?_) (fun h2 => ?_)
  · exact sv_retd (ev_tupd (ea_consd ev_str (ea_consd (ev_name 3) (ea_consd (ev_sub (ev_name 4) ev_int) (ea_consd (ev_name 5) ea_nil))))) (by rw [stepDown, if_neg (of_decide_eq_false h1), if_pos (by simpa using h2)]; rfl)
  exact sv_retd (ev_tupd (ea_consd ev_str (ea_consd (ev_name 3) (ea_consd (ev_sub (shl1 ev_int (ev_item 0 (ev_name 0) ev_int) rfl (by omega)) ev_int) (ea_consd (ev_sub (ev_name 5) ev_int) ea_nil))))) (by rw [stepDown, if_neg (of_decide_eq_false h1), if_neg (by simpa using h2)]; rfl)
inductive R_next_up : List PyData → PyData → Prop
  | mk {F : Fmt} {a : Num} (hF : Fok F) (ha : Nb a) : R_next_up [F.d, a.d] (nextUp F a).d
theorem ok_next_up (h : Has K mg "next_up" s_next_up) (c_stepped_up : Ok P w K mg base 1 "stepped_up" ["form", "number"] (spF K R_stepped_up)) (c_stepped_down : Ok P w K mg base 1 "stepped_down" ["form", "number"] (spF K R_stepped_down)) (c_greatest_of : Ok P w K mg base 1 "greatest_of" ["form"] (spF K R_greatest_of)) : Ok P w K mg base 2 "next_up" ["form", "number"] (spF K R_next_up) := by
  refine okF h sc_next_up (fun _ _ _ _ _ _ us hl => match us, hl with | [_, _], _ => rfl) (fun ds d h => by cases h; rfl) fun f cdv A outer st H E hr ds d h => ?_
  obtain @⟨F, a, hF, ha⟩ := h
  have hp := hF.pm
  refine sv_ifr (tv_w (wv_or (tv_eq (tv_eqS (ev_item 0 (ev_eq (ev_name 1) (Num.d0 a)) ev_int) ev_str) (tag_none a)) (fun h2 => (wv_or1 (tv_eqD hr (ev_name 1) (ev_tupd (ea_consd ev_str (ea_consd ev_int ea_nil))) (shaped_num a) (shaped_endless 0) (eqv_endless a 0)))))) (fun h1 => ?_) (fun h1 => ?_)
  · refine sv_retd (ev_name 1) ?_
    rcases (by simpa using h1 : a = .none ∨ a = .endless 0) with c | c <;> subst c <;> rfl
  have h1' : ¬ (a = .none ∨ a = .endless 0) := by simpa using h1
  have ha0 : a ≠ .none := fun z => h1' (.inl z)
  refine sv_ifr (tv_eqD hr (ev_name 1) (ev_tupd (ea_consd ev_str (ea_consd ev_int ea_nil))) (shaped_num a) (shaped_endless 1) (eqv_endless a 1)) (fun h3 => ?_) (fun h3 => ?_)
  · have h3' := of_decide_eq_true h3
    subst h3'
    exact sv_retd (ev_catT (ev_catT (ev_sl (ev_calld c_greatest_of (hr.mono (by decide)) (ea_consd (ev_name 0) ea_nil) (.mk (by omega))) po_no (po_so ev_int)) (ev_tupd (ea_consd ev_int ea_nil))) (ev_sl (ev_calld c_greatest_of (hr.mono (by decide)) (ea_consd (ev_name 0) ea_nil) (.mk (by omega))) (po_so ev_int) po_no)) rfl
  have h3' := of_decide_eq_false h3
  refine sv_ifr (tv_eq (tv_eqS (ev_item 0 (ev_eq (ev_name 1) (Num.d0 a)) ev_int) ev_str) (tag_nothing a)) (fun h4 => ?_) (fun h4 => ?_)
  · refine sv_retd (ev_tupd (ea_consd ev_str (ea_consd ev_int (ea_consd ev_int (ea_consd (ev_item 1 (ev_name 0) ev_int) ea_nil))))) ?_
    cases a with
    | nothing s => rfl
    | _ => cases h4
  obtain ⟨s, w, p, rfl⟩ : ∃ s w p, a = .number s w p := by
    cases a with
    | none => exact absurd rfl ha0
    | nothing s => cases h4
    | endless s => exfalso; rcases ha with c | c; exact h1' (.inr (by rw [c])); exact h3' (by rw [c])
    | number s w p => exact ⟨s, w, p, rfl⟩
  refine sv_retd (ev_ifd (tv_eqI (ev_item 1 (ev_name 1) ev_int) ev_int) (fun h5 => (ev_calld c_stepped_up (hr.mono (by decide)) (ea_consd (ev_name 0) (ea_consd (ev_name 1) ea_nil)) (.mk hF))) (fun h5 => (ev_calld c_stepped_down (hr.mono (by decide)) (ea_consd (ev_name 0) (ea_consd (ev_name 1) ea_nil)) (.mk hF)))) ?_
  show _ = (if s = 0 then stepUp F s w p else stepDown F s w p).d
  by_cases c : s = 0
  · rw [if_pos c, decide_eq_true c]; rfl
  · rw [if_neg c, decide_eq_false c]; rfl
end
end DL

namespace DL
open PySem PySem.Spec PyProof.Rows L2 MA
/-! helpers for the walks of `_law_holds` -/
def _root_.MA.Num.wh : Num → Int
  | .number _ w _ => w
  | _ => 0
theorem Num.d3 {n : Num} (h : n.fin = true) (z : n.zero = false) : n.d = .tuple [.str "number", .int n.sg, .int n.wh, .int n.ex] := by
  cases n with
  | number s w e => rfl
  | nothing s => cases z
  | endless s => cases h
  | none => cases h
theorem nb_turned {F : Fmt} (hF : Fok F) {n : Num} (h : OfF F n) : Nb n.turned := hF.nb (turned_ofF h)
theorem zero_of_val {n : Num} (h : n.val ≠ 0) : n.zero = false := eq_false_of_ne_true fun z => h (zero_val z)
theorem val_ne {F : Fmt} {n : Num} (o : OfF F n) (f : n.fin = true) (z : n.zero = false) : n.val ≠ 0 := by
  obtain ⟨s, w, e, rfl⟩ := fin_num f z
  exact num_ne_zero o.2.2.1.1
theorem ife {c : Bool} {A B : Num} : (if c = true then PyData.tuple [A.d, B.d] else PyData.tuple [B.d, A.d]) = PyData.tuple [(if c = true then A else B).d, (if c = true then B else A).d] := by cases c <;> rfl
theorem shaped_rs (r : Num × List Mark) : SeqAt.shaped (rsd r) = true := by
  have h (n : Num) : PyData.canLay0 n.d = true ∧ PyData.depth n.d = 1 := by
    constructor
    · exact SeqAt.canLay_of_shaped (shaped_num n)
    · cases n <;> rfl
  obtain ⟨h1, h2⟩ := marks_ok r.2
  show (PyData.canLayAll0 [r.1.d, msd r.2] && decide (PyData.depthAll [r.1.d, msd r.2] + 1 ≤ 64)) = true
  have e1 : PyData.canLayAll0 [r.1.d, msd r.2] = true := by
    show (PyData.canLay0 r.1.d && (PyData.canLayAll0 (r.2.map fun m => PyData.str m.s) && true)) = true
    rw [(h r.1).1, h1]; rfl
  have e2 : PyData.depthAll [r.1.d, msd r.2] = 1 := by
    show max (PyData.depth r.1.d) (max (PyData.depthAll (r.2.map fun m => PyData.str m.s) + 1) 0) = 1
    rw [(h r.1).2, h2]; rfl
  rw [e1, e2]; rfl
theorem eqv_rs (r r' : Num × List Mark) (h : r = r') : PyData.eqv (rsd r) (rsd r') = true := by
  subst h
  exact PySem.SeqAt.eqv_refl _ (SeqAt.canLay_of_shaped (shaped_rs r))
/-- numbers out of a list, by a test -/
theorem numsD_cons (n : Num) (ns : List Num) : numsD (n :: ns) = n.d :: numsD ns := rfl
theorem ev_keep {X : Cx} {o : WO} {H0 : Hp} {ρ : List Sl} {elt tg iter c : Expr} {scope : Scope} {x : Str} {i : Nat} {pos : Pos} {p : Num → Bool} {ns : List Num} (nd : X.N.Nodup) (calm : X.calm = true) (ok : BlkOk X.N X.env.scope scope [(x, i)])
    (hg : ∀ (s : Shared) (H : Hp) (C : Addr) (cl : List (Str × Addr)) (fp : List Addr), PG (blkX X scope s H C cl fp) tg (gName i)) (hi : EVd X o H0 ρ iter (.list (numsD ns))) (hl : ns.length ≤ 100)
    (ht : ∀ (s : Shared) (H : Hp) (C : Addr) (cl : List (Str × Addr)) (fp : List Addr) (H1 : Hp) (n : Num), n ∈ ns → TVd (blkX X scope s H C cl fp) o H1 (rhoC ρ i n.d) c (p n))
    (he : ∀ (s : Shared) (H : Hp) (C : Addr) (cl : List (Str × Addr)) (fp : List Addr) (H1 : Hp) (n : Num), EVd (blkX X scope s H C cl fp) o H1 (rhoC ρ i n.d) elt n.d)
    (hs : ∀ x, foldedSetIterable iter X.env x = pure x := by intro _; rfl) : EVd X o H0 ρ (.ListComp elt [⟨tg, iter, [c], 0⟩] scope pos) (.list (numsD (ns.filter p))) := by
  have lz := sizeLine_eq
  refine ev_imp (ev_lcL (ds := numsD ns) (Φ := fun k d => ∃ n, ns[k]? = some n ∧ d = n.d) (t := fun k b => ∃ n, ns[k]? = some n ∧ b = p n) (J := fun k es => es = numsD ((ns.take k).filter p))
    (lcArgs1 nd calm ok hg (fun s H C cl fp H1 k d hd => ?_) (fun s H C cl fp H1 k d hd _ => ?_)) hi (by rw [numsD_len]; omega) (fun k d hd => by obtain ⟨n, _, rfl⟩ := hd; exact lfree_num n) rfl ?_ ?_ hs) (fun d hd => ?_)
  · obtain ⟨n, hn, rfl⟩ := numsD_get hd
    exact tv_imp (ht s H C cl fp H1 n (List.mem_of_getElem? hn)) (fun b e => ⟨n, hn, e⟩)
  · obtain ⟨n, hn, rfl⟩ := numsD_get hd
    exact ev_imp (he s H C cl fp H1 n) (fun d e => ⟨n, hn, e⟩)
  · rintro k es e d hd hJ ⟨n, hn, e1⟩ ⟨m, hm, rfl⟩
    have : n = m := by rw [hn] at hm; exact Option.some.inj hm
    subst this
    rw [hJ, List.take_succ, hn, List.filter_append]
    show _ = numsD (_ ++ List.filter p [n])
    rw [List.filter_cons, if_pos e1.symm, List.filter_nil, numsD_snoc]
  · rintro k es d hd hJ ⟨n, hn, e1⟩
    rw [hJ, List.take_succ, hn, List.filter_append]
    show _ = numsD (_ ++ List.filter p [n])
    rw [List.filter_cons, if_neg (by rw [← e1]; decide), List.filter_nil, List.append_nil]
  · obtain ⟨es, rfl, _, _, rfl⟩ := hd
    rw [numsD_len, List.take_length]
/-- a list by a comprehension over a row of numbers -/
theorem ev_mapT {X : Cx} {o : WO} {H0 : Hp} {ρ : List Sl} {elt tg iter : Expr} {scope : Scope} {x : Str} {i : Nat} {pos : Pos} {g : Num → Num} {ns : List Num} (nd : X.N.Nodup) (calm : X.calm = true) (ok : BlkOk X.N X.env.scope scope [(x, i)])
    (hg : ∀ (s : Shared) (H : Hp) (C : Addr) (cl : List (Str × Addr)) (fp : List Addr), PG (blkX X scope s H C cl fp) tg (gName i)) (hi : EVd X o H0 ρ iter (.tuple (numsD ns))) (hl : ns.length ≤ 100)
    (he : ∀ (s : Shared) (H : Hp) (C : Addr) (cl : List (Str × Addr)) (fp : List Addr) (H1 : Hp) (n : Num), n ∈ ns → EVd (blkX X scope s H C cl fp) o H1 (rhoC ρ i n.d) elt (g n).d)
    (hs : ∀ x, foldedSetIterable iter X.env x = pure x := by intro _; rfl) : EVd X o H0 ρ (.ListComp elt [⟨tg, iter, [], 0⟩] scope pos) (.list (numsD (ns.map g))) := by
  have lz := sizeLine_eq
  refine ev_imp (ev_lcT (ds := numsD ns) (Φ := fun k d => ∃ n, ns[k]? = some n ∧ d = (g n).d) (J := fun k es => es = numsD ((ns.take k).map g))
    (lcArgs0 nd calm ok hg (fun s H C cl fp H1 k d hd => ?_)) hi (by rw [numsD_len]; omega) (fun k d hd => by obtain ⟨n, _, rfl⟩ := hd; exact lfree_num _) rfl ?_ (fun n es d hd hJ h => by cases h) hs) (fun d hd => ?_)
  · obtain ⟨n, hn, rfl⟩ := numsD_get hd
    exact ev_imp (he s H C cl fp H1 n (List.mem_of_getElem? hn)) (fun d e => ⟨n, hn, e⟩)
  · rintro k es e d hd hJ _ ⟨m, hm, rfl⟩
    rw [hJ, List.take_succ, hm, List.map_append]
    show _ = numsD (_ ++ [g m])
    rw [numsD_snoc]
  · obtain ⟨es, rfl, _, _, rfl⟩ := hd
    rw [numsD_len, List.take_length]
/-- x = [.. for .. in ..] on one line -/
theorem sv_setLcT {X : Cx} {o : WO} {H0 : Hp} {ρ : List Sl} {elt tg iter : Expr} {ifs : List Expr} {scope : Scope} {x y : Str} {i : Nat} {pos spos py : Pos} {rest : List Stmt} {Nx : List Sl → Prop} {Rt : PyData → Prop} (iy : Nat) {ds : List PyData} {Φ : Nat → PyData → Prop} {t : Nat → Bool → Prop} {J : Nat → List PyData → Prop} (A : LcArgs X o ρ i x tg elt ifs scope ds Φ t) (hi : EVd X o H0 ρ iter (.tuple ds)) (hl : ds.length ≤ sizeLine) (hf : ∀ n d, Φ n d → lfree d = true) (j0 : J 0 [])
    (hyes : ∀ n es e d, ds[n]? = some d → J n es → t n true → Φ n e → J (n + 1) (es ++ [e])) (hno : ∀ n es d, ds[n]? = some d → J n es → t n false → J (n + 1) es) (hk : ∀ d, (∃ es, d = .list es ∧ es.length ≤ ds.length ∧ lfreeAll es = true ∧ J ds.length es) → SVs X o H0 (ρ.set iy (.dat d)) rest Nx Rt)
    (hy : X.N[iy]? = some y := by rfl) (hyl : X.env.scope.names.lookup y = some .local := by rfl) (hk0 : X.env.scope.kind = .function := by rfl) (hline : (py.line == pos.line) = true := by rfl) (ha : (scope.names.any fun (n, k) => n == y && (k == .local || k == .cell)) = false := by rfl)
    (hs : ∀ x, foldedSetIterable iter X.env x = pure x := by intro _; rfl) :
    SVs X o H0 ρ (.Assign [.Name y py] (.ListComp elt [⟨tg, iter, ifs, 0⟩] scope pos) spos :: rest) Nx Rt :=
  sv_seq (PS.imp (t' := tAsg (tD X.K o H0 ρ (fun d => ∃ es, d = .list es ∧ es.length ≤ ds.length ∧ lfreeAll es = true ∧ J ds.length es)) (gName iy)) (ps_setLc A.calm A.nd hy hyl (sw_true hk0 hyl hline ha) (pi_tup hi) A.ok A.hg A.ht A.pe hs) fun D σ H ⟨g, sl, k⟩ => ⟨g, sl, fun v H1 d hd g1 p1 => by
    subst hd
    obtain ⟨r, xs, rfl, hsq, hp⟩ := p1.tup_inv
    refine ⟨r, rfl, ⟨xs, hsq⟩, lc_read hl hf j0 hyes hno (Gr.trans g g1) (sl.mono g1) g1 k fun D Pv Qd p0 hG hs' hd' => lc_tup (K := X.K) (a := r) (xs := xs) Pv p0 (fun n H _ q => (hG n H q).tup hsq) (fun n v H hv q => ?_) (fun H q => hd' H (by rw [← hp.length]; exact q))⟩
    obtain ⟨d, hd, hpd⟩ := hp.get' hv
    exact hs' n v d H hd ((hG n H q).dp _ _ hpd) q⟩) hk fun D σ H ⟨en, g, sl, k1, k2⟩ => ⟨g, sl, fun v H1 d hd g1 p1 => ⟨d, hd, en, Gr.trans g g1, (sl.mono g1).set ⟨v, rfl, p1⟩, k1, k2⟩⟩
theorem sv_mapT {X : Cx} {o : WO} {H0 : Hp} {ρ : List Sl} {elt tg iter : Expr} {scope : Scope} {x y : Str} {i : Nat} {pos spos py : Pos} {rest : List Stmt} {Nx : List Sl → Prop} {Rt : PyData → Prop} (iy : Nat) {g : Num → Num} {ns : List Num} (nd : X.N.Nodup) (calm : X.calm = true) (ok : BlkOk X.N X.env.scope scope [(x, i)])
    (hg : ∀ (s : Shared) (H : Hp) (C : Addr) (cl : List (Str × Addr)) (fp : List Addr), PG (blkX X scope s H C cl fp) tg (gName i)) (hi : EVd X o H0 ρ iter (.tuple (numsD ns))) (hl : ns.length ≤ 100)
    (he : ∀ (s : Shared) (H : Hp) (C : Addr) (cl : List (Str × Addr)) (fp : List Addr) (H1 : Hp) (n : Num), n ∈ ns → EVd (blkX X scope s H C cl fp) o H1 (rhoC ρ i n.d) elt (g n).d)
    (hk : SVs X o H0 (ρ.set iy (.dat (.list (numsD (ns.map g))))) rest Nx Rt)
    (hy : X.N[iy]? = some y := by rfl) (hyl : X.env.scope.names.lookup y = some .local := by rfl) (hk0 : X.env.scope.kind = .function := by rfl) (hline : (py.line == pos.line) = true := by rfl) (ha : (scope.names.any fun (n, k) => n == y && (k == .local || k == .cell)) = false := by rfl)
    (hs : ∀ x, foldedSetIterable iter X.env x = pure x := by intro _; rfl) : SVs X o H0 ρ (.Assign [.Name y py] (.ListComp elt [⟨tg, iter, [], 0⟩] scope pos) spos :: rest) Nx Rt := by
  have lz := sizeLine_eq
  refine sv_setLcT iy (ds := numsD ns) (Φ := fun k d => ∃ n, ns[k]? = some n ∧ d = (g n).d) (J := fun k es => es = numsD ((ns.take k).map g))
    (lcArgs0 nd calm ok hg (fun s H C cl fp H1 k d hd => ?_)) hi (by rw [numsD_len]; omega) (fun k d hd => by obtain ⟨n, _, rfl⟩ := hd; exact lfree_num _) rfl ?_ (fun n es d hd hJ h => by cases h) (fun d hd => ?_) hy hyl hk0 hline ha hs
  · obtain ⟨n, hn, rfl⟩ := numsD_get hd
    exact ev_imp (he s H C cl fp H1 n (List.mem_of_getElem? hn)) (fun d e => ⟨n, hn, e⟩)
  · rintro k es e d hd hJ _ ⟨m, hm, rfl⟩
    rw [hJ, List.take_succ, hm, List.map_append]
    show _ = numsD (_ ++ [g m])
    rw [numsD_snoc]
  · obtain ⟨es, rfl, _, _, rfl⟩ := hd
    rw [numsD_len, List.take_length]
    exact hk
theorem shaped_nums : ∀ ns : List Num, SeqAt.shaped (.list (numsD ns)) = true := by
  intro ns
  have h (n : Num) : PyData.canLay0 n.d = true ∧ PyData.depth n.d = 1 := by
    constructor
    · exact SeqAt.canLay_of_shaped (shaped_num n)
    · cases n <;> rfl
  have h1 : PyData.canLayAll0 (numsD ns) = true := by
    induction ns with
    | nil => rfl
    | cons n ns ih =>
      show (PyData.canLay0 n.d && PyData.canLayAll0 (numsD ns)) = true
      rw [(h n).1, ih]; rfl
  have h2 : PyData.depthAll (numsD ns) ≤ 1 := by
    induction ns with
    | nil => exact Nat.zero_le _
    | cons n ns ih =>
      show max (PyData.depth n.d) (PyData.depthAll (numsD ns)) ≤ 1
      have := (h n).2
      have := ih (by unfold numsD at h1 ⊢; simp [PyData.canLayAll0] at h1 ⊢; exact h1.2)
      omega
  show (PyData.canLayAll0 (numsD ns) && decide (PyData.depthAll (numsD ns) + 1 ≤ 64)) = true
  rw [h1, decide_eq_true (by omega)]; rfl
theorem eqv_nums_nil (ns : List Num) : PyData.eqv (.list (numsD ns)) (.list []) = decide (ns = []) := by cases ns <;> rfl
theorem nb_ex {n : Num} (h : Nb n) : n.ex.natAbs < 2 ^ 8 := by
  cases n with
  | number s w p => have := h.2.2; show p.natAbs < 256; omega
  | _ => exact (by decide : (0 : Int).natAbs < 2 ^ 8)
end DL

namespace DL
open PySem PySem.Spec PyProof.Rows L2 MA
/-! a display of words, and what it has for one -/
def kUp : Key := .inr "up"
def kDown : Key := .inr "down"
theorem up_ne_down : ¬ kUp = kDown := by decide +kernel
abbrev bkKvs : List (Key × V) := [(kUp, .str "down"), (kDown, .str "up")]
theorem bk_merge : mergeK [] bkKvs = bkKvs := by
  show putK (putK [] kUp (.str "down")) kDown (.str "up") = _
  have e1 : putK ([] : List (Key × V)) kUp (.str "down") = [(kUp, .str "down")] := rfl
  rw [e1]
  unfold putK
  rw [if_neg]
  · rfl
  · rw [valV_any, valV_neg (p := (kUp, V.str "down")) up_ne_down]; decide
def backS (x : Str) : Str := if x = "up" then "down" else if x = "down" then "up" else x
theorem bk_val (x : Str) : (valV bkKvs (.inr x)).getD (.str x) = .str (backS x) := by
  unfold backS
  by_cases c : x = "up"
  · subst c; rw [if_pos rfl, valV_pos (p := (kUp, V.str "down")) (k := .inr "up") rfl]; rfl
  · rw [if_neg c, valV_neg (p := (kUp, V.str "down")) (fun z => c (by have := Sum.inr.inj z; exact this.symm))]
    by_cases c' : x = "down"
    · subst c'; rw [if_pos rfl, valV_pos (p := (kDown, V.str "up")) (k := .inr "down") rfl]; rfl
    · rw [if_neg c', valV_neg (p := (kDown, V.str "up")) (fun z => c' (by have := Sum.inr.inj z; exact this.symm))]; rfl
theorem ev_back {X : Cx} {H0 : Hp} {ρ : List Sl} {e e' : Expr} {j1 j2 j3 j4 : Nat} {p1 p2 p3 p4 dp apos cpos : Pos} {x : Str} (hu : X.A.units + 1 < cLine) (h1 : EVd X none H0 ρ e (.str x)) (h2 : EVd X none H0 ρ e' (.str x))
    (m : M2 X (.Dict [some (.Constant (.str "up") j1 p1), some (.Constant (.str "down") j2 p2)] [.Constant (.str "down") j3 p3, .Constant (.str "up") j4 p4] dp) "get" apos e e' cpos := by exact ⟨rfl, rfl, rfl, rfl⟩) :
    EVd X none H0 ρ (.Call (.Attribute (.Dict [some (.Constant (.str "up") j1 p1), some (.Constant (.str "down") j2 p2)] [.Constant (.str "down") j3 p3, .Constant (.str "up") j4 p4] dp) "get" apos) [e, e'] [] cpos) (.str (backS x)) := by
  refine PE.imp (pe_dget2 hu (pe_disp (pps_cons pe_str pe_str (pps_cons pe_str pe_str pps_nil)) rfl rfl (by simp) (Nat.le_of_ble_eq_true rfl)) h1 h2 m) fun σ H Q ⟨g, sl, k⟩ => ?_
  intro p hp
  have g1 : Gr none H (upd (upd H p (.dK [])) p (.dK (mergeK [] bkKvs))) := by
    rw [show upd (upd H p (.dK [])) p (.dK (mergeK [] bkKvs)) = upd H p (.dK (mergeK [] bkKvs)) by funext q; unfold upd; split <;> rfl]
    exact Same.upd_new hp
  refine ⟨upd_same, bkKvs, rfl, by decide, p, rfl, .inl ⟨_, .inl upd_same⟩, Gr.trans g g1, sl.mono g1, fun v H2 d hd g2 q2 => ?_⟩
  subst hd
  cases q2.str_inv
  refine ⟨Gr.trans (Gr.trans g g1) g2, (sl.mono g1).mono g2, fun v' H3 d' hd' g3 q3 => ?_⟩
  subst hd'
  cases q3.str_inv
  have e3 : H3 p = some (.dK bkKvs) := by rw [← bk_merge]; exact g3 _ _ (g2 _ _ upd_same)
  refine ⟨_, DGet.k (k := .inr x) e3, ?_⟩
  rw [bk_val]
  exact k _ H3 _ rfl (Gr.trans (Gr.trans g1 g2) g3) (.str _)
end DL
namespace DL
open PySem PySem.Spec PyProof.Rows L2 MA
theorem back_way (v : Way) : backS v.s = v.flip.s := by cases v <;> decide +kernel
end DL

namespace DL
open PySem PySem.Spec PyProof.Rows L2 MA
section
variable {P : Program} {w : World} {K : PySem.W.Frag} {mg : Str → Option Value} {base : Heap}
/-- by six: told, and what is lost -/
def sixT (F : Fmt) (a b : Num) : Num := (plusM F .even a b).1
def sixM (F : Fmt) (a b : Num) : Num := (minusM F .even (sixT F a b) a).1
def sixL (F : Fmt) (a b : Num) : Num := (minusM F .even (sixT F a b) (sixM F a b)).1
def sixX (F : Fmt) (a b : Num) : Num := (minusM F .even a (sixL F a b)).1
def sixY (F : Fmt) (a b : Num) : Num := (minusM F .even b (sixM F a b)).1
def sixR (F : Fmt) (a b : Num) : Num := (plusM F .even (sixX F a b) (sixY F a b)).1
theorem six_ofF {F : Fmt} (hF : Form F) {a b : Num} (oa : OfF F a) (ob : OfF F b) : OfF F (sixT F a b) ∧ OfF F (sixM F a b) ∧ OfF F (sixL F a b) ∧ OfF F (sixX F a b) ∧ OfF F (sixY F a b) ∧ OfF F (sixR F a b) := by
  have h1 : OfF F (sixT F a b) := ofF_plus hF oa ob
  have h2 : OfF F (sixM F a b) := ofF_minus hF h1 oa
  have h3 : OfF F (sixL F a b) := ofF_minus hF h1 h2
  have h4 : OfF F (sixX F a b) := ofF_minus hF oa h3
  have h5 : OfF F (sixY F a b) := ofF_minus hF ob h2
  exact ⟨h1, h2, h3, h4, h5, ofF_plus hF h4 h5⟩
end
end DL

namespace DL
open PySem PySem.Spec PyProof.Rows L2 MA
section
variable {X : Cx} {o : WO} {H0 : Hp} {ρ : List Sl} {e a b iter : Expr} {es : List Expr} {pos p : Pos} {Φ Φa Φb : PyData → Prop} {x y : Str} {sts rest body : List Stmt} {Nx : List Sl → Prop} {Rt : PyData → Prop} {Ψ : Bool → Prop}
/-! the heap as it stands becomes the base -/
theorem sv_base {Nx' : List Sl → Prop} (h : ∀ H1, SVs X o H1 (ρ.map Sl.age) sts Nx' Rt) (hn : ∀ ρ', Nx' ρ' → Nx (ρ'.map Sl.young)) : SVs X o H0 ρ sts Nx Rt :=
  PSs.imp (PSs.ex (α := Hp) (p := fun _ => True) (t := fun H1 => tS X.K o H1 (ρ.map Sl.age) Nx' Rt) (fun H1 _ => h H1)) fun D σ H ⟨en, g, sl, k1, k2⟩ =>
    ⟨H, trivial, en.mono g, Gr.refl _ _, Slots.map (f := Sl.age) (fun q => SlOk.age g q) sl, fun σ' H' ρ' hn' g' sl' => k1 σ' H' (ρ'.map Sl.young) (hn ρ' hn') (Gr.trans g g') (Slots.map (f := Sl.young) (fun q => SlOk.fall g' (fun v q => en.wok q) q) sl'), fun v H' d hd g' p => k2 v H' d hd (Gr.trans g g') p⟩
/-- a, b = e, [] -/
theorem sv_parM (i j : Nat) {px py pt pl : Pos} {kt k2 pt2} {d : PyData} (hc : X.calm = true) (hN : X.N.Nodup) (ha : EVd X o H0 ρ a d) (hk : ∀ l, SVs X o H0 ((ρ.set i (.dat d)).set j (.mtl l [])) rest Nx Rt)
    (hi : X.N[i]? = some x := by rfl) (hj : X.N[j]? = some y := by rfl) (hij : i ≠ j := by decide)
    (hx : X.env.scope.names.lookup x = some .local := by rfl) (hy : X.env.scope.names.lookup y = some .local := by rfl)
    (hw : swappedStores [.Tuple [.Name x px, .Name y py] kt pt] (.Tuple [a, .List [] pl] k2 pt2) X.env = pure (some [x, y]) := by rfl)
    (hs : swapsWithSole [.Tuple [.Name x px, .Name y py] kt pt] (.Tuple [a, .List [] pl] k2 pt2) pos.line X.env = pure false := by rfl)
    (hs1 : starEach [a, .List [] pl] X.env = (false, eval a X.env) :: starEach [.List [] pl] X.env := by rfl) (hs2 : starEach [.List [] pl] X.env = (false, eval (.List [] pl) X.env) :: starEach [] X.env := by rfl) :
    SVs X o H0 ρ (.Assign [.Tuple [.Name x px, .Name y py] kt pt] (.Tuple [a, .List [] pl] k2 pt2) pos :: rest) Nx Rt :=
  sv_seq (ps_par hc hN hi hj hij hx hy (pa_cons ha (pa_cons (pe_lst pa_nil) pa_nil hs2) hs1) hw hs) (fun (l : Addr) (_ : True) => hk l) fun D σ H ⟨en, g, sl, k1, k2⟩ => ⟨g, sl, fun v H1 d' hd g1 p1 => by
    subst hd
    refine ⟨Nat.zero_le _, fun q hq => ?_⟩
    have gq : Gr o H1 (upd H1 q (.lst [])) := Gr.same (Same.upd_new hq)
    exact ⟨v, .ref q, rfl, q, trivial, en, Gr.trans g (Gr.trans g1 gq), ((sl.mono (Gr.trans g1 gq)).set (s := .dat d') ⟨v, rfl, gq.dp _ _ p1⟩).set (s := .mtl q []) ⟨rfl, (Gr.trans g g1).free hq, [], upd_same, .nil⟩, k1, k2⟩⟩
/-! lists backwards, the last one -/
theorem ev_revL {ds : List PyData} {k : Nat} {p1 p2 p3 : Pos} (ha : EVd X o H0 ρ a (.list ds)) : EVd X o H0 ρ (.Subscript a (.Slice none none (some (.UnaryOp .USub (.Constant (.int 1) k p1) p2)) p3) pos) (.list ds.reverse) :=
  PE.imp (pe_revL ha) fun σ H Q ⟨g, sl, k⟩ => ⟨g, sl, fun v H1 d hd g1 p1 => by
    subst hd
    obtain ⟨r, xs, rfl, hs, hp⟩ := p1.lst_inv
    exact ⟨r, xs, rfl, hs, fun q hq => k _ _ _ rfl (Gr.trans g1 (Gr.same (Same.upd_new hq))) (.lst (SqL.of upd_same) (Gr.dpAll (o := none) (Same.upd_new hq) _ _ hp.reverse))⟩⟩
theorem ev_lastL {ds : List PyData} {d : PyData} (ha : EVd X o H0 ρ a (.list (ds ++ [d]))) (hb : EVd X o H0 ρ b (.int (-1))) (hs : PlainIx b := by exact fun _ _ => rfl) : EVd X o H0 ρ (.Subscript a b pos) d :=
  ev_ix ix_list hs ha hb fun x y hx hy => by
    subst hx hy
    intro v u H Q hv hu k
    obtain ⟨p, xs, rfl, hs, hp⟩ := hv.lst_inv
    cases hu.int_inv
    obtain ⟨v, h1, h2⟩ := hp.get (i := ds.length) (d := d) (by simp)
    have hl : xs.length = ds.length + 1 := by rw [hp.length]; simp
    have e : atI xs (-1) = some v := by
      have e2 : xs = xs.take ds.length ++ [v] := by
        have h3 := List.take_append_drop ds.length xs
        have h4 : xs.drop ds.length = [v] := by
          have h5 : ds.length < xs.length := by omega
          rw [List.drop_eq_getElem_cons h5, List.drop_of_length_le (by omega)]
          rw [List.getElem?_eq_getElem h5] at h1
          rw [Option.some.inj h1]
        rw [h4] at h3; exact h3.symm
      rw [e2]; exact atI_last _ _
    exact ⟨p, xs, -1, v, rfl, rfl, hs, e, k v H d rfl (Same.refl H) h2⟩
/-- f(w, ..), the promise by the arguments -/
theorem ev_callW2 {aw ad : Addr} {R : List PyData → (PyData → Prop) → Prop} {Φs : List PyData → Prop} {ps : List Str} {k : Nat} (C : Ok X.prog X.w X.K X.mg X.base k x ps (spW X.K R)) (hr : Room k X.A) (i : Nat) {xw : Str} {pw : Pos}
    (ha : EA X (some (X.K, aw, ad)) H0 ρ es Φs) (h : ∀ ds, Φs ds → ∃ Φ', R ds Φ' ∧ ∀ d, Φ' d → Φ d) (hρ : ρ[i]? = some .wob := by rfl) (hN : X.N[i]? = some xw := by rfl) (hv : Vis X.env.scope xw := by first | exact Or.inl rfl | exact Or.inr (Or.inl rfl) | exact Or.inr (Or.inr rfl))
    (hg : Gl X x := by rfl) (hdb : (x == ("__debug__" : Str)) = false := by decide) (hd : (xw == ("__debug__" : Str)) = false := by decide) (hcd : (xw == ("__classdict__" : Str)) = false := by decide) (he : starEach (.Name xw pw :: es) X.env = (false, eval (.Name xw pw) X.env) :: starEach es X.env := by rfl) (hpl : (backTo pos (starEach es X.env)).any (·.1) = false := by rfl) :
    EV X (some (X.K, aw, ad)) H0 ρ (.Call (.Name x p) (.Name xw pw :: es) [] pos) Φ := by
  obtain ⟨f, fd, hm, kp, bd, F⟩ := C
  exact PE.imp (pe_call F hr hg hm kp bd .nil pass0 (pa_cons (pv i hN hv hd hcd) ha he) hdb he hpl) fun σ H Q ⟨g, sl, q⟩ => by
    obtain ⟨_, h1, v, rfl, h2⟩ := sl.get hρ
    obtain ⟨rfl, wk⟩ := h2
    refine ⟨_, h1, g, sl, fun vs H1 ds hds g1 p1 => ?_⟩
    obtain ⟨Φ', hR, hΦ⟩ := h ds hds
    exact ⟨aw, ad, vs, ds, Φ', by rw [List.append_nil], (Gr.trans g g1).2 wk, p1, hR, fun v H' d hd g2 dp => q v H' d (hΦ d hd) (Gr.trans g1 g2) dp⟩
end
theorem lfree_get : ∀ {es : List PyData} {k : Nat} {d : PyData}, lfreeAll es = true → es[k]? = some d → lfree d = true
  | [], _, _, _, h => by simp at h
  | e :: es, 0, d, h, hk => by
    have q := Bool.and_eq_true_iff.mp (show (lfree e && lfreeAll es) = true from h)
    simp at hk; rw [← hk]; exact q.1
  | e :: es, k + 1, d, h, hk => lfree_get (k := k) (Bool.and_eq_true_iff.mp (show (lfree e && lfreeAll es) = true from h)).2 (by simpa using hk)
/-! the base without one list -/
def cutB (H : Hp) (a : Addr) : Hp := fun x => if x = a then none else H x
theorem cutB_ne {H : Hp} {a x : Addr} (h : x ≠ a) : cutB H a x = H x := if_neg h
theorem cutB_same {H : Hp} {a : Addr} : cutB H a a = none := if_pos rfl
theorem Gr.uncut {o : WO} {H : Hp} {a : Addr} : Gr o (cutB H a) H := Gr.same fun b u hb => by
  unfold cutB at hb
  split at hb
  · cases hb
  · exact hb
theorem SqL.cut {K : PySem.W.Frag} {H : Hp} {a b : Addr} {zs : List V} (hne : b ≠ a) (h : SqL K H b zs) : SqL K (cutB H a) b zs := SqL.same (fun o e _ => by rw [cutB_ne hne]; exact e) h
theorem Wok.cut {K : PySem.W.Frag} {aw ad a : Addr} {H0 H : Hp} (h0 : H0 a = none) (g : Wok K aw ad H0 → Wok K aw ad H) (h : Wok K aw ad H0) : Wok K aw ad (cutB H a) := by
  obtain ⟨n, ns, m0, m1, m2, m3⟩ := g h
  obtain ⟨n', ns', e0, e1, e2, e3⟩ := h
  have ne {b : Addr} {u : HO} (hb : H0 b = some u) : b ≠ a := fun e => by rw [e, h0] at hb; cases hb
  have q1 : cutB H a aw = some (.dK [(.inr "draws", .ref ad), (.inr "at", .int n)]) := by rw [cutB_ne (ne e1)]; exact m1
  rcases e2 with (e2 | ⟨q, e2⟩) | e2
  · exact ⟨n, ns, m0, q1, SqL.cut (ne e2) m2, m3⟩
  · exact ⟨n, ns, m0, q1, SqL.cut (ne e2) m2, m3⟩
  · exact ⟨n, ns', m0, q1, .inr e2, e3⟩
theorem Gr.cut {o : WO} {H0 H : Hp} {a : Addr} (h0 : H0 a = none) (g : Gr o H0 H) : Gr o H0 (cutB H a) := by
  have ne {b : Addr} {u : HO} (hb : H0 b = some u) : b ≠ a := fun e => by rw [e, h0] at hb; cases hb
  cases o with
  | none => exact fun b u hb => by rw [cutB_ne (ne hb)]; exact g b u hb
  | some p =>
    refine ⟨⟨fun b u hb s => by rw [cutB_ne (ne hb)]; exact g.1.1 b u hb s, fun b hb => ?_⟩, fun h => Wok.cut h0 g.2 h⟩
    by_cases e : b = a
    · rw [e]; exact h0
    · rw [cutB_ne e] at hb; exact g.1.2 b hb
theorem SqT.cut {K : PySem.W.Frag} {H : Hp} {a : Addr} {xs : List V} (ha : H a = some (.lst xs)) {b : Addr} {zs : List V} (h : SqT K H b zs) : SqT K (cutB H a) b zs := by
  rcases h with (h | ⟨o, h⟩) | h
  · exact .inl (.inl (by rw [cutB_ne (ne_of h ha (fun e => by cases e))]; exact h))
  · exact .inl (.inr ⟨o, by rw [cutB_ne (ne_of h ha (fun e => by cases e))]; exact h⟩)
  · exact .inr h
section
variable {K : PySem.W.Frag} {H : Hp} {a : Addr} {xs : List V}
mutual
theorem Dp.cut (ha : H a = some (.lst xs)) : ∀ (d : PyData) (v : V), lfree d = true → Dp K H v d → Dp K (cutB H a) v d
  | .none, _, _, h => by cases h; exact .non
  | .bool b, _, _, h => by cases h; exact .bl _
  | .int i, _, _, h => by cases h; exact .int _
  | .str x, _, _, h => by cases h; exact .str _
  | .list ds, _, l, h => by cases l
  | .tuple ds, _, l, h => by
    cases h with
    | tup hs h2 => exact .tup (SqT.cut ha hs) (DpAll.cut ha ds _ l h2)
  | .dict _, _, _, h => by cases h
theorem DpAll.cut (ha : H a = some (.lst xs)) : ∀ (ds : List PyData) (vs : List V), lfreeAll ds = true → DpAll K H vs ds → DpAll K (cutB H a) vs ds
  | [], _, _, h => by cases h; exact .nil
  | d :: ds, _, l, h => by
    cases h with
    | cons h1 h2 =>
      have l' := Bool.and_eq_true_iff.mp (show (lfree d && lfreeAll ds) = true from l)
      exact .cons (Dp.cut ha d _ l'.1 h1) (DpAll.cut ha ds _ l'.2 h2)
end
end
/-- no list is being made but at a -/
def Sl.soleM (a : Addr) : Sl → Prop
  | .mtl b _ => b = a
  | _ => True
def allM (a : Addr) : List Sl → Prop
  | [] => True
  | s :: ρ => s.soleM a ∧ allM a ρ
theorem Slots.cut {K : PySem.W.Frag} {o : WO} {H0 H : Hp} {a : Addr} (h0 : H0 a = none) (g : Gr o H0 H) : ∀ {ρ : List Sl} {σ : L2.St}, allM a ρ → Slots K o H0 H ρ σ → Slots K o (cutB H a) H ρ σ
  | [], [], _, h => h
  | s :: ρ, q :: σ, m, h => by
    refine ⟨?_, Slots.cut h0 g m.2 h.2⟩
    have h1 := h.1
    cases s with
    | un => trivial
    | dat d => exact h1
    | old d => obtain ⟨v, e, hd⟩ := h1; exact ⟨v, e, (Gr.cut h0 g).dp _ _ hd⟩
    | wob => obtain ⟨v, e, hd⟩ := h1; exact ⟨v, e, hd.mono (Gr.cut h0 g)⟩
    | mtl b ds =>
      obtain ⟨e, hb, vs, hl, hp⟩ := h1
      have eb : b = a := m.1
      subst eb
      exact ⟨e, cutB_same, vs, hl, hp⟩
  | [], _ :: _, _, h => h.elim
  | _ :: _, [], _, h => h.elim
/-- a slot's data, free of the base; what is being made stays so -/
def Sl.soft : Sl → Sl
  | .old d => .dat d
  | s => s
theorem SlOk.soft {K : PySem.W.Frag} {o : WO} {H0 H1 H : Hp} (g0 : Gr o H0 H1) (g1 : Gr o H1 H) (gw : ∀ v, WokO o v H1 → WokO o v H0) : ∀ {s : Sl} {q : Option V}, SlOk K o H1 H s q → SlOk K o H0 H s.soft q
  | .un, _, _ => trivial
  | .dat d, _, h => h
  | .old d, _, ⟨v, e, h⟩ => ⟨v, e, g1.dp d v h⟩
  | .wob, _, ⟨v, e, h⟩ => ⟨v, e, gw v h⟩
  | .mtl a ds, _, ⟨e, h0, vs, h, ha⟩ => ⟨e, g0.free h0, vs, h, ha⟩
section
variable {X : Cx} {o : WO} {H0 : Hp} {ρ : List Sl} {e a b iter : Expr} {es : List Expr} {pos p : Pos} {Φ Φa Φb : PyData → Prop} {x y : Str} {sts rest body : List Stmt} {Nx : List Sl → Prop} {Rt : PyData → Prop} {Ψ : Bool → Prop}
/-- a list that is made here, of which nobody has heard -/
def tN (K : PySem.W.Frag) (o : WO) (H0 : Hp) (ρ : List Sl) (ds : List PyData) : TE := fun σ H Q => Gr o H0 H ∧ Slots K o H0 H ρ σ ∧ ∀ r H' xs, Gr o H H' → H r = none → H' r = some (.lst xs) → DpAll K H' xs ds → Q (.ref r) H'
abbrev EVn (X : Cx) (o : WO) (H0 : Hp) (ρ : List Sl) (e : Expr) (ds : List PyData) : Prop := PE X e (tN X.K o H0 ρ ds)
theorem evn_slL {lo hi : Option Expr} {tl th : TO} {i j : Option Int} {p2 : Pos} {ds es' : List PyData} (ha : EVd X o H0 ρ a (.list ds)) (hl : PtOk X o H0 ρ lo i tl) (hh : PtOk X o H0 ρ hi j th)
    (he : (ds.drop (HT.sIx ds.length 0 i)).take (HT.sIx ds.length ds.length j - HT.sIx ds.length 0 i) = es') : EVn X o H0 ρ (.Subscript a (.Slice lo hi none p2) pos) es' :=
  PE.imp (pe_slice sl_list ha hl.1 hh.1) fun σ H Q ⟨g, sl, k⟩ => ⟨g, sl, fun v H1 d hd g1 p1 => by
    subst hd
    refine hl.2 σ H1 _ (Gr.trans g g1) (sl.mono g1) fun H2 g2 => hh.2 σ H2 _ (Gr.trans (Gr.trans g g1) g2) ((sl.mono g1).mono g2) fun H3 g3 => ?_
    obtain ⟨p, xs, rfl, hs, hp⟩ := ((Gr.trans g2 g3).dp _ _ p1).lst_inv
    refine ⟨p, xs, rfl, hs, fun r hr => ?_⟩
    refine k _ _ _ (Gr.trans (Gr.trans g1 (Gr.trans g2 g3)) (Gr.same (Same.upd_new hr))) ((Gr.trans g1 (Gr.trans g2 g3)).free hr) upd_same (Gr.dpAll (o := none) (Same.upd_new hr) _ _ ?_)
    rw [← he]
    exact cutAll hp i j⟩
/-- for over a new list, while another list is being made -/
theorem sv_forN {tg : Expr} {ok : PyData → Prop} {st : List Sl → PyData → List Sl} {ds : List PyData} {l : Addr} {i : Nat} {es0 : List PyData} (hp : PassesOwn (model X.prog X.w) X.A X.env X.xe) (hc : X.calm = true) (h : EVn X o H0 ρ iter ds) (hf : lfreeAll ds = true) (hρ : ρ[i]? = some (.mtl l es0)) (hm : allM l ρ)
    (ht : Tgt X tg ok st) (hok : ∀ (n : Nat) d, ds[n]? = some d → ok d) (Inv : Nat → List Sl → Prop) (h0 : Inv 0 ρ)
    (hb : ∀ H1 n d ρ', ds[n]? = some d → Inv n ρ' → SVs X o H1 (st ρ' d) body (Inv (n + 1)) Rt) (hk : ∀ ρ', Inv ds.length ρ' → SVs X o H0 (ρ'.map Sl.soft) rest Nx Rt)
    (hs : ∀ x, foldedSetIterable iter X.env x = pure x := by intro _; rfl) : SVs X o H0 ρ (.For tg iter body [] pos :: rest) Nx Rt := by
  obtain ⟨g, hg, hrun⟩ := ht
  refine sv_seq (ps_for hp hc (pi_list h) hg (for_body hb) hs) hk ?_
  intro D σ H ⟨en, g0, sl, k1, k2⟩
  refine ⟨g0, sl, fun r H1 xs g1 hr hr1 hp1 => ?_⟩
  have g01 := Gr.trans g0 g1
  have sl1 := sl.mono g1
  obtain ⟨q, hq1, hq2⟩ := sl.get hρ
  obtain ⟨_, hl0, vs, hl, _⟩ := hq2
  have hl1 := g1.keep hl rfl
  have hne : r ≠ l := fun e => by rw [e, hl] at hr; cases hr
  have hsq : SqL X.K (cutB H1 l) r xs := SqL.cut hne (SqL.of hr1)
  have hpc := DpAll.cut hl1 ds xs hf hp1
  have gc : Gr o H0 (cutB H1 l) := Gr.cut hl0 g01
  refine ⟨r, rfl, ⟨xs, SqL.of hr1⟩, for_list (xs := xs) (g := g) (tb := fbT X.K o st ds Inv Rt) (D := { D with nx := fun σ' H' => ∃ a, Inv ds.length a ∧ tS X.K o H0 (List.map Sl.soft a) Nx Rt D σ' H' }) (fun n σ' H' => Gr o (cutB H1 l) H' ∧ ∃ ρ', Inv n ρ' ∧ Slots X.K o (cutB H1 l) H' ρ' σ') ⟨Gr.uncut, _, h0, Slots.cut hl0 g01 hm sl1⟩ (fun n σ' H' _ q => q.1.lst hsq) ?_ ?_⟩
  · rintro n x σ' H' hx ⟨gH, ρ', inv, sl'⟩
    obtain ⟨d, hd, hpd⟩ := hpc.get' hx
    refine hrun o (cutB H1 l) x d ρ' σ' H' _ (hok n d hd) (gH.dp _ _ hpd) sl' fun σ2 sl2 => ?_
    exact ⟨(cutB H1 l, n, d, ρ'), ⟨hd, inv⟩, en.mono gc, gH, sl2, fun σ3 H3 ρ3 inv3 g3 sl3 => ⟨g3, ρ3, inv3, sl3⟩, fun v3 H3 d3 hd3 g3 p3 => k2 v3 H3 d3 hd3 (Gr.trans gc g3) p3⟩
  · rintro σ' H' ⟨gH, ρ', inv, sl'⟩
    rw [hp1.length] at inv
    exact ⟨ρ', inv, en, Gr.trans gc gH, Slots.map (f := Sl.soft) (fun q => SlOk.soft gc gH (fun v q => en.wok q) q) sl', k1, k2⟩
/-! [e for x in a list] -/
theorem ev_mapL {elt tg : Expr} {scope : Scope} {i : Nat} {ds es' : List PyData} (nd : X.N.Nodup) (calm : X.calm = true) (ok : BlkOk X.N X.env.scope scope [(x, i)])
    (hg : ∀ (s : Shared) (H : Hp) (C : Addr) (cl : List (Str × Addr)) (fp : List Addr), PG (blkX X scope s H C cl fp) tg (gName i)) (hi : EVd X o H0 ρ iter (.list ds)) (hl : ds.length ≤ sizeLine) (hle : es'.length = ds.length) (hf : lfreeAll es' = true)
    (he : ∀ (s : Shared) (H : Hp) (C : Addr) (cl : List (Str × Addr)) (fp : List Addr) (H1 : Hp) (k : Nat) (d e : PyData), ds[k]? = some d → es'[k]? = some e → EVd (blkX X scope s H C cl fp) o H1 (rhoC ρ i d) elt e)
    (hs : ∀ x, foldedSetIterable iter X.env x = pure x := by intro _; rfl) : EVd X o H0 ρ (.ListComp elt [⟨tg, iter, [], 0⟩] scope pos) (.list es') := by
  refine ev_imp (ev_lcL (ds := ds) (Φ := fun k d => es'[k]? = some d) (J := fun k es => es = es'.take k)
    (lcArgs0 nd calm ok hg (fun s H C cl fp H1 k d hd => ?_)) hi hl (fun k d hd => lfree_get hf hd) rfl ?_ (fun n es d hd hJ h => by cases h) hs) (fun d hd => ?_)
  · obtain ⟨e, hk⟩ : ∃ e, es'[k]? = some e := by
      have h1 := (List.getElem?_eq_some_iff.mp hd).1
      exact ⟨_, List.getElem?_eq_getElem (by omega)⟩
    exact ev_imp (he s H C cl fp H1 k d e hd hk) (fun d' e' => by rw [e']; exact hk)
  · rintro k es e d hd hJ _ hm
    rw [hJ, List.take_succ, hm]; rfl
  · obtain ⟨es, rfl, _, _, rfl⟩ := hd
    rw [← hle, List.take_length]
theorem ev_mapTt {elt tg : Expr} {scope : Scope} {i : Nat} {ds es' : List PyData} (nd : X.N.Nodup) (calm : X.calm = true) (ok : BlkOk X.N X.env.scope scope [(x, i)])
    (hg : ∀ (s : Shared) (H : Hp) (C : Addr) (cl : List (Str × Addr)) (fp : List Addr), PG (blkX X scope s H C cl fp) tg (gName i)) (hi : EVd X o H0 ρ iter (.tuple ds)) (hl : ds.length ≤ sizeLine) (hle : es'.length = ds.length) (hf : lfreeAll es' = true)
    (he : ∀ (s : Shared) (H : Hp) (C : Addr) (cl : List (Str × Addr)) (fp : List Addr) (H1 : Hp) (k : Nat) (d e : PyData), ds[k]? = some d → es'[k]? = some e → EVd (blkX X scope s H C cl fp) o H1 (rhoC ρ i d) elt e)
    (hs : ∀ x, foldedSetIterable iter X.env x = pure x := by intro _; rfl) : EVd X o H0 ρ (.ListComp elt [⟨tg, iter, [], 0⟩] scope pos) (.list es') := by
  refine ev_imp (ev_lcT (ds := ds) (Φ := fun k d => es'[k]? = some d) (J := fun k es => es = es'.take k)
    (lcArgs0 nd calm ok hg (fun s H C cl fp H1 k d hd => ?_)) hi hl (fun k d hd => lfree_get hf hd) rfl ?_ (fun n es d hd hJ h => by cases h) hs) (fun d hd => ?_)
  · obtain ⟨e, hk⟩ : ∃ e, es'[k]? = some e := by
      have h1 := (List.getElem?_eq_some_iff.mp hd).1
      exact ⟨_, List.getElem?_eq_getElem (by omega)⟩
    exact ev_imp (he s H C cl fp H1 k d e hd hk) (fun d' e' => by rw [e']; exact hk)
  · rintro k es e d hd hJ _ hm
    rw [hJ, List.take_succ, hm]; rfl
  · obtain ⟨es, rfl, _, _, rfl⟩ := hd
    rw [← hle, List.take_length]
/-! [e for x in range(n)], n not known ahead, the element by draws -/
def teX (K : PySem.W.Frag) (o : WO) (ρ : List Sl) (i : Nat) (Φ : PyData → Prop) : TE := fun σ H Q => ∃ q : Hp × Int, True ∧ tD K o q.1 (rhoC ρ i (.int q.2)) Φ σ H Q
def ttX (K : PySem.W.Frag) (o : WO) (ρ : List Sl) (i : Nat) : TT := fun σ H Q => ∃ q : Hp × Int, tT K o q.1 (rhoC ρ i (.int q.2)) (· = true) σ H Q
theorem lcx_read {i n : Nat} {Φe : PyData → Prop} (hn : n ≤ sizeLine) (hf : ∀ d, Φe d → lfree d = true) {K : PySem.W.Frag} {H H1 : Hp} {σ : L2.St} {Q : VK} (g01 : Gr o H0 H1) (sl : Slots K o H0 H1 ρ σ) (gHH1 : Gr o H H1)
    (k : ∀ v H' d, (∃ es, d = .list es ∧ es.length = n ∧ ∀ e ∈ es, Φe e) → Gr o H H' → Dp K H' v d → Q v H') :
    ∀ D, H1 D = none → ∃ W : Nat → Nat → Hp → Prop, (∃ m, W 0 m (upd H1 D (.lst []))) ∧ ∀ j m H, W j m H →
      ((Itr 0 n).stop j H ∧ Q (.ref D) H) ∨ ((Itr 0 n).go j H ∧ ∃ Nx : Hp → Prop, (∀ H', Nx H' → ∃ m', m' < m ∧ W (j + 1) m' H') ∧ ∀ x H', (Itr 0 n).yld j H x H' → gName i x (wipe σ [i]) H' fun σ2 H2 => wipe σ2 [i] = wipe σ [i] ∧ ttX K o ρ i σ2 H2 fun b H3 =>
        if b = true then teX K o ρ i Φe σ2 H3 fun y H4 => ∃ acc, H4 D = some (.lst acc) ∧ acc.length < sizeLine ∧ Nx (upd H4 D (.lst (acc ++ [y]))) else Nx H3) := by
  intro D hD
  refine lc_range (lcPv K o H1 D (fun k es => es.length = k ∧ ∀ e ∈ es, Φe e)) ⟨Gr.same (Same.upd_new hD), [], [], upd_same, .nil, rfl, Nat.le_refl _, rfl, by simp⟩ (fun m H hm pv => ?_) (fun H pv => ?_)
  · obtain ⟨h1, q, hq, g, sl2, k2⟩ := lc_turn (ds := rgD 0 n) (Φ := fun _ d => Φe d) (t := fun _ b => b = true) hD g01 sl (by rw [rgD_len]; exact hn) (fun _ d hd => hf d hd) (fun n es e d hd hJ _ he => ⟨by rw [List.length_append, hJ.1]; rfl, fun x hx => by
        rcases List.mem_append.mp hx with hx | hx
        · exact hJ.2 x hx
        · rw [List.mem_singleton.mp hx]; exact he⟩) (fun n es d hd hJ h => by cases h) (rgD_get hm) (.int _) pv
    have hi {k : Nat} {d : PyData} (h : (rgD 0 n)[k]? = some d) : d = .int (0 + (k : Int)) := by
      have h1 := (List.getElem?_eq_some_iff.mp h).1
      rw [rgD_len] at h1
      rw [rgD_get h1] at h; exact (Option.some.inj h).symm
    refine ⟨h1, (q.1, 0 + (q.2.1 : Int)), g, by rw [← hi hq]; exact sl2, fun b H3 hb g3 => ?_⟩
    have hbt : b = true := hb
    subst hbt
    have k3 := k2 true H3 rfl g3
    simp only [if_true] at k3
    simp only [if_true]
    obtain ⟨q', ⟨hq', _⟩, g', sl3, k4⟩ := k3
    exact ⟨(q'.1, 0 + (q'.2.1 : Int)), trivial, g', by rw [← hi hq']; exact sl3, k4⟩
  · obtain ⟨gH, vs, es, hD2, hps, hfs, hle, hJ⟩ := pv
    exact k (.ref D) H _ ⟨es, rfl, hJ⟩ (Gr.trans gHH1 gH) (.lst (SqL.of hD2) hps)
theorem sv_setLcN {elt tg a : Expr} {scope : Scope} {i : Nat} {pr p spos py : Pos} {B : Nat} {Φe : PyData → Prop} (iy : Nat) (nd : X.N.Nodup) (calm : X.calm = true) (ok : BlkOk X.N X.env.scope scope [(x, i)])
    (hg : ∀ (s : Shared) (H : Hp) (C : Addr) (cl : List (Str × Addr)) (fp : List Addr), PG (blkX X scope s H C cl fp) tg (gName i)) (hm : X.mg "range" = none) (ha : EV X o H0 ρ a (fun d => ∃ n : Nat, d = .int n ∧ 1 ≤ n ∧ n ≤ B)) (hB : B ≤ 1000) (hf : ∀ d, Φe d → lfree d = true)
    (he : ∀ (s : Shared) (H : Hp) (C : Addr) (cl : List (Str × Addr)) (fp : List Addr) (H1 : Hp) (m : Int), EV (blkX X scope s H C cl fp) o H1 (rhoC ρ i (.int m)) elt Φe)
    (hk : ∀ es, 1 ≤ es.length → es.length ≤ B → (∀ e ∈ es, Φe e) → SVs X o H0 (ρ.set iy (.dat (.list es))) rest Nx Rt)
    (hy : X.N[iy]? = some y := by rfl) (hyl : X.env.scope.names.lookup y = some .local := by rfl) (hk0 : X.env.scope.kind = .function := by rfl) (hline : (py.line == pos.line) = true := by rfl) (hl0 : (scope.names.any fun (n, k) => n == y && (k == .local || k == .cell)) = false := by rfl)
    (hgl : Gl X "range" := by rfl) (hs1 : starEach [a] X.env = [(false, eval a X.env)] := by rfl)
    (hs : ∀ x, foldedSetIterable (.Call (.Name "range" pr) [a] [] p) X.env x = pure x := by intro _; rfl) :
    SVs X o H0 ρ (.Assign [.Name y py] (.ListComp elt [⟨tg, .Call (.Name "range" pr) [a] [] p, [], 0⟩] scope pos) spos :: rest) Nx Rt := by
  have lz := sizeLine_eq
  refine sv_seq (PS.imp (t' := tAsg (tD X.K o H0 ρ (fun d => ∃ es, d = .list es ∧ 1 ≤ es.length ∧ es.length ≤ B ∧ ∀ e ∈ es, Φe e)) (gName iy)) (ps_setLc (tt := ttX X.K o ρ i) (te := teX X.K o ρ i Φe) calm nd hy hyl (sw_true hk0 hyl hline hl0) (pi_range1 hgl hm (ea_cons (Φr := fun ds => ∃ n : Nat, ds = [.int n] ∧ 1 ≤ n ∧ n ≤ B) ha ea_nil (fun d ds hd hds => by obtain ⟨n, rfl, h⟩ := hd; subst hds; exact ⟨n, rfl, h⟩) hs1) hs1) ok hg
    (fun s H C cl fp => ⟨fun pins s' σ H' Q I ⟨q, g, sl, k⟩ => pts_nil.run pins s' σ H' Q I (k true H' rfl (Gr.refl _ _))⟩) (fun s H C cl fp => PE.exh fun q _ => he s H C cl fp q.1 q.2) hs) fun D σ H ⟨g, sl, k⟩ => ⟨g, sl, fun vs H1 ds hds g1 p1 => ?_⟩) (α := PyData) (q := fun d => ∃ es, d = .list es ∧ 1 ≤ es.length ∧ es.length ≤ B ∧ ∀ e ∈ es, Φe e) (r := fun d => ρ.set iy (.dat d)) (fun d hd => by obtain ⟨es, rfl, h1, h2, h3⟩ := hd; exact hk es h1 h2 h3) fun D σ H ⟨en, g, sl, k1, k2⟩ => ⟨g, sl, fun v H1 d hd g1 p1 => ⟨d, hd, en, Gr.trans g g1, (sl.mono g1).set ⟨v, rfl, p1⟩, k1, k2⟩⟩
  obtain ⟨n, rfl, h1, h2⟩ := hds
  cases p1 with
  | cons q1 q2 =>
    cases q2; cases q1.int_inv
    refine ⟨n, rfl, by omega, by omega, ?_⟩
    exact lcx_read (n := n) (by omega) hf (Gr.trans g g1) (sl.mono g1) g1 fun v H' d hd gd pd => by
      obtain ⟨es, rfl, hl, he⟩ := hd
      exact k v H' _ ⟨es, rfl, by omega, by omega, he⟩ gd pd
end
end DL

namespace DL
open PySem PySem.Spec PyProof.Rows L2 MA
section
variable {X : Cx} {o : WO} {H0 : Hp} {ρ : List Sl} {e a b iter : Expr} {es : List Expr} {pos p : Pos} {Φ Φa Φb : PyData → Prop} {x y : Str} {sts rest body : List Stmt} {Nx : List Sl → Prop} {Rt : PyData → Prop} {Ψ : Bool → Prop}
/-- a, b, .. = a list -/
theorem sv_unpL (is : List Nat) {ts : List Expr} {kt : Nat} {pt : Pos} {Φl : List PyData → Prop} (hc : X.calm = true) (hN : X.N.Nodup) (h : EV X o H0 ρ e (fun d => ∃ ds, d = .list ds ∧ Φl ds)) (hl : ∀ ds, Φl ds → ds.length = is.length) (hk : ∀ ds, Φl ds → SVs X o H0 (setAll ρ is ds) rest Nx Rt)
    (hg : GNs X ts is) (hn : (assignEach ts X.env).length = is.length := by rfl) (hst : (assignEach ts X.env).findIdx? (·.1) = none := by rfl)
    (hs : swapsWithSole [.Tuple ts kt pt] e pos.line X.env = pure false := by rfl) (hw : swappedStores [.Tuple ts kt pt] e X.env = pure none := by rfl) (h1 : (assignEach [.Tuple ts kt pt] X.env).map (·.2) = [assign (.Tuple ts kt pt) X.env] := by rfl) :
    SVs X o H0 ρ (.Assign [.Tuple ts kt pt] e pos :: rest) Nx Rt :=
  sv_seq (ps_asg h (pg_unl hc (pgs_all hN hg) hn hst) hs hw h1) hk fun D σ H ⟨en, g, sl, k1, k2⟩ => ⟨g, sl, fun v H1 d hd g1 p1 => by
    obtain ⟨ds, rfl, hΦ⟩ := hd
    obtain ⟨r, xs, rfl, hs, hp⟩ := p1.lst_inv
    exact ⟨r, xs, rfl, hs, by rw [hp.length, hl ds hΦ], gAll_run hp (hl ds hΦ).symm (sl.mono g1) fun σ' sl' => ⟨ds, hΦ, en, Gr.trans g g1, sl', k1, k2⟩⟩⟩
/-- [e for x in range(n)], the element by draws -/
theorem ev_lcX {elt tg a : Expr} {scope : Scope} {i n : Nat} {pr p : Pos} {Φe : PyData → Prop} (nd : X.N.Nodup) (calm : X.calm = true) (ok : BlkOk X.N X.env.scope scope [(x, i)])
    (hg : ∀ (s : Shared) (H : Hp) (C : Addr) (cl : List (Str × Addr)) (fp : List Addr), PG (blkX X scope s H C cl fp) tg (gName i)) (hm : X.mg "range" = none) (ha : EVd X o H0 ρ a (.int n)) (hB : n ≤ 1000) (hf : ∀ d, Φe d → lfree d = true)
    (he : ∀ (s : Shared) (H : Hp) (C : Addr) (cl : List (Str × Addr)) (fp : List Addr) (H1 : Hp) (m : Int), EV (blkX X scope s H C cl fp) o H1 (rhoC ρ i (.int m)) elt Φe)
    (hgl : Gl X "range" := by rfl) (hs1 : starEach [a] X.env = [(false, eval a X.env)] := by rfl)
    (hs : ∀ x, foldedSetIterable (.Call (.Name "range" pr) [a] [] p) X.env x = pure x := by intro _; rfl) :
    EV X o H0 ρ (.ListComp elt [⟨tg, .Call (.Name "range" pr) [a] [] p, [], 0⟩] scope pos) (fun d => ∃ es, d = .list es ∧ es.length = n ∧ ∀ e ∈ es, Φe e) := by
  have lz := sizeLine_eq
  refine PE.imp (pe_lc (tt := ttX X.K o ρ i) (te := teX X.K o ρ i Φe) calm nd (pi_range1 hgl hm (ea_consd ha ea_nil hs1) hs1) ok hg
    (fun s H C cl fp => ⟨fun pins s' σ H' Q I ⟨q, g, sl, k⟩ => pts_nil.run pins s' σ H' Q I (k true H' rfl (Gr.refl _ _))⟩) (fun s H C cl fp => PE.exh fun q _ => he s H C cl fp q.1 q.2) hs) fun σ H Q ⟨g, sl, k⟩ => ⟨g, sl, fun vs H1 ds hds g1 p1 => ?_⟩
  subst hds
  cases p1 with
  | cons q1 q2 =>
    cases q2; cases q1.int_inv
    refine ⟨n, rfl, by omega, by omega, ?_⟩
    exact lcx_read (n := n) (by omega) hf (Gr.trans g g1) (sl.mono g1) g1 k
/-! defs as values -/
/-- (a def, data) -/
def tP (K : PySem.W.Frag) (o : WO) (H0 : Hp) (ρ : List Sl) (f : Addr) (d : PyData) : TE := fun σ H Q => Gr o H0 H ∧ Slots K o H0 H ρ σ ∧ ∀ q v H', Gr o H H' → SqT K H' q [.ref f, v] → Dp K H' v d → Q (.ref q) H'
theorem pe_pairF {f : Addr} {d : PyData} {px : Pos} {x1} (hm : X.mg x = some (.ref f)) (h : EVd X o H0 ρ e d) (hg : Gl X x := by rfl) (hdb : (x == ("__debug__" : Str)) = false := by decide)
    (hs1 : starEach [.Name x px, e] X.env = (false, eval (.Name x px) X.env) :: starEach [e] X.env := by rfl) (hs2 : starEach [e] X.env = (false, eval e X.env) :: starEach [] X.env := by rfl) : PE X (.Tuple [.Name x px, e] x1 pos) (tP X.K o H0 ρ f d) :=
  PE.imp (pe_tup (pa_cons (pe_glob hg hm (v := .ref f) rfl hdb) (pa_cons h pa_nil hs2) hs1)) fun σ H Q ⟨g, sl, k⟩ => ⟨g, sl, fun v H1 d' hd g1 p1 => by
    subst hd
    refine ⟨by have := sizeLine_eq; show 2 ≤ sizeLine; omega, fun q hq => ?_⟩
    have gq : Gr o H1 (upd H1 q (.tup [.ref f, v])) := Gr.same (Same.upd_new hq)
    exact k q v _ (Gr.trans g1 gq) (SqT.of upd_same) (gq.dp _ _ p1)⟩
/-- a tuple of such pairs -/
def tF (K : PySem.W.Frag) (o : WO) (H0 : Hp) (ρ : List Sl) (fs : List (Addr × PyData)) : TE := fun σ H Q => Gr o H0 H ∧ Slots K o H0 H ρ σ ∧ ∀ (r : Addr) (ps : List Addr) (H' : Hp), Gr o H H' → SqT K H' r (ps.map V.ref) → ps.length = fs.length →
  (∀ (k : Nat) (p : Addr) (fd : Addr × PyData), ps[k]? = some p → fs[k]? = some fd → ∃ v, SqT K H' p [.ref fd.1, v] ∧ Dp K H' v fd.2) → Q (.ref r) H'
theorem pe_three {f1 f2 f3 : Addr} {d1 d2 d3 : PyData} {e1 e2 e3 : Expr} {x1} (h1 : PE X e1 (tP X.K o H0 ρ f1 d1)) (h2 : PE X e2 (tP X.K o H0 ρ f2 d2)) (h3 : PE X e3 (tP X.K o H0 ρ f3 d3))
    (hs1 : starEach [e1, e2, e3] X.env = (false, eval e1 X.env) :: starEach [e2, e3] X.env := by rfl) (hs2 : starEach [e2, e3] X.env = (false, eval e2 X.env) :: starEach [e3] X.env := by rfl) (hs3 : starEach [e3] X.env = (false, eval e3 X.env) :: starEach [] X.env := by rfl) :
    PE X (.Tuple [e1, e2, e3] x1 pos) (tF X.K o H0 ρ [(f1, d1), (f2, d2), (f3, d3)]) :=
  PE.imp (pe_tup (pa_cons h1 (pa_cons h2 (pa_cons h3 pa_nil hs3) hs2) hs1)) fun σ H Q ⟨g, sl, k⟩ => ⟨g, sl, fun q1 v1 H1 g1 s1 p1 => ⟨Gr.trans g g1, sl.mono g1, fun q2 v2 H2 g2 s2 p2 => ⟨Gr.trans (Gr.trans g g1) g2, (sl.mono g1).mono g2, fun q3 v3 H3 g3 s3 p3 => by
    refine ⟨by have := sizeLine_eq; show 3 ≤ sizeLine; omega, fun r hr => ?_⟩
    have gr : Gr o H3 (upd H3 r (.tup [.ref q1, .ref q2, .ref q3])) := Gr.same (Same.upd_new hr)
    have g23 := Gr.trans g2 g3
    refine k r [q1, q2, q3] _ (Gr.trans g1 (Gr.trans g23 gr)) (SqT.of upd_same) rfl fun k p fd hp hf => ?_
    match k, hp, hf with
    | 0, hp, hf => cases hp; cases hf; exact ⟨v1, (Gr.trans g23 gr).tup s1, (Gr.trans g23 gr).dp _ _ p1⟩
    | 1, hp, hf => cases hp; cases hf; exact ⟨v2, (Gr.trans g3 gr).tup s2, (Gr.trans g3 gr).dp _ _ p2⟩
    | 2, hp, hf => cases hp; cases hf; exact ⟨v3, gr.tup s3, gr.dp _ _ p3⟩
    | k + 3, hp, hf => simp at hp⟩⟩⟩
theorem slots_len {K : PySem.W.Frag} {H : Hp} : ∀ {ρ : List Sl} {σ : L2.St}, Slots K o H0 H ρ σ → σ.length = ρ.length
  | [], [], _ => rfl
  | _ :: _, _ :: _, h => by rw [List.length_cons, List.length_cons, slots_len h.2]
  | [], _ :: _, h => h.elim
  | _ :: _, [], h => h.elim
def fbF (K : PySem.W.Frag) (o : WO) (i j : Nat) (fs : List (Addr × PyData)) (Inv : Nat → List Sl → Prop) (Rt : PyData → Prop) : TS := fun D σ H => ∃ q : Hp × Nat × (Addr × PyData) × List Sl, (fs[q.2.1]? = some q.2.2.1 ∧ Inv q.2.1 q.2.2.2) ∧ σ[i]? = some (some (.ref q.2.2.1.1)) ∧ tS K o q.1 ((q.2.2.2.set i .un).set j (.dat q.2.2.1.2)) (Inv (q.2.1 + 1)) Rt D σ H
/-- for f, x in ((a def, data), ..) -/
theorem sv_forF {fs : List (Addr × PyData)} {ts : List Expr} {kt : Nat} {pt : Pos} (i j : Nat) (hij : i ≠ j) (hp : PassesOwn (model X.prog X.w) X.A X.env X.xe) (hc : X.calm = true) (hN : X.N.Nodup) (h : PE X iter (tF X.K o H0 ρ fs)) (Inv : Nat → List Sl → Prop) (h0 : Inv 0 (ρ.map Sl.young)) (hlen : ∀ n ρ', Inv n ρ' → i < ρ'.length)
    (hb : ∀ H1 n f d ρ', fs[n]? = some (f, d) → Inv n ρ' → PSs X body (fun D σ H => σ[i]? = some (some (.ref f)) ∧ tS X.K o H1 ((ρ'.set i .un).set j (.dat d)) (Inv (n + 1)) Rt D σ H)) (hk : ∀ ρ', Inv fs.length ρ' → SVs X o H0 (ρ'.map Sl.young) rest Nx Rt)
    (hg : GNs X ts [i, j]) (hn : (assignEach ts X.env).length = 2 := by rfl) (hst : (assignEach ts X.env).findIdx? (·.1) = none := by rfl)
    (hs : ∀ x, foldedSetIterable iter X.env x = pure x := by intro _; rfl) : SVs X o H0 ρ (.For (.Tuple ts kt pt) iter body [] pos :: rest) Nx Rt := by
  refine sv_seq (ps_for hp hc (pi_tup h) (pg_tup hc (pgs_all hN hg) hn hst) (tb := fbF X.K o i j fs Inv Rt) ⟨fun pins s σ H D I ⟨q, hq, h⟩ => (hb q.1 q.2.1 q.2.2.1.1 q.2.2.1.2 q.2.2.2 hq.1 hq.2).run pins s σ H D I h⟩ hs) hk ?_
  intro D σ H ⟨en, g0, sl, k1, k2⟩
  refine ⟨g0, sl, fun r ps H1 g1 hsq hpl hps => ?_⟩
  have g01 := Gr.trans g0 g1
  refine ⟨r, rfl, ⟨_, hsq⟩, for_tup (xs := ps.map V.ref) (g := gTup X.K 2 (gAll [i, j])) (tb := fbF X.K o i j fs Inv Rt) (D := { D with nx := fun σ' H' => ∃ a, Inv fs.length a ∧ tS X.K o H0 (List.map Sl.young a) Nx Rt D σ' H' }) (fun n σ' H' => Gr o H1 H' ∧ ∃ ρ', Inv n ρ' ∧ Slots X.K o H1 H' ρ' σ') ⟨Gr.refl _ _, _, h0, Slots.map (f := Sl.young) (fun q => SlOk.rise g01 q) (sl.mono g1)⟩ (fun n σ' H' _ q => q.1.tup hsq) ?_ ?_⟩
  · rintro n x σ' H' hx ⟨gH, ρ', inv, sl'⟩
    rw [List.getElem?_map] at hx
    obtain ⟨p, hp1, rfl⟩ := Option.map_eq_some_iff.mp hx
    have hn' : n < fs.length := by rw [← hpl]; exact (List.getElem?_eq_some_iff.mp hp1).1
    obtain ⟨v, hs1, hd1⟩ := hps n p _ hp1 (List.getElem?_eq_getElem hn')
    have hi : i < σ'.length := by rw [slots_len sl']; exact hlen n ρ' inv
    refine ⟨p, [.ref (fs[n]'hn').1, v], rfl, gH.tup hs1, rfl, ?_⟩
    refine ⟨_, _, rfl, _, _, rfl, rfl, (H1, n, fs[n]'hn', ρ'), ⟨List.getElem?_eq_getElem hn', inv⟩, ?_, en.mono g01, gH, (sl'.set (i := i) (s := .un) (q := some (.ref (fs[n]'hn').1)) trivial).set (s := .dat (fs[n]'hn').2) ⟨v, rfl, gH.dp _ _ hd1⟩, fun σ3 H3 ρ3 inv3 g3 sl3 => ⟨g3, ρ3, inv3, sl3⟩, fun v3 H3 d3 hd3 g3 p3 => k2 v3 H3 d3 hd3 (Gr.trans g01 g3) p3⟩
    rw [List.getElem?_set_ne (Ne.symm hij), List.getElem?_set_self hi]
  · rintro σ' H' ⟨gH, ρ', inv, sl'⟩
    rw [List.length_map, hpl] at inv
    exact ⟨ρ', inv, en, Gr.trans g01 gH, Slots.map (f := Sl.young) (fun q => SlOk.fall gH (fun v q => en.wok q) q) sl', k1, k2⟩
/-- a, b, .. = f(..), f a name that holds a def -/
theorem svs_callL (i : Nat) (is : List Nat) {ts : List Expr} {kt k : Nat} {pt pc : Pos} {f : Addr} {fd : FuncData} {ps : List Str} {R : List PyData → PyData → Prop} {ds ds' : List PyData} (F : FnOk X.prog X.w X.K X.mg X.base CX0 k f fd ps (spF X.K R)) (hr : Room k X.A) (kp : PySem.W.keepIn X.K (.ref f) = true) (bd : Binds X.K fd ps []) (hc : X.calm = true) (hN : X.N.Nodup)
    (ha : EAd X o H0 ρ (e :: es) ds) (hR : R ds (.tuple ds')) (hl : ds'.length = is.length) (hk : SVs X o H0 (setAll ρ is ds') rest Nx Rt) (hg : GNs X ts is) (hi : X.N[i]? = some x := by rfl) (hv : Vis X.env.scope x := by first | exact Or.inl rfl | exact Or.inr (Or.inl rfl) | exact Or.inr (Or.inr rfl))
    (hdb : (x == ("__debug__" : Str)) = false := by decide) (hcd : (x == ("__classdict__" : Str)) = false := by decide) (he : starEach (e :: es) X.env = (false, eval e X.env) :: starEach es X.env := by rfl) (hpl : (backTo pc (starEach es X.env)).any (·.1) = false := by rfl)
    (hn : (assignEach ts X.env).length = is.length := by rfl) (hst : (assignEach ts X.env).findIdx? (·.1) = none := by rfl)
    (hs : swapsWithSole [.Tuple ts kt pt] (.Call (.Name x p) (e :: es) [] pc) pos.line X.env = pure false := by rfl) (hw : swappedStores [.Tuple ts kt pt] (.Call (.Name x p) (e :: es) [] pc) X.env = pure none := by rfl) (h1 : (assignEach [.Tuple ts kt pt] X.env).map (·.2) = [assign (.Tuple ts kt pt) X.env] := by rfl) :
    PSs X (.Assign [.Tuple ts kt pt] (.Call (.Name x p) (e :: es) [] pc) pos :: rest) (fun D σ H => σ[i]? = some (some (.ref f)) ∧ tS X.K o H0 ρ Nx Rt D σ H) :=
  PSs.imp (pss_cons (ps_asg (pe_callL (i := i) F hr hi hv kp bd .nil pass0 ha hdb hcd he hpl) (pg_tup hc (pgs_all hN hg) hn hst) hs hw h1) hk) fun D σ H ⟨hσ, en, g, sl, k1, k2⟩ => ⟨hσ, g, sl, fun vs H1 ds1 hds g1 p1 => by
    subst hds
    refine ⟨ds1, _, by rw [List.append_nil]; exact p1, hR, fun v H' s dp => ?_⟩
    obtain ⟨r, xs, rfl, hs, hp⟩ := dp.tup_inv
    have g2 := Gr.trans g1 (Gr.same s)
    exact ⟨r, xs, rfl, hs, by rw [hp.length, hl], gAll_run hp hl.symm (sl.mono g2) fun σ' sl' => ⟨en, Gr.trans g g2, sl', k1, k2⟩⟩⟩
/-- a, b, c = x, y, z -/
theorem sv_par3 (i j l : Nat) {z : Str} {a b c : Expr} {px py pz pt : Pos} {kt k2 pt2} {Φs : List PyData → Prop} (hc : X.calm = true) (hN : X.N.Nodup) (ha : EA X o H0 ρ [a, b, c] Φs) (hk : ∀ d1 d2 d3, Φs [d1, d2, d3] → SVs X o H0 (((ρ.set i (.dat d1)).set j (.dat d2)).set l (.dat d3)) rest Nx Rt) (hds : ∀ ds, Φs ds → ∃ d1 d2 d3, ds = [d1, d2, d3])
    (hi : X.N[i]? = some x := by rfl) (hj : X.N[j]? = some y := by rfl) (hl : X.N[l]? = some z := by rfl) (hij : i ≠ j := by decide) (hil : i ≠ l := by decide) (hjl : j ≠ l := by decide)
    (hx : X.env.scope.names.lookup x = some .local := by rfl) (hy : X.env.scope.names.lookup y = some .local := by rfl) (hz : X.env.scope.names.lookup z = some .local := by rfl)
    (hw : swappedStores [.Tuple [.Name x px, .Name y py, .Name z pz] kt pt] (.Tuple [a, b, c] k2 pt2) X.env = pure (some [x, y, z]) := by rfl)
    (hs : swapsWithSole [.Tuple [.Name x px, .Name y py, .Name z pz] kt pt] (.Tuple [a, b, c] k2 pt2) pos.line X.env = pure false := by rfl) : SVs X o H0 ρ (.Assign [.Tuple [.Name x px, .Name y py, .Name z pz] kt pt] (.Tuple [a, b, c] k2 pt2) pos :: rest) Nx Rt :=
  sv_seq (ps_par3 hc hN hi hj hl hij hil hjl hx hy hz ha hw hs) (fun (dd : PyData × PyData × PyData) (hdd : Φs [dd.1, dd.2.1, dd.2.2]) => hk dd.1 dd.2.1 dd.2.2 hdd) fun D σ H ⟨en, g, sl, k1, k2⟩ => ⟨g, sl, fun vs H1 ds hds0 g1 p1 => by
    obtain ⟨d1, d2, d3, rfl⟩ := hds ds hds0
    cases p1 with
    | cons q1 q2 =>
      cases q2 with
      | cons q2 q3 =>
        cases q3 with
        | cons q3 q4 =>
          cases q4
          exact ⟨_, _, _, rfl, (d1, d2, d3), hds0, en, Gr.trans g g1, (((sl.mono g1).set (s := .dat d1) ⟨_, rfl, q1⟩).set (s := .dat d2) ⟨_, rfl, q2⟩).set (s := .dat d3) ⟨_, rfl, q3⟩, k1, k2⟩⟩
end
end DL

namespace DL
open PySem PySem.Spec PyProof.Rows L2 MA
section
variable {X : Cx} {o : WO} {H0 : Hp} {ρ : List Sl} {e a b iter : Expr} {es : List Expr} {pos p : Pos} {Φ Φa Φb : PyData → Prop} {x y : Str} {sts rest body : List Stmt} {Nx : List Sl → Prop} {Rt : PyData → Prop} {Ψ : Bool → Prop}
/-- the sum of two lists is a list of which nobody has heard -/
theorem evn_catL {ds es' : List PyData} (ha : EVd X o H0 ρ a (.list ds)) (hb : EVd X o H0 ρ b (.list es')) (hl : ds.length + es'.length ≤ sizeLine) : EVn X o H0 ρ (.BinOp a .Add b pos) (ds ++ es') :=
  PE.imp (pe_op op_catS ha hb) fun σ H Q ⟨g, sl, k⟩ => ⟨g, sl, fun v H1 d hd g1 p1 => ⟨Gr.trans g g1, sl.mono g1, fun u H2 d2 hd2 g2 p2 => by
    subst hd hd2
    obtain ⟨q, xs, rfl, hs, hp⟩ := (g2.dp _ _ p1).lst_inv
    obtain ⟨r, ys, rfl, hs', hp'⟩ := p2.lst_inv
    refine ⟨q, r, xs, ys, rfl, rfl, hs, hs', by rw [hp.length, hp'.length]; exact hl, fun t ht => ?_⟩
    have g12 := Gr.trans g1 g2
    exact k t _ _ (Gr.trans g12 (Gr.same (Same.upd_new ht))) (g12.free ht) upd_same (Gr.dpAll (o := none) (Same.upd_new ht) _ _ (hp.append hp'))⟩⟩
/-- x = a new list, to be filled -/
theorem sv_setN (i : Nat) {pos' : Pos} {ds : List PyData} (hN : X.N.Nodup) (h : EVn X o H0 ρ e ds) (hk : ∀ l, SVs X o H0 (ρ.set i (.mtl l ds)) rest Nx Rt) (hi : X.N[i]? = some x := by rfl) (hx : Loc X.env.scope x := by first | exact Or.inl rfl | exact Or.inr rfl)
    (hs : swapsWith e (some (.Name x pos')) pos.line X.env = pure false := by rfl) (hf : X.fn x = true ∨ X.env.scope.names.lookup x = some .local := by first | exact .inl rfl | exact .inr rfl) : SVs X o H0 ρ (.Assign [.Name x pos'] e pos :: rest) Nx Rt :=
  sv_seq (ps_set hN hi hx h hs hf) (fun (l : Addr) (_ : True) => hk l) fun D σ H ⟨en, g, sl, k1, k2⟩ => ⟨g, sl, fun r H1 xs g1 hr hr1 p1 => ⟨r, trivial, en, Gr.trans g g1, (sl.mono g1).set (s := .mtl r ds) ⟨rfl, g.free hr, xs, hr1, p1⟩, k1, k2⟩⟩
/-- x.extend(a new list) -/
theorem sv_extend (i : Nat) {l : Addr} {ds es' : List PyData} {apos cpos xpos : Pos} (hρ : ρ[i]? = some (.mtl l ds)) (hf : firmBut i ρ = true) (hds : lfreeAll ds = true) (hes : lfreeAll es' = true) (hlen : ds.length + es'.length ≤ sizeLine) (h : EVn X o H0 ρ e es')
    (hk : SVs X o H0 (ρ.set i (.mtl l (ds ++ es'))) rest Nx Rt) (hN : X.N[i]? = some x := by rfl) (hv : Vis X.env.scope x := by first | exact Or.inl rfl | exact Or.inr (Or.inl rfl) | exact Or.inr (Or.inr rfl)) (hdb : (x == ("__debug__" : Str)) = false := by decide)
    (hcd : (x == ("__classdict__" : Str)) = false := by decide)
    (hbase : attributeBase (.Name x xpos) "extend" X.env (eval (.Name x xpos) X.env) = eval (.Name x xpos) X.env := by rfl)
    (hfew : ((backTo cpos (starEach (e :: []) X.env)).all (fun x => !x.1) && (backToKw cpos (keywordEach [] X.env)).all (fun x => x.1.isSome)
      && decide ((e :: []).length + ([] : List Keyword).length + (if ([] : List Keyword).isEmpty then 0 else 1) < 30)) = true := by rfl)
    (hline : (apos.endLine == cpos.line) = true := by rfl) (hs : starEach (e :: []) X.env = (false, eval e X.env) :: starEach [] X.env := by rfl) (hplain : (backTo cpos (starEach [] X.env)).any (·.1) = false := by rfl)
    (hsw : swapsWith (.Call (.Attribute (.Name x xpos) "extend" apos) [e] [] cpos) none pos.line X.env = pure false := by rfl) :
    SVs X o H0 ρ (.Expr (.Call (.Attribute (.Name x xpos) "extend" apos) [e] [] cpos) pos :: rest) Nx Rt := by
  refine sv_seq (ps_expr (pe_bm PySem.F.plainAttrs_list PySem.F.slot_list_extend PySem.F.type_list_extend mt_extend (pv i hN hv hdb hcd) (pa_cons h pa_nil hs) hbase hfew hline hs hplain) hsw) (fun (_ : Unit) (_ : True) => hk) ?_
  intro D σ H ⟨en, g, sl, k1, k2⟩
  obtain ⟨q, h1, h2⟩ := sl.get hρ
  obtain ⟨rfl, h0, vs, hl, hp⟩ := h2
  refine ⟨_, h1, .inl ⟨rfl, _, SqL.of hl⟩, g, sl, fun r H1 xs g1 hr hr1 p1 => ?_⟩
  have hl1 := g1.keep hl rfl
  refine ⟨l, r, vs, xs, rfl, rfl, hl1, hr1, by rw [hp.length, p1.length]; exact hlen, (), trivial, en, (Gr.trans g g1).setL h0, ?_, k1, k2⟩
  refine Slots.setL h0 hl1 ?_ hf hρ (sl.mono g1)
  exact (DpAll.setL hl1 ds vs hds (g1.dpAll _ _ hp)).append (DpAll.setL hl1 es' xs hes p1)
/-- [e for x in range(a, b)] -/
theorem evn_mapR2 {elt tg a b : Expr} {scope : Scope} {i : Nat} {pr p : Pos} {lo hi : Int} {es' : List PyData} (nd : X.N.Nodup) (calm : X.calm = true) (ok : BlkOk X.N X.env.scope scope [(x, i)])
    (hg : ∀ (s : Shared) (H : Hp) (C : Addr) (cl : List (Str × Addr)) (fp : List Addr), PG (blkX X scope s H C cl fp) tg (gName i)) (hm : X.mg "range" = none) (ha : EAd X o H0 ρ [a, b] [.int lo, .int hi])
    (hbd : -(2 ^ 62) ≤ lo ∧ lo < 2 ^ 62 ∧ -(2 ^ 62) ≤ hi ∧ hi < 2 ^ 62) (hle : es'.length = (hi - lo).toNat) (hl : es'.length ≤ sizeLine) (hf : lfreeAll es' = true)
    (he : ∀ (s : Shared) (H : Hp) (C : Addr) (cl : List (Str × Addr)) (fp : List Addr) (H1 : Hp) (k : Nat) (e : PyData), k < (hi - lo).toNat → es'[k]? = some e → EVd (blkX X scope s H C cl fp) o H1 (rhoC ρ i (.int (lo + k))) elt e)
    (hgl : Gl X "range" := by rfl) (hs1 : starEach [a, b] X.env = [(false, eval a X.env), (false, eval b X.env)] := by rfl) (hs2 : starEach [b] X.env = [(false, eval b X.env)] := by rfl)
    (hs : ∀ x, foldedSetIterable (.Call (.Name "range" pr) [a, b] [] p) X.env x = pure x := by intro _; rfl) :
    EVn X o H0 ρ (.ListComp elt [⟨tg, .Call (.Name "range" pr) [a, b] [] p, [], 0⟩] scope pos) es' := by
  have A : LcArgs X o ρ i x tg elt [] scope (rgD lo (hi - lo).toNat) (fun k d => es'[k]? = some d) (fun _ b => b = true) := lcArgs0 nd calm ok hg (fun s H C cl fp H1 k d hd => by
    have hk : k < (hi - lo).toNat := by have := (List.getElem?_eq_some_iff.mp hd).1; rw [rgD_len] at this; exact this
    rw [rgD_get hk] at hd
    cases hd
    have h1 : k < es'.length := by omega
    exact ev_imp (he s H C cl fp H1 k (es'[k]'h1) hk (List.getElem?_eq_getElem h1)) (fun d' e' => by rw [e']; exact List.getElem?_eq_getElem h1))
  refine PE.imp (pe_lc A.calm A.nd (pi_range2 hgl hm ha hs1 hs2) A.ok A.hg A.ht A.pe hs) fun σ H Q ⟨g, sl, k⟩ => ⟨g, sl, fun vs H1 ds hds g1 p1 => ?_⟩
  subst hds
  cases p1 with
  | cons q1 q2 =>
    cases q2 with
    | cons q2 q3 =>
      cases q3; cases q1.int_inv; cases q2.int_inv
      refine ⟨lo, hi, rfl, hbd, fun D hD => lc_range (lcPv X.K o H1 D (fun k es => es = es'.take k)) ⟨Gr.same (Same.upd_new hD), [], [], upd_same, .nil, rfl, Nat.le_refl _, rfl⟩ (fun m H hm pv => ?_) (fun H pv => ?_)⟩
      · exact lc_turn hD (Gr.trans g g1) (sl.mono g1) (by rw [rgD_len]; omega) (fun k d hd => lfree_get hf hd) (fun n es e d hd hJ _ hm => by rw [hJ, List.take_succ, hm]; rfl) (fun n es d hd hJ h => by cases h) (rgD_get hm) (.int _) pv
      · obtain ⟨gH, vs, es, hD2, hps, hfs, hle2, hJ⟩ := pv
        rw [← hle, List.take_length] at hJ
        subst hJ
        exact k D H vs (Gr.trans g1 gH) (g1.free hD) hD2 hps
theorem EVn.ev {ds : List PyData} (h : EVn X o H0 ρ e ds) : EVd X o H0 ρ e (.list ds) :=
  PE.imp h fun σ H Q ⟨g, sl, k⟩ => ⟨g, sl, fun r H' xs g1 _ hr p1 => k (.ref r) H' _ rfl g1 (.lst (SqL.of hr) p1)⟩
end
end DL

namespace DL
open PySem PySem.Spec PyProof.Rows L2 MA
section
variable {P : Program} {w : World} {K : PySem.W.Frag} {mg : Str → Option Value} {base : Heap}
theorem pow_lt {p n : Nat} (h : p < n) : ((2 : Int) ^ p).natAbs < 2 ^ n := by
  have e : ((2 : Int) ^ p).natAbs = 2 ^ p := by rw [Int.natAbs_pow]; rfl
  rw [e]; exact Nat.pow_lt_pow_right (by decide) h
/-! all finite numbers -/
def blk (F : Fmt) (e : Int) : List Num := (List.range (2 ^ (F.p - 1))).map fun (k : Nat) => .number 0 (2 ^ (F.p - 1) + (k : Int)) e
def fin1 (F : Fmt) : List Num := (List.range (2 ^ F.p - 1)).map fun (k : Nat) => .number 0 (1 + (k : Int)) F.lo
def finU (F : Fmt) : Nat → List Num
  | 0 => .nothing 0 :: fin1 F
  | n + 1 => finU F n ++ blk F (F.lo + 1 + n)
theorem blk_len (F : Fmt) (e : Int) : (blk F e).length = 2 ^ (F.p - 1) := by unfold blk; rw [List.length_map, List.length_range]
theorem fin1_len (F : Fmt) : (fin1 F).length = 2 ^ F.p - 1 := by unfold fin1; rw [List.length_map, List.length_range]
theorem finU_len (F : Fmt) : ∀ n, (finU F n).length = 2 ^ F.p + n * 2 ^ (F.p - 1)
  | 0 => by show (fin1 F).length + 1 = _; rw [fin1_len]; have := Nat.pow_pos (n := F.p) (show 0 < 2 by decide); omega
  | n + 1 => by show (finU F n ++ blk F _).length = _; rw [List.length_append, finU_len F n, blk_len, Nat.succ_mul]; omega
theorem blk_get {F : Fmt} {e : Int} {k : Nat} {n : Num} (h : (blk F e)[k]? = some n) : n = .number 0 (2 ^ (F.p - 1) + (k : Int)) e := by
  have hk : k < 2 ^ (F.p - 1) := by have := (List.getElem?_eq_some_iff.mp h).1; rw [blk_len] at this; exact this
  unfold blk at h
  rw [List.getElem?_map, List.getElem?_range hk] at h
  exact (Option.some.inj h).symm
theorem fin1_get {F : Fmt} {k : Nat} {n : Num} (h : (fin1 F)[k]? = some n) : n = .number 0 (1 + (k : Int)) F.lo := by
  have hk : k < 2 ^ F.p - 1 := by have := (List.getElem?_eq_some_iff.mp h).1; rw [fin1_len] at this; exact this
  unfold fin1 at h
  rw [List.getElem?_map, List.getElem?_range hk] at h
  exact (Option.some.inj h).symm
theorem two_half {p : Nat} (h : 1 ≤ p) : 2 ^ p = 2 * 2 ^ (p - 1) := by rw [← Nat.pow_succ']; congr 1; omega
theorem finU_nb {F : Fmt} (hp : 1 ≤ F.p) (hp6 : F.p ≤ 6) (hlo : F.lo.natAbs ≤ 100) : ∀ {n : Nat}, n ≤ 100 → ∀ x ∈ finU F n, Nb x ∧ x.fin = true := by
  have l6 : 2 ^ F.p ≤ 2 ^ 6 := Nat.pow_le_pow_right (by decide) hp6
  have l6' : 2 ^ (F.p - 1) ≤ 2 ^ 6 := Nat.pow_le_pow_right (by decide) (by omega)
  have e1 := two_pow_nat (F.p - 1)
  have l80 : (2 : Nat) ^ 6 + 2 ^ 6 < 2 ^ 80 := by decide
  intro n
  induction n with
  | zero =>
    intro _ x hx
    rcases List.mem_cons.mp hx with rfl | hx
    · exact ⟨.inl rfl, rfl⟩
    · obtain ⟨k, hk⟩ := List.getElem?_of_mem hx
      have hk2 : k < 2 ^ F.p - 1 := by have := (List.getElem?_eq_some_iff.mp hk).1; rw [fin1_len] at this; exact this
      rw [fin1_get hk]
      exact ⟨⟨.inl rfl, by show (1 + (k : Int)).natAbs < 2 ^ 80; omega, by omega⟩, rfl⟩
  | succ n ih =>
    intro hn x hx
    rcases List.mem_append.mp hx with hx | hx
    · exact ih (by omega) x hx
    · obtain ⟨k, hk⟩ := List.getElem?_of_mem hx
      have hk2 : k < 2 ^ (F.p - 1) := by have := (List.getElem?_eq_some_iff.mp hk).1; rw [blk_len] at this; exact this
      rw [blk_get hk]
      exact ⟨⟨.inl rfl, by show (2 ^ (F.p - 1) + (k : Int)).natAbs < 2 ^ 80; omega, by omega⟩, rfl⟩
theorem small_fin {F : Fmt} (hp6 : F.p ≤ 6) {n : Nat} (hn : n ≤ 10) : 2 ^ F.p + n * 2 ^ (F.p - 1) ≤ 1000 := by
  have l6 : 2 ^ F.p ≤ 2 ^ 6 := Nat.pow_le_pow_right (by decide) hp6
  have l6' : 2 ^ (F.p - 1) ≤ 2 ^ 5 := Nat.pow_le_pow_right (by decide) (by omega)
  have := Nat.mul_le_mul hn l6'
  omega
abbrev finN : List Str := ["form", "digits", "least", "greatest", "found", "own", "power"]
end
end DL

namespace DL
open PySem PySem.Spec PyProof.Rows L2 MA
section
variable {P : Program} {w : World} {K : PySem.W.Frag} {mg : Str → Option Value} {base : Heap}
theorem intBits_le {i : Int} {n : Nat} (h : i.natAbs < 2 ^ n) (hn : 0 < n) : (Builtin.Int.intBits i : Int) ≤ n := by
  unfold Builtin.Int.intBits
  split
  · omega
  · have := log2_lt h hn; omega
/-- i << j, both small -/
theorem ev_shlS {X : Cx} {o : WO} {H0 : Hp} {ρ : List Sl} {a b : Expr} {pos : Pos} {i j : Int} {n : Nat} (ha : EVd X o H0 ρ a (.int i)) (hb : EVd X o H0 ρ b (.int j)) (e : j = n) (hn : n ≤ 1000) (hi : i.natAbs < 2 ^ 1000) : EVd X o H0 ρ (.BinOp a .LShift b pos) (.int (i * 2 ^ n)) := by
  subst e
  refine ev_eq (ev_shl ha hb ⟨Int.natCast_nonneg n, ?_⟩) (by rw [Int.toNat_natCast])
  have := intBits_le hi (by decide)
  omega
/-- n >> j -/
theorem ev_shrN {X : Cx} {o : WO} {H0 : Hp} {ρ : List Sl} {a b : Expr} {pos : Pos} {w : Nat} {j : Int} {n : Nat} (ha : EVd X o H0 ρ a (.int (w : Int))) (hb : EVd X o H0 ρ b (.int j)) (e : j = n) : EVd X o H0 ρ (.BinOp a .RShift b pos) (.int ((w / 2 ^ n : Nat) : Int)) := by
  subst e
  exact ev_eq (ev_shr ha hb (Int.natCast_nonneg n)) (by rw [Int.toNat_natCast, two_pow_nat, Int.natCast_ediv])
theorem mask1 (W : Nat) : Builtin.bitAnd (W : Int) 1 = ((W % 2 : Nat) : Int) := by
  have h := mask_nat W 1
  rw [show (2 : Int) ^ 1 - 1 = 1 by decide] at h
  rw [h, Nat.pow_one]
inductive R_form_for : List PyData → PyData → Prop
  | mk {p wd : Nat} (hp : p ≤ 100) (h1 : 1 ≤ wd) (h2 : wd ≤ 100) : R_form_for [.int p, .int wd] (formW p wd).d
theorem ok_form_for (h : Has K mg "form_for" s_form_for) : Ok P w K mg base 1 "form_for" ["digits", "wide"] (spF K R_form_for) := by
  refine okF h sc_form_for (fun _ _ _ _ _ _ us hl => match us, hl with | [_, _], _ => rfl) (fun ds d h => by cases h; rfl) fun f cdv A outer st H E hr ds d h => ?_
  obtain @⟨p, wd, hp, h1, h2⟩ := h
  have N := sc_form_for.nd
  refine sv_setd 2 N (ev_sub (shl1 (n := wd - 1) ev_int (ev_sub (ev_name 1) ev_int) (by omega) (by omega)) ev_int) ?_
  refine sv_setd 3 N (ev_eq (ev_sub (ev_sub ev_int (ev_name 2)) (ev_name 0)) (show _ = PyData.int (loW p wd) from rfl)) ?_
  exact sv_retd (ev_tupd (ea_consd (ev_name 0) (ea_consd (ev_name 3) (ea_consd (ev_sub (ev_add (ev_name 3) (shl1 (n := wd) ev_int (ev_name 1) rfl (by omega))) ev_int) ea_nil)))) rfl
inductive R_width_of : List PyData → PyData → Prop
  | mk {p wd : Int} : R_width_of [.int p, .int wd] (.int (p + wd))
theorem ok_width_of (h : Has K mg "width_of" s_width_of) : Ok P w K mg base 1 "width_of" ["digits", "wide"] (spF K R_width_of) := by
  refine okF h sc_width_of (fun _ _ _ _ _ _ us hl => match us, hl with | [_, _], _ => rfl) (fun ds d h => by cases h; rfl) fun f cdv A outer st H E hr ds d h => ?_
  obtain @⟨p, wd⟩ := h
  exact sv_retd (ev_add (ev_name 0) (ev_name 1)) rfl
inductive R_all_words : List PyData → PyData → Prop
  | mk {p wd : Nat} (hp : p + wd ≤ 1000) : R_all_words [.int p, .int wd] (.int (2 ^ (p + wd)))
theorem ok_all_words (h : Has K mg "all_words" s_all_words) : Ok P w K mg base 1 "all_words" ["digits", "wide"] (spF K R_all_words) := by
  refine okF h sc_all_words (fun _ _ _ _ _ _ us hl => match us, hl with | [_, _], _ => rfl) (fun ds d h => by cases h; rfl) fun f cdv A outer st H E hr ds d h => ?_
  obtain @⟨p, wd, hp⟩ := h
  exact sv_retd (shl1 (n := p + wd) ev_int (ev_add (ev_name 0) (ev_name 1)) (by omega) (by omega)) rfl
inductive R_parts_of_word : List PyData → PyData → Prop
  | mk {p wd v : Nat} (h1 : 1 ≤ p) (hp : p + wd ≤ 1000) : R_parts_of_word [.int p, .int wd, .int v] (.tuple [.int (sgW p wd v : Nat), .int (pwW p wd v : Nat), .int (rsW p v : Nat)])
theorem ok_parts_of_word (h : Has K mg "parts_of_word" s_parts_of_word) : Ok P w K mg base 1 "parts_of_word" ["digits", "wide", "word"] (spF K R_parts_of_word) := by
  refine okF h sc_parts_of_word (fun _ _ _ _ _ _ us hl => match us, hl with | [_, _, _], _ => rfl) (fun ds d h => by cases h; rfl) fun f cdv A outer st H E hr ds d h => ?_
  obtain @⟨p, wd, v, h1, hp⟩ := h
  have N := sc_parts_of_word.nd
  refine sv_setd 3 N (ev_eq (ev_sub (ev_name 0) ev_int) (show _ = PyData.int ((p - 1 : Nat) : Int) from congrArg PyData.int (by omega))) ?_
  exact sv_retd (ev_tupd (ea_consd (ev_eq (ev_and_ (ev_shrN (n := p - 1 + wd) (ev_name 2) (ev_add (ev_name 3) (ev_name 1)) (by omega)) ev_int) (congrArg PyData.int (mask1 _)))
    (ea_consd (ev_eq (ev_and_ (ev_shrN (n := p - 1) (ev_name 2) (ev_name 3) rfl) (ev_sub (shl1 (n := wd) ev_int (ev_name 1) rfl (by omega)) ev_int)) (congrArg PyData.int (mask_nat _ _)))
    (ea_consd (ev_eq (ev_and_ (ev_name 2) (ev_sub (shl1 (n := p - 1) ev_int (ev_name 3) rfl (by omega)) ev_int)) (congrArg PyData.int (mask_nat _ _))) ea_nil)))) rfl
inductive R_number_of_word : List PyData → PyData → Prop
  | mk {p wd v : Nat} (h1 : 1 ≤ p) (hp : p + wd ≤ 100) (hw : 1 ≤ wd) : R_number_of_word [.int p, .int wd, .int v] (numW p wd v).d
theorem ok_number_of_word (h : Has K mg "number_of_word" s_number_of_word) (c_form_for : Ok P w K mg base 1 "form_for" ["digits", "wide"] (spF K R_form_for)) (c_parts_of_word : Ok P w K mg base 1 "parts_of_word" ["digits", "wide", "word"] (spF K R_parts_of_word)) : Ok P w K mg base 2 "number_of_word" ["digits", "wide", "word"] (spF K R_number_of_word) := by
  refine okF h sc_number_of_word (fun _ _ _ _ _ _ us hl => match us, hl with | [_, _, _], _ => rfl) (fun ds d h => by cases h; rfl) fun f cdv A outer st H E hr ds d h => ?_
  obtain @⟨p, wd, v, h1, hp, hw⟩ := h
  have N := sc_number_of_word.nd
  refine sv_unpd [3, 4, 5] rfl N (ev_calld c_parts_of_word (hr.mono (by decide)) (ea_consd (ev_name 0) (ea_consd (ev_name 1) (ea_consd (ev_name 2) ea_nil))) (.mk h1 (by omega))) rfl ?_ gns3
  refine sv_pard 6 7 rfl N (ea_consd (ev_sub (shl1 (n := wd) ev_int (ev_name 1) rfl (by omega)) ev_int) (ea_consd (shl1 (n := p - 1) ev_int (ev_sub (ev_name 0) ev_int) (by omega) (by omega)) ea_nil)) ?_
  refine sv_ifr (tv_eqI (ev_name 4) (ev_name 6)) (fun c1 => ?_) (fun c1 => ?_)
  · refine sv_retd (ev_ifd (tv_eqI (ev_name 5) ev_int) (fun _ => ev_tupd (ea_consd ev_str (ea_consd (ev_name 3) ea_nil))) (fun _ => ev_tupd (ea_consd ev_str ea_nil))) ?_
    unfold numW
    rw [if_pos (of_decide_eq_true c1)]
    by_cases c : ((rsW p v : Nat) : Int) = 0
    · rw [if_pos c, decide_eq_true c]; rfl
    · rw [if_neg c, decide_eq_false c]; rfl
  · refine sv_setd 8 N (ev_item 1 (ev_calld c_form_for (hr.mono (by decide)) (ea_consd (ev_name 0) (ea_consd (ev_name 1) ea_nil)) (.mk (by omega) (by omega) (by omega))) ev_int) ?_
    refine sv_ifr (tv_eqI (ev_name 4) ev_int) (fun c2 => ?_) (fun c2 => ?_)
    · refine sv_retd (ev_ifd (tv_gt (ev_name 5) ev_int) (fun _ => ev_tupd (ea_consd ev_str (ea_consd (ev_name 3) (ea_consd (ev_name 5) (ea_consd (ev_name 8) ea_nil))))) (fun _ => ev_tupd (ea_consd ev_str (ea_consd (ev_name 3) ea_nil)))) ?_
      unfold numW
      rw [if_neg (of_decide_eq_false c1), if_pos (of_decide_eq_true c2)]
      by_cases c : 0 < ((rsW p v : Nat) : Int)
      · rw [if_pos c, decide_eq_true c]; rfl
      · rw [if_neg c, decide_eq_false c]; rfl
    · refine sv_retd (ev_tupd (ea_consd ev_str (ea_consd (ev_name 3) (ea_consd (ev_add (ev_name 5) (ev_name 7)) (ea_consd (ev_sub (ev_add (ev_name 8) (ev_name 4)) ev_int) ea_nil))))) ?_
      unfold numW
      rw [if_neg (of_decide_eq_false c1), if_neg (of_decide_eq_false c2)]; rfl
inductive R_word_of : List PyData → PyData → Prop
  | mk {p wd : Nat} {n : Num} (h1 : 1 ≤ p) (hp : p + wd ≤ 100) (hw : 1 ≤ wd) (h : Nb n) (h0 : n ≠ .none) : R_word_of [.int p, .int wd, n.d] (.int (wordW p wd n))
theorem ok_word_of (h : Has K mg "word_of" s_word_of) (c_form_for : Ok P w K mg base 1 "form_for" ["digits", "wide"] (spF K R_form_for)) : Ok P w K mg base 2 "word_of" ["digits", "wide", "number"] (spF K R_word_of) := by
  refine okF h sc_word_of (fun _ _ _ _ _ _ us hl => match us, hl with | [_, _, _], _ => rfl) (fun ds d h => by cases h; rfl) fun f cdv A outer st H E hr ds d h => ?_
  obtain @⟨p, wd, n, h1, hp, hw, hn, h0⟩ := h
  have N := sc_word_of.nd
  have big1 {x : Nat} (h : x ≤ 100) : ((2 : Int) ^ x).natAbs < 2 ^ 1000 := pow_lt (by omega)
  have fullb : ((2 : Int) ^ wd - 1).natAbs < 2 ^ 1000 := by
    have e := two_pow_nat wd
    have := big1 (show wd ≤ 100 by omega)
    have : 0 < 2 ^ wd := Nat.pow_pos (by decide)
    omega
  have sgb {s : Int} (h : s = 0 ∨ s = 1) : s.natAbs < 2 ^ 1000 := by
    have : (2 : Nat) ≤ 2 ^ 1000 := by decide
    omega
  refine sv_setd 3 N (ev_sub (shl1 (n := wd) ev_int (ev_name 1) rfl (by omega)) ev_int) ?_
  cases n with
  | none => exact absurd rfl h0
  | nothing s =>
    refine sv_ifr (tv_eqS (ev_item 0 (ev_eq (ev_name 2) (Num.d0 (.nothing s))) ev_int) ev_str) (fun c => absurd c (by show ¬ decide (("nothing" : Str) = "none") = true; decide +kernel)) (fun _ => ?_)
    refine sv_setd 4 N (ev_shlS (n := p + wd - 1) (ev_item 1 (ev_name 2) ev_int) (ev_sub (ev_add (ev_name 0) (ev_name 1)) ev_int) (by omega) (by omega) (sgb hn)) ?_
    refine sv_ifr (tv_eqS (ev_item 0 (ev_eq (ev_name 2) (Num.d0 (.nothing s))) ev_int) ev_str) (fun _ => sv_retd (ev_name 4) rfl) (fun c => absurd c (by show ¬ decide (("nothing" : Str) = "nothing") = false; decide +kernel))
  | endless s =>
    refine sv_ifr (tv_eqS (ev_item 0 (ev_eq (ev_name 2) (Num.d0 (.endless s))) ev_int) ev_str) (fun c => absurd c (by show ¬ decide (("endless" : Str) = "none") = true; decide +kernel)) (fun _ => ?_)
    refine sv_setd 4 N (ev_shlS (n := p + wd - 1) (ev_item 1 (ev_name 2) ev_int) (ev_sub (ev_add (ev_name 0) (ev_name 1)) ev_int) (by omega) (by omega) (sgb hn)) ?_
    refine sv_ifr (tv_eqS (ev_item 0 (ev_eq (ev_name 2) (Num.d0 (.endless s))) ev_int) ev_str) (fun c => absurd c (by show ¬ decide (("endless" : Str) = "nothing") = true; decide +kernel)) (fun _ => ?_)
    refine sv_ifr (tv_eqS (ev_item 0 (ev_eq (ev_name 2) (Num.d0 (.endless s))) ev_int) ev_str) (fun _ => sv_retd (ev_add (ev_name 4) (ev_shlS (n := p - 1) (ev_name 3) (ev_sub (ev_name 0) ev_int) (by omega) (by omega) fullb)) rfl) (fun c => absurd c (by show ¬ decide (("endless" : Str) = "endless") = false; decide +kernel))
  | number s m e =>
    refine sv_ifr (tv_eqS (ev_item 0 (ev_eq (ev_name 2) (Num.d0 (.number s m e))) ev_int) ev_str) (fun c => absurd c (by show ¬ decide (("number" : Str) = "none") = true; decide +kernel)) (fun _ => ?_)
    refine sv_setd 4 N (ev_shlS (n := p + wd - 1) (ev_item 1 (ev_name 2) ev_int) (ev_sub (ev_add (ev_name 0) (ev_name 1)) ev_int) (by omega) (by omega) (sgb hn.1)) ?_
    refine sv_ifr (tv_eqS (ev_item 0 (ev_eq (ev_name 2) (Num.d0 (.number s m e))) ev_int) ev_str) (fun c => absurd c (by show ¬ decide (("number" : Str) = "nothing") = true; decide +kernel)) (fun _ => ?_)
    refine sv_ifr (tv_eqS (ev_item 0 (ev_eq (ev_name 2) (Num.d0 (.number s m e))) ev_int) ev_str) (fun c => absurd c (by show ¬ decide (("number" : Str) = "endless") = true; decide +kernel)) (fun _ => ?_)
    refine sv_setd 5 N (ev_item 1 (ev_calld c_form_for (hr.mono (by decide)) (ea_consd (ev_name 0) (ea_consd (ev_name 1) ea_nil)) (.mk (by omega) (by omega) (by omega))) ev_int) ?_
    refine sv_setd 6 N (shl1 (n := p - 1) ev_int (ev_sub (ev_name 0) ev_int) (by omega) (by omega)) ?_
    have lob : (e - loW p wd + 1).natAbs < 2 ^ 1000 := by
      have h3 : e.natAbs < 210 := hn.2.2
      have e2 := two_pow_nat (wd - 1)
      have b2 : 2 ^ (wd - 1) < 2 ^ 200 := Nat.pow_lt_pow_right (by decide) (by omega)
      have b3 : (2 : Nat) ^ 200 + 2 ^ 200 < 2 ^ 1000 := by decide
      have b4 : (1000 : Nat) < 2 ^ 200 := by decide
      unfold loW
      rw [e2]
      obtain ⟨c, hc⟩ : ∃ c : Nat, 2 ^ (wd - 1) = c := ⟨_, rfl⟩
      rw [hc] at b2 ⊢
      obtain ⟨B, hB⟩ : ∃ B : Nat, 2 ^ 1000 = B := ⟨_, rfl⟩
      obtain ⟨C, hC⟩ : ∃ C : Nat, 2 ^ 200 = C := ⟨_, rfl⟩
      rw [hC] at b2 b3 b4
      rw [hB] at b3 ⊢
      omega
    refine sv_ifr (tv_lt (ev_item 2 (ev_name 2) ev_int) (ev_name 6)) (fun c => ?_) (fun c => ?_)
    · exact sv_retd (ev_add (ev_name 4) (ev_item 2 (ev_name 2) ev_int)) (by show _ = PyData.int (if _ then _ else _); rw [if_pos (of_decide_eq_true c)])
    · exact sv_retd (ev_sub (ev_add (ev_add (ev_name 4) (ev_shlS (n := p - 1) (ev_add (ev_sub (ev_item 3 (ev_name 2) ev_int) (ev_name 5)) ev_int) (ev_sub (ev_name 0) ev_int) (by omega) (by omega) lob)) (ev_item 2 (ev_name 2) ev_int)) (ev_name 6)) (by show _ = PyData.int (if _ then _ else _); rw [if_neg (of_decide_eq_false c)])
inductive R_key_of_word : List PyData → PyData → Prop
  | mk {p wd v : Nat} (h1 : 1 ≤ p) (hp : p + wd ≤ 100) (hv : v < 2 ^ (p + wd - 1)) : R_key_of_word [.int p, .int wd, .int v] (.int v)
theorem ok_key_of_word (h : Has K mg "key_of_word" s_key_of_word) : Ok P w K mg base 1 "key_of_word" ["digits", "wide", "word"] (spF K R_key_of_word) := by
  refine okF h sc_key_of_word (fun _ _ _ _ _ _ us hl => match us, hl with | [_, _, _], _ => rfl) (fun ds d h => by cases h; rfl) fun f cdv A outer st H E hr ds d h => ?_
  obtain @⟨p, wd, v, h1, hp, hv⟩ := h
  have N := sc_key_of_word.nd
  refine sv_setd 3 N (ev_eq (ev_and_ (ev_name 2) (ev_sub (shl1 (n := p + wd - 1) ev_int (ev_sub (ev_add (ev_name 0) (ev_name 1)) ev_int) (by omega) (by omega)) ev_int)) (show _ = PyData.int (v : Int) from congrArg PyData.int (by rw [mask_nat, Nat.mod_eq_of_lt hv]))) ?_
  refine sv_retd (ev_ifd (tv_eqI (ev_eq (ev_and_ (ev_shrN (n := p + wd - 1) (ev_name 2) (ev_sub (ev_add (ev_name 0) (ev_name 1)) ev_int) (by omega)) ev_int) (congrArg PyData.int (mask1 _))) ev_int) (fun _ => ev_neg (ev_name 3)) (fun _ => ev_name 3)) ?_
  rw [Nat.div_eq_of_lt hv]; rfl
end
end DL

namespace DL
open PySem PySem.Spec PyProof.Rows L2 MA

section
variable {P : Program} {w : World} {K : PySem.W.Frag} {mg : Str → Option Value} {base : Heap}
theorem ev_sortedI {X : Cx} {o : WO} {H0 : Hp} {ρ : List Sl} {e : Expr} {p pos : Pos} {ns : List Int} (hm : X.mg "sorted" = none) (ha : EVd X o H0 ρ e (.list (ns.map .int))) (hs : ns.Pairwise (· ≤ ·)) (h64 : ns.length < 64)
    (hg : Gl X "sorted" := by rfl) (he : starEach [e] X.env = (false, eval e X.env) :: starEach [] X.env := by rfl) (hpl : (backTo pos (starEach [] X.env)).any (·.1) = false := by rfl) : EVd X o H0 ρ (.Call (.Name "sorted" p) [e] [] pos) (.list (ns.map .int)) :=
  PE.imp (pe_callB cr_sorted hg hm (by decide +kernel) (ea_consd ha ea_nil he) (by decide) (by decide) he hpl) fun σ H Q ⟨g, sl, q⟩ => ⟨g, sl, fun vs H1 ds hds g1 p1 => by
    subst hds
    cases p1 with
    | cons h1 h2 =>
      cases h2
      obtain ⟨r, xs, rfl, hs', hp⟩ := h1.lst_inv
      cases ints_of hp
      exact ⟨r, ns, rfl, hs', h64, fun ns' p hperm hpw hfree => by
        have e := sorted_eq hperm hpw hs
        subst e
        exact q _ _ _ rfl (Gr.trans g1 (Gr.same (Same.upd_new hfree))) (.lst (SqL.of upd_same) (dp_ints _))⟩⟩
theorem ev_lenSetI {X : Cx} {o : WO} {H0 : Hp} {ρ : List Sl} {e : Expr} {p p2 q pos : Pos} {ns : List Int} (hm : X.mg "len" = none) (hm2 : X.mg "set" = none) (hc : X.calm = true) (ha : EVd X o H0 ρ e (.list (ns.map .int))) (hnd : ns.Nodup) (hl : ns.length ≤ 4000)
    (hg : Gl X "len" := by rfl) (hg2 : Gl X "set" := by rfl) (he : starEach [e] X.env = (false, eval e X.env) :: starEach [] X.env := by rfl) : EVd X o H0 ρ (.Call (.Name "len" p) [.Call (.Name "set" p2) [e] [] q] [] pos) (.int (ns.length : Nat)) :=
  PE.imp (RZ.pe_lenSetI hg hm hg2 hm2 ha hc he) fun σ H Q ⟨g, sl, k⟩ => ⟨g, sl, fun v H1 d hd g1 p1 => by
    subst hd
    obtain ⟨r, xs, rfl, hs', hp⟩ := p1.lst_inv
    cases ints_of hp
    exact ⟨r, ns, rfl, hs', hnd, hl, k _ _ _ rfl g1 (.int _)⟩⟩
/-- x = [e for y in range(n) if c] on one line -/
theorem sv_setLcR1F {X : Cx} {o : WO} {H0 : Hp} {ρ : List Sl} {elt tg a c : Expr} {scope : Scope} {x y : Str} {i : Nat} {pr p pos spos py : Pos} {rest : List Stmt} {Nx : List Sl → Prop} {Rt : PyData → Prop} (iy : Nat) {hi : Int} {Φ : Nat → PyData → Prop} {t : Nat → Bool → Prop} {J : Nat → List PyData → Prop} (A : LcArgs X o ρ i x tg elt [c] scope (rgD 0 hi.toNat) Φ t) (hm : X.mg "range" = none) (ha : EVd X o H0 ρ a (.int hi))
    (hbd : -(2 ^ 62) ≤ hi ∧ hi < 2 ^ 62) (hl : (rgD 0 hi.toNat).length ≤ sizeLine) (hf : ∀ n d, Φ n d → lfree d = true) (j0 : J 0 [])
    (hyes : ∀ n es e d, (rgD 0 hi.toNat)[n]? = some d → J n es → t n true → Φ n e → J (n + 1) (es ++ [e])) (hno : ∀ n es d, (rgD 0 hi.toNat)[n]? = some d → J n es → t n false → J (n + 1) es)
    (hk : ∀ es, J hi.toNat es → SVs X o H0 (ρ.set iy (.dat (.list es))) rest Nx Rt)
    (hy : X.N[iy]? = some y := by rfl) (hyl : X.env.scope.names.lookup y = some .local := by rfl) (hk0 : X.env.scope.kind = .function := by rfl) (hline : (py.line == pos.line) = true := by rfl) (hl0 : (scope.names.any fun (n, k) => n == y && (k == .local || k == .cell)) = false := by rfl)
    (hgl : Gl X "range" := by rfl) (hs1 : starEach [a] X.env = [(false, eval a X.env)] := by rfl)
    (hs : ∀ x, foldedSetIterable (.Call (.Name "range" pr) [a] [] p) X.env x = pure x := by intro _; rfl) :
    SVs X o H0 ρ (.Assign [.Name y py] (.ListComp elt [⟨tg, .Call (.Name "range" pr) [a] [] p, [c], 0⟩] scope pos) spos :: rest) Nx Rt := by
  refine sv_seq (PS.imp (t' := tAsg (tD X.K o H0 ρ (fun d => ∃ es, d = .list es ∧ J hi.toNat es)) (gName iy)) (ps_setLc A.calm A.nd hy hyl (sw_true hk0 hyl hline hl0) (pi_range1 hgl hm (ea_consd ha ea_nil hs1) hs1) A.ok A.hg A.ht A.pe hs) fun D σ H ⟨g, sl, k⟩ => ⟨g, sl, fun vs H1 ds hds g1 p1 => ?_⟩)
    (α := PyData) (q := fun d => ∃ es, d = .list es ∧ J hi.toNat es) (r := fun d => ρ.set iy (.dat d)) (fun d hd => by obtain ⟨es, rfl, h⟩ := hd; exact hk es h) fun D σ H ⟨en, g, sl, k1, k2⟩ => ⟨g, sl, fun v H1 d hd g1 p1 => ⟨d, hd, en, Gr.trans g g1, (sl.mono g1).set ⟨v, rfl, p1⟩, k1, k2⟩⟩
  subst hds
  cases p1 with
  | cons q1 q2 =>
    cases q2; cases q1.int_inv
    refine ⟨hi, rfl, hbd.1, hbd.2, lc_read hl hf j0 hyes hno (Gr.trans g g1) (sl.mono g1) g1 (fun v H' d hd => k v H' d (by obtain ⟨es, rfl, _, _, hJ⟩ := hd; rw [rgD_len] at hJ; exact ⟨es, rfl, hJ⟩)) fun D Pv Qd p0 hG hs' hd' => lc_range Pv p0 (fun n H hn q => ?_) (fun H q => hd' H (by rw [rgD_len]; exact q))⟩
    exact hs' n _ _ H (rgD_get hn) (.int _) q
theorem shaped_ints (ns : List Int) : SeqAt.shaped (.list (ns.map .int)) = true := by
  have h1 : PyData.canLayAll0 (ns.map .int) = true := by
    induction ns with
    | nil => rfl
    | cons q qs ih => show (PyData.canLay0 (.int q) && PyData.canLayAll0 (qs.map .int)) = true; rw [ih]; rfl
  have h2 : PyData.depthAll (ns.map .int) ≤ 1 := by
    clear h1
    induction ns with
    | nil => exact Nat.zero_le _
    | cons q qs ih => show max (PyData.depth (.int q)) (PyData.depthAll (qs.map .int)) ≤ 1; exact Nat.max_le.mpr ⟨Nat.zero_le 1, ih⟩
  show (PyData.canLayAll0 (ns.map .int) && decide (PyData.depthAll (ns.map .int) + 1 ≤ 64)) = true
  rw [h1, decide_eq_true (by omega)]; rfl
def upTo (n : Nat) : List Int := (List.range n).map fun (k : Nat) => (k : Int)
theorem upTo_len (n : Nat) : (upTo n).length = n := by unfold upTo; rw [List.length_map, List.length_range]
theorem upTo_succ (n : Nat) : upTo (n + 1) = upTo n ++ [(n : Int)] := by unfold upTo; rw [List.range_succ, List.map_append]; rfl
theorem upTo_lt (n : Nat) : (upTo n).Pairwise (· < ·) := by
  unfold upTo
  rw [List.pairwise_map]
  exact List.pairwise_lt_range.imp fun h => Int.ofNat_lt.mpr h
abbrev law26N : List Str := ["script", "w", "turn", "digits", "wide", "form", "many", "half", "word", "number", "up", "keys"]
theorem law_walk {f : Addr} {fd : FuncData} (F : FunD K "law" "law" (defArgs s_law) (defBody s_law) (defScope s_law) [] [] f fd) (c_draws : Ok P w K mg base 1 "_law_draws" ["script", "many"] (spP K R_draws)) (c_next : Ok P w K mg base 1 "_law_next" ["w", "many"] (spW K R_next)) (brange : mg "range" = none) (blen : mg "len" = none) (bsorted : mg "sorted" = none) (bset : mg "set" = none)
    (c_form_for : Ok P w K mg base 1 "form_for" ["digits", "wide"] (spF K R_form_for)) (c_all_words : Ok P w K mg base 1 "all_words" ["digits", "wide"] (spF K R_all_words)) (c_width_of : Ok P w K mg base 1 "width_of" ["digits", "wide"] (spF K R_width_of)) (c_number_of_word : Ok P w K mg base 2 "number_of_word" ["digits", "wide", "word"] (spF K R_number_of_word)) (c_word_of : Ok P w K mg base 2 "word_of" ["digits", "wide", "number"] (spF K R_word_of))
    (c_key_of_word : Ok P w K mg base 1 "key_of_word" ["digits", "wide", "word"] (spF K R_key_of_word)) (c_is_finite : Ok P w K mg base 1 "is_finite" ["number"] (spF K R_is_finite)) (c_next_up : Ok P w K mg base 2 "next_up" ["form", "number"] (spF K R_next_up)) (c_value_of : Ok P w K mg base 5 "value_of" ["number"] (spF K R_value_of)) (c_lless : Ok P w K mg base 1 "_law_less" ["one", "other"] (spF K R_lless)) : FnOk P w K mg base CX0 20 f fd ["script"] (spLaw K) := by
  refine ok_law F sc_law fun cdv A outer s H E ns hl hr => ?_
  have N := sc_law.nd
  have lz := sizeLine_eq
  refine ps_mkw 1 N (fun H0 => ev_callP c_draws (hr.mono (by decide)) (Φs := (· = [.list (ns.map .int), .int 600])) (ea_consd (ev_name 0) (ea_consd ev_int ea_nil)) (fun ds e => by rw [e]; exact .mk hl (by decide) (by decide))) rfl fun H1 aw ad => ?_
  refine sv_forR1 (hi := 2) PassesOwn.never rfl brange (ea_consd ev_int ea_nil) (by decide) (tg_name 2 N) (fun _ => trivial) (fun _ ρ => ∃ s0 s2 s3 s4 s5 s6 s7 s8 s9 s10 s11 : Sl, ρ = [s0, .wob, s2, s3, s4, s5, s6, s7, s8, s9, s10, s11]) ⟨_, _, _, _, _, _, _, _, _, _, _, rfl⟩ ?_ (fun ρ' inv => by obtain ⟨s0, s2, s3, s4, s5, s6, s7, s8, s9, s10, s11, rfl⟩ := inv; exact sv_retd ev_bl rfl)
  rintro n ρ' hn ⟨s0, s2, s3, s4, s5, s6, s7, s8, s9, s10, s11, rfl⟩
  refine sv_unp [3, 4] (Φ := fun d => ∃ i j, d = .tuple [.int (2 + i), .int (2 + j)] ∧ (0 ≤ i ∧ i < 3) ∧ (0 ≤ j ∧ j < 2)) rfl N (ev_tup (Φs := fun ds => ∃ i j, ds = [.int (2 + i), .int (2 + j)] ∧ (0 ≤ i ∧ i < 3) ∧ (0 ≤ j ∧ j < 2))
      (ea_cons (ev_addN (i := 2) ev_int (ev_next c_next (hr.mono (by decide)) 1 (m := 3) (by decide) ev_int)) (ea_cons (Φr := fun ds => ∃ j, ds = [.int (2 + j)] ∧ (0 ≤ j ∧ j < 2)) (ev_addN (i := 2) ev_int (ev_next c_next (hr.mono (by decide)) 1 (m := 2) (by decide) ev_int)) ea_nil (fun d ds hd hds => by obtain ⟨j, rfl, h⟩ := hd; subst hds; exact ⟨j, rfl, h⟩))
        (fun d ds hd hds => by obtain ⟨i, rfl, h⟩ := hd; obtain ⟨j, rfl, h'⟩ := hds; exact ⟨i, j, rfl, h, h'⟩)) (fun ds h => by obtain ⟨i, j, rfl, h⟩ := h; exact ⟨Nat.le_of_ble_eq_true rfl, i, j, rfl, h⟩)) (fun ds h => ?_) (fun d h => by obtain ⟨i, j, rfl, _⟩ := h; exact ⟨_, rfl, rfl⟩) gns2
  obtain ⟨i, j, h, hi, hj⟩ := h
  cases h
  obtain ⟨p, hp⟩ : ∃ p : Nat, (2 + i) = (p : Int) := ⟨(2 + i).toNat, by omega⟩
  obtain ⟨wd, hw⟩ : ∃ wd : Nat, (2 + j) = (wd : Int) := ⟨(2 + j).toNat, by omega⟩
  rw [hp, hw]
  have p1 : 2 ≤ p ∧ p ≤ 4 := by omega
  have w1 : 2 ≤ wd ∧ wd ≤ 3 := by omega
  have hF : Fok (formW p wd) := by
    have e1 := two_pow_nat (wd - 1)
    have e2 := two_pow_nat wd
    have l1 : 2 ^ (wd - 1) ≤ 2 ^ 2 := Nat.pow_le_pow_right (by decide) (by omega)
    have l2 : 2 ^ wd ≤ 2 ^ 3 := Nat.pow_le_pow_right (by decide) (by omega)
    have q1 := pow_pos' (wd - 1)
    have q2 := pow_pos' wd
    exact ⟨p1.1, by show p ≤ 70; omega, by show (loW p wd).natAbs ≤ 200; unfold loW; omega, by show (loW p wd + 2 ^ wd - 3).natAbs ≤ 200; unfold loW; omega⟩
  have hle : (formW p wd).lo ≤ (formW p wd).hi := by
    show loW p wd ≤ loW p wd + 2 ^ wd - 3
    have e2 := two_pow_nat wd
    have l2 : 2 ^ 2 ≤ 2 ^ wd := Nat.pow_le_pow_right (by decide) (by omega)
    omega
  refine sv_pard 5 6 rfl N (ea_consd (ev_calld c_form_for (hr.mono (by decide)) (ea_consd (ev_name 3) (ea_consd (ev_name 4) ea_nil)) (.mk (by omega) (by omega) (by omega))) (ea_consd (ev_calld c_all_words (hr.mono (by decide)) (ea_consd (ev_name 3) (ea_consd (ev_name 4) ea_nil)) (.mk (by omega))) ea_nil)) ?_
  refine sv_ifr (tv_w (wv_or (tv_neI (ev_name 6) (shl1 (n := p + wd) ev_int (ev_add (ev_name 3) (ev_name 4)) (by omega) (by omega))) (fun _ => wv_or1 (tv_neI (ev_calld c_width_of (hr.mono (by decide)) (ea_consd (ev_name 3) (ea_consd (ev_name 4) ea_nil)) .mk) (ev_add (ev_name 3) (ev_name 4)))))) (fun h => by rw [decide_eq_true rfl, decide_eq_true rfl] at h; cases h) (fun _ => ?_)
  obtain ⟨hf, hhf⟩ : ∃ hf : Nat, hf = 2 ^ (p + wd - 1) := ⟨_, rfl⟩
  have hf64 : hf ≤ 64 := by rw [hhf]; exact Nat.le_trans (Nat.pow_le_pow_right (by decide) (show p + wd - 1 ≤ 6 by omega)) (by decide)
  refine sv_setd 7 N (ev_eq (ev_fdivA (ev_name 6) ev_int ⟨by decide, by decide⟩) (show _ = PyData.int (hf : Int) from congrArg PyData.int (by
    rw [Int.fdiv_eq_ediv_of_nonneg _ (by decide), hhf, two_pow_nat, show p + wd = (p + wd - 1) + 1 by omega, Nat.pow_succ]
    show ((_ * 2 : Nat) : Int) / 2 = _
    rw [show p + wd - 1 + 1 - 1 = p + wd - 1 by omega]
    omega))) ?_
  have wok {v : Nat} (hv : v < hf) : okWord p wd v := word_ok p1.1 p1.2 w1.1 w1.2 (by omega)
  refine sv_forR1 (hi := hf) PassesOwn.never rfl brange (ea_consd (ev_name 7) ea_nil) (by omega) (tg_name 8 N) (fun _ => trivial) (fun _ ρ => ∃ s0 s2 s6 s8 s9 s10 s11 : Sl, ρ = [s0, .wob, s2, .dat (.int p), .dat (.int wd), .dat (formW p wd).d, s6, .dat (.int hf), s8, s9, s10, s11]) ⟨_, _, _, _, _, _, _, rfl⟩ ?_ ?_
  · rintro v ρ' hv ⟨s0, s2, s6, s8, s9, s10, s11, rfl⟩
    have hv' : v < hf := by omega
    obtain ⟨k1, k2, k3⟩ := wok hv' (by omega)
    refine sv_setd 9 N (ev_calld c_number_of_word (hr.mono (by decide)) (ea_consd (ev_name 3) (ea_consd (ev_name 4) (ea_consd (ev_name 8) ea_nil))) (.mk (by omega) (by omega) (by omega))) ?_
    generalize numW p wd v = x at *
    refine sv_if (Mid := fun ρ => ∃ s0 s2 s6 s8 s9 s10 s11 : Sl, ρ = [s0, .wob, s2, .dat (.int p), .dat (.int wd), .dat (formW p wd).d, s6, .dat (.int hf), s8, s9, s10, s11]) (tv_vald (ev_calld c_is_finite (hr.mono (by decide)) (ea_consd (ev_name 9) ea_nil) .mk)) (fun h0 => ?_) (fun _ => sv_nil ⟨_, _, _, _, _, _, _, rfl⟩) (fun ρ' inv => sv_nil inv)
    have hx : x.fin = true := h0.symm
    obtain ⟨t1, t2, t3, t4⟩ := k3 hx
    have nx' := hF.nb k2
    obtain ⟨ou, hu⟩ := next_law (F := formW p wd) p1.1 hle k2 hx
    have nu := hF.nb ou
    refine sv_setd 10 N (ev_calld c_next_up (hr.mono (by decide)) (ea_consd (ev_name 5) (ea_consd (ev_name 9) ea_nil)) (.mk hF nx')) ?_
    generalize nextUp (formW p wd) x = up at *
    have xn : x ≠ .none := (fin_ne hx).1
    have nneg : Nb x.negW ∧ x.negW ≠ .none := by
      cases x with
      | number s m e => exact ⟨⟨.inr rfl, nx'.2⟩, by simp [Num.negW]⟩
      | nothing s => exact ⟨.inr rfl, by simp [Num.negW]⟩
      | endless s => cases hx
      | none => cases hx
    have hneg {X : Cx} {o : WO} {H0 : Hp} {ρ : List Sl} {e e' : Expr} {p1 p2 p3 p4 p5 p6 p7 p8 : Pos} {j1 j2 j3 : Nat} {x1} (h1 : EVd X o H0 ρ e x.d) (h2 : EVd X o H0 ρ e' x.d)
        (hs1 : starEach [.Subscript e (.Constant (.int 0) j1 p1) p2, .Constant (.int 1) j2 p3] X.env = (false, eval (.Subscript e (.Constant (.int 0) j1 p1) p2) X.env) :: starEach [.Constant (.int 1) j2 p3] X.env := by rfl) (hs2 : starEach [.Constant (.int 1) j2 p3] X.env = (false, eval (.Constant (.int 1) j2 p3) X.env) :: starEach [] X.env := by rfl) :
        EVd X o H0 ρ (.BinOp (.Tuple [.Subscript e (.Constant (.int 0) j1 p1) p2, .Constant (.int 1) j2 p3] x1 p4) .Add (.Subscript e' (.Slice (some (.Constant (.int 2) j3 p5)) none none p6) p7) p8) x.negW.d := by
      cases x with
      | number s m e =>
        exact ev_catT (ds := [.str "number", .int 1]) (es' := [.int m, .int e]) (ev_tupd (ea_consd (ev_item 0 h1 ev_int) (ea_consd ev_int ea_nil hs2) hs1)) (ev_sl h2 (po_so ev_int) po_no)
      | nothing s =>
        exact ev_catT (ds := [.str "nothing", .int 1]) (es' := []) (ev_tupd (ea_consd (ev_item 0 h1 ev_int) (ea_consd ev_int ea_nil hs2) hs1)) (ev_sl h2 (po_so ev_int) po_no)
      | endless s => cases hx
      | none => cases hx
    refine sv_ifr (tv_w (wv_or (tv_neI (ev_calld c_word_of (hr.mono (by decide)) (ea_consd (ev_name 3) (ea_consd (ev_name 4) (ea_consd (ev_name 9) ea_nil))) (.mk (by omega) (by omega) (by omega) nx' xn)) (ev_name 8))
      (fun _ => wv_or (tv_neI (ev_calld c_word_of (hr.mono (by decide)) (ea_consd (ev_name 3) (ea_consd (ev_name 4) (ea_consd (ev_name 10) ea_nil))) (.mk (by omega) (by omega) (by omega) nu t3)) (ev_add (ev_name 8) ev_int))
      (fun _ => wv_or1 (tv_neI (ev_calld c_word_of (hr.mono (by decide)) (ea_consd (ev_name 3) (ea_consd (ev_name 4) (ea_consd (hneg (ev_name 9) (ev_name 9)) ea_nil))) (.mk (by omega) (by omega) (by omega) nneg.1 nneg.2)) (ev_add (ev_name 8) (ev_name 7))))))) (fun h => ?_) (fun _ => ?_)
    · have e1 := two_pow_nat (p + wd - 1)
      rw [decide_eq_true t1, decide_eq_true t2, decide_eq_true (show wordW p wd x.negW = (v : Int) + (hf : Int) by rw [t4, hhf, e1])] at h
      cases h
    · refine sv_ifr (tv_w (wv_and (tv_vald (ev_calld c_is_finite (hr.mono (by decide)) (ea_consd (ev_name 10) ea_nil) .mk)) (fun hu' => wv_and1 (tv_not (tv_vald (ev_calld c_lless (hr.mono (by decide)) (ea_consd (ev_calld c_value_of (hr.mono (by decide)) (ea_consd (ev_name 9) ea_nil) (.mk nx' hx)) (ea_consd (ev_calld c_value_of (hr.mono (by decide)) (ea_consd (ev_name 10) ea_nil) (.mk nu hu')) ea_nil)) (.mk (nx'.bd.mono (by decide)) (nu.bd.mono (by decide))))))))) (fun h => ?_) (fun _ => sv_nil ⟨_, _, _, _, _, _, _, rfl⟩)
      rw [Bool.and_eq_true] at h
      rw [decide_eq_true (hu.1 h.1).1] at h
      exact absurd h.2 (by decide)
  · rintro ρ' ⟨s0, s2, s6, s8, s9, s10, s11, rfl⟩
    obtain ⟨M, hM⟩ : ∃ M : Nat, M = (2 ^ wd - 1) * 2 ^ (p - 1) := ⟨_, rfl⟩
    have hM63 : M < 64 := by
      have l1 : 2 ^ wd ≤ 2 ^ 3 := Nat.pow_le_pow_right (by decide) (by omega)
      have l2 : 2 ^ (p - 1) ≤ 2 ^ 3 := Nat.pow_le_pow_right (by decide) (by omega)
      have := Nat.mul_le_mul (show 2 ^ wd - 1 ≤ 7 by omega) l2
      omega
    have hMf : M ≤ hf := by
      rw [hM, hhf, show p + wd - 1 = wd + (p - 1) by omega, Nat.pow_add]
      exact Nat.mul_le_mul_right _ (Nat.sub_le _ _)
    have rk {k : Nat} {d : PyData} (h : (rgD 0 (hf : Int).toNat)[k]? = some d) : k < hf ∧ d = .int (k : Int) := by
      have h1 := (List.getElem?_eq_some_iff.mp h).1
      rw [rgD_len] at h1
      rw [rgD_get h1] at h
      exact ⟨by omega, by rw [← Option.some.inj h, Int.zero_add]⟩
    refine sv_setLcR1F (x := "word") (i := 8) (hi := hf) (Φ := fun k d => d = .int (k : Int)) (t := fun k b => b = decide (k < M)) (J := fun k es => es = (upTo (min k M)).map .int) 11
      (lcArgs1 N rfl (blkOk_by (N := law26N) (sc := defScope s_law) (by decide +kernel)) (fun _ _ _ _ _ => pg_name N rfl (Or.inl rfl))
        (fun s H C cl fp H1 k d hd => by
          obtain ⟨hk, rfl⟩ := rk hd
          obtain ⟨k1, _⟩ := wok hk (by omega)
          exact tv_eq (tv_vald (ev_calld c_is_finite (hr.mono (by decide)) (ea_consd (ev_calld c_number_of_word (hr.mono (by decide)) (ea_consd (ev_name 3) (ea_consd (ev_name 4) (ea_consd (ev_name 8) ea_nil))) (.mk (by omega) (by omega) (by omega))) ea_nil) .mk)) (by rw [k1, hM]))
        (fun s H C cl fp H1 k d hd ht => by
          obtain ⟨hk, rfl⟩ := rk hd
          exact ev_calld c_key_of_word (hr.mono (by decide)) (ea_consd (ev_name 3) (ea_consd (ev_name 4) (ea_consd (ev_name 8) ea_nil))) (.mk (by omega) (by omega) (by omega))))
      brange (ev_name 7) (by omega) (by rw [rgD_len]; omega) (fun k d hd => by rw [hd]; rfl) rfl
      (fun k es e d hd hJ ht he => by
        have hk : k < M := of_decide_eq_true ht.symm
        rw [hJ, he, Nat.min_eq_left (by omega), Nat.min_eq_left (by omega), upTo_succ, List.map_append]; rfl)
      (fun k es d hd hJ ht => by
        have hk : ¬ k < M := of_decide_eq_false ht.symm
        rw [hJ, Nat.min_eq_right (by omega), Nat.min_eq_right (by omega)]) (fun es hes => ?_)
    rw [show (hf : Int).toNat = hf by omega, Nat.min_eq_right hMf] at hes
    subst hes
    have srt : (upTo M).Pairwise (· ≤ ·) := (upTo_lt M).imp fun h => Int.le_of_lt h
    have nod : (upTo M).Nodup := (upTo_lt M).imp fun h => Int.ne_of_lt h
    refine sv_ifr (tv_w (wv_or (tv_neD hr (ev_name 11) (ev_sortedI bsorted (ev_name 11) srt (by rw [upTo_len]; exact hM63)) (shaped_ints _) (shaped_ints _) (c := true) (PySem.SeqAt.eqv_refl _ (SeqAt.canLay_of_shaped (shaped_ints _)))) (fun _ => wv_or1 (tv_neI (ev_lenSetI blen bset rfl (ev_name 11) nod (by rw [upTo_len]; omega)) (ev_lenL blen (ev_name 11)))))) (fun h => ?_) (fun _ => sv_nil ⟨_, _, _, _, _, _, _, _, _, _, _, rfl⟩)
    rw [decide_eq_true (show ((upTo M).length : Int) = (((upTo M).map PyData.int).length : Nat) by rw [List.length_map])] at h
    cases h
end

def fnL : List He.DefD := ([dD "common" s_common, dD "fraction" s_fraction, dD "times" s_times, dD "two_to" s_two_to, dD "shifted" s_shifted, dD "value_of" s_value_of, dD "is_finite" s_is_finite, dD "greatest_of" s_greatest_of, dD "form_for" s_form_for, dD "width_of" s_width_of, dD "word_of" s_word_of, dD "number_of_word" s_number_of_word, dD "parts_of_word" s_parts_of_word, dD "key_of_word" s_key_of_word, dD "all_words" s_all_words, dD "next_up" s_next_up, dD "stepped_up" s_stepped_up, dD "stepped_down" s_stepped_down, dD "_law_draws" s__law_draws, dD "_law_next" s__law_next] : List He.DefD) ++ ([dD "_law_less" s__law_less, dD "law" s_law] : List He.DefD)
def faL : List He.Fa := ([.glo "common", .glo "fraction", .glo "times", .glo "two_to", .glo "shifted", .glo "value_of", .glo "is_finite", .glo "greatest_of", .glo "form_for", .glo "width_of", .glo "word_of", .glo "number_of_word", .glo "parts_of_word", .glo "key_of_word", .glo "all_words", .glo "next_up", .glo "stepped_up", .glo "stepped_down", .glo "_law_draws", .glo "_law_next"] : List He.Fa) ++ ([.glo "_law_less", .glo "law", .free "abs", .free "int", .free "len", .free "range", .free "set", .free "sorted"] : List He.Fa)
def csL : List (Str × PyData) := [("NOTHING", .tuple [.int 0, .int 1])]
abbrev RL : PySem.W.OpenRow := PySem.W.OpenLaw.row PySem.Challenge.rw_roundedwithin_k26_whole_known_words_in_t
abbrev hkL : PySem.W.Hook := hookC 4 faL fnL csL
def obL (s : PySem.W.SharedT) : AlC := obsCG 4 faL fnL csL (HandSHeadRun.getT s)
theorem obL_eq (s : PySem.W.SharedT) : obL s = hkL.obs s.abs := obsCG_eq (HandSHeadRun.getT_eq s)
def looseL : List PySem.Str := (["common", "fraction", "times", "two_to", "shifted", "value_of", "is_finite", "greatest_of", "form_for", "width_of", "word_of", "number_of_word", "parts_of_word", "key_of_word", "all_words", "next_up", "stepped_up", "stepped_down", "_law_draws", "_law_next"] : List PySem.Str) ++ (["_law_less", "NOTHING"] : List PySem.Str)
theorem runL (w : World) : HandSHeadRun.RunEq RL (PySem.W.view RL.prog [27]) hkL obL 4000 looseL w := by
  intro os
  kernel_rfl
structure FactsL (K : PySem.W.Frag) (mg : Str → Option Value) : Prop where
  h_common : Has K mg "common" s_common
  h_fraction : Has K mg "fraction" s_fraction
  h_times : Has K mg "times" s_times
  h_two_to : Has K mg "two_to" s_two_to
  h_shifted : Has K mg "shifted" s_shifted
  h_value_of : Has K mg "value_of" s_value_of
  h_is_finite : Has K mg "is_finite" s_is_finite
  h_greatest_of : Has K mg "greatest_of" s_greatest_of
  h_form_for : Has K mg "form_for" s_form_for
  h_width_of : Has K mg "width_of" s_width_of
  h_word_of : Has K mg "word_of" s_word_of
  h_number_of_word : Has K mg "number_of_word" s_number_of_word
  h_parts_of_word : Has K mg "parts_of_word" s_parts_of_word
  h_key_of_word : Has K mg "key_of_word" s_key_of_word
  h_all_words : Has K mg "all_words" s_all_words
  h_next_up : Has K mg "next_up" s_next_up
  h_stepped_up : Has K mg "stepped_up" s_stepped_up
  h_stepped_down : Has K mg "stepped_down" s_stepped_down
  h__law_draws : Has K mg "_law_draws" s__law_draws
  h__law_next : Has K mg "_law_next" s__law_next
  h__law_less : Has K mg "_law_less" s__law_less
  h_law : Has K mg "law" s_law
  b_abs : mg "abs" = none
  b_int : mg "int" = none
  b_len : mg "len" = none
  b_range : mg "range" = none
  b_set : mg "set" = none
  b_sorted : mg "sorted" = none
  c_NOTHING : Con K mg "NOTHING" (.tuple [.int 0, .int 1])
theorem factsL {K : PySem.W.Frag} {h : Heap} {mg : Str → Option Value} (X : K.In h) (G : h.Ns mainGlobals mg) (c : SaysC faL fnL csL K) : FactsL K mg where
  h_common := has_of X G c.d 0 0
  h_fraction := has_of X G c.d 1 1
  h_times := has_of X G c.d 2 2
  h_two_to := has_of X G c.d 3 3
  h_shifted := has_of X G c.d 4 4
  h_value_of := has_of X G c.d 5 5
  h_is_finite := has_of X G c.d 6 6
  h_greatest_of := has_of X G c.d 7 7
  h_form_for := has_of X G c.d 8 8
  h_width_of := has_of X G c.d 9 9
  h_word_of := has_of X G c.d 10 10
  h_number_of_word := has_of X G c.d 11 11
  h_parts_of_word := has_of X G c.d 12 12
  h_key_of_word := has_of X G c.d 13 13
  h_all_words := has_of X G c.d 14 14
  h_next_up := has_of X G c.d 15 15
  h_stepped_up := has_of X G c.d 16 16
  h_stepped_down := has_of X G c.d 17 17
  h__law_draws := has_of X G c.d 18 18
  h__law_next := has_of X G c.d 19 19
  h__law_less := has_of X G c.d 20 20
  h_law := has_of X G c.d 21 21
  b_abs := He.free_ok X G (c.d.fact 22 (f := .free "abs") rfl)
  b_int := He.free_ok X G (c.d.fact 23 (f := .free "int") rfl)
  b_len := He.free_ok X G (c.d.fact 24 (f := .free "len") rfl)
  b_range := He.free_ok X G (c.d.fact 25 (f := .free "range") rfl)
  b_set := He.free_ok X G (c.d.fact 26 (f := .free "set") rfl)
  b_sorted := He.free_ok X G (c.d.fact 27 (f := .free "sorted") rfl)
  c_NOTHING := datAt_ok X G (c.con 0)
theorem law_ok {P : Program} {w : World} {K : PySem.W.Frag} {mg : Str → Option Value} {base : Heap} {f : Addr} {fd : FuncData} (F : FunD K "law" "law" (defArgs s_law) (defBody s_law) (defScope s_law) [] [] f fd) (FL : FactsL K mg) : FnOk P w K mg base CX0 20 f fd ["script"] (spLaw K) := by
  have x_common := ok_common (P := P) (w := w) (base := base) FL.h_common FL.b_abs
  have x_fraction := ok_fraction (P := P) (w := w) (base := base) FL.h_fraction x_common
  have x_times := ok_times (P := P) (w := w) (base := base) FL.h_times x_fraction
  have x_two_to := ok_two_to (P := P) (w := w) (base := base) FL.h_two_to 
  have x_shifted := ok_shifted (P := P) (w := w) (base := base) FL.h_shifted x_times x_two_to
  have x_value_of := ok_value_of (P := P) (w := w) (base := base) FL.h_value_of FL.c_NOTHING x_shifted
  have x_is_finite := ok_is_finite (P := P) (w := w) (base := base) FL.h_is_finite 
  have x_greatest_of := ok_greatest_of (P := P) (w := w) (base := base) FL.h_greatest_of 
  have x_form_for := ok_form_for (P := P) (w := w) (base := base) FL.h_form_for 
  have x_width_of := ok_width_of (P := P) (w := w) (base := base) FL.h_width_of 
  have x_word_of := ok_word_of (P := P) (w := w) (base := base) FL.h_word_of x_form_for
  have x_parts_of_word := ok_parts_of_word (P := P) (w := w) (base := base) FL.h_parts_of_word 
  have x_key_of_word := ok_key_of_word (P := P) (w := w) (base := base) FL.h_key_of_word 
  have x_all_words := ok_all_words (P := P) (w := w) (base := base) FL.h_all_words 
  have x_stepped_up := ok_stepped_up (P := P) (w := w) (base := base) FL.h_stepped_up 
  have x_stepped_down := ok_stepped_down (P := P) (w := w) (base := base) FL.h_stepped_down 
  have x__law_draws := ok_draws (P := P) (w := w) (base := base) FL.h__law_draws FL.b_len FL.b_int FL.b_abs FL.b_range
  have x__law_next := ok_next (P := P) (w := w) (base := base) FL.h__law_next FL.b_len FL.b_int
  have x__law_less := ok_lless (P := P) (w := w) (base := base) FL.h__law_less 
  have x_number_of_word := ok_number_of_word (P := P) (w := w) (base := base) FL.h_number_of_word x_form_for x_parts_of_word
  have x_next_up := ok_next_up (P := P) (w := w) (base := base) FL.h_next_up x_stepped_up x_stepped_down x_greatest_of
  exact law_walk F x__law_draws x__law_next FL.b_range FL.b_len FL.b_sorted FL.b_set x_form_for x_all_words x_width_of x_number_of_word x_word_of x_key_of_word x_is_finite x_next_up x_value_of x__law_less
end DL
open PySem PySem.W PySem.Calls PyProof.Rows
theorem PySem.Challenge.cw_roundedwithin_k26_whole_known_words_in_t_holds : PySem.Challenge.rw_roundedwithin_k26_whole_known_words_in_t.Holds := by
  w_on; o_law
  refine HandSHeadRun.head_any (r := OpenLaw.row PySem.Challenge.rw_roundedwithin_k26_whole_known_words_in_t) (q := view (OpenLaw.row PySem.Challenge.rw_roundedwithin_k26_whole_known_words_in_t).prog [27]) (H := DL.hkL) (ob := DL.obL) (M := 4000) (loose := DL.looseL) (d := HandSHeadRun.topDef (OpenLaw.row PySem.Challenge.rw_roundedwithin_k26_whole_known_words_in_t).prog 27) (kwd := []) DL.obL_eq
    (by kernel_rfl) (fun s => by kernel_rfl) DL.runL (by kernel_rfl) (by kernel_rfl) (by kernel_rfl) (by rfl) (by first | assumption | decide +kernel) (by decide +kernel) ⟨rfl, rfl, rfl, rfl, rfl, by decide +kernel⟩ ?hw ?hc
  case hw => w_witness2
  case hc =>
    refine L2.walk_ofE (l := PySem.Challenge.rw_roundedwithin_k26_whole_known_words_in_t) (n := 63) (k := 20) (x := "script") (CX := L2.CX0) rfl (by decide) (by kernel_rfl) ⟨rfl, by decide, by decide⟩ ?F (fun _ _ _ _ z => z)
    intro w mg fa h Y G hmg0
    obtain ⟨K, KX, c⟩ := Y
    have hmg : mg ("law" : PySem.Str) = some (.ref fa) := by
      have e : (HandSHeadRun.topDef (OpenLaw.row PySem.Challenge.rw_roundedwithin_k26_whole_known_words_in_t).prog 27).name = ("law" : PySem.Str) := by kernel_rfl
      rw [← e]
      exact hmg0
    have F := DL.factsL KX G c
    obtain ⟨fa', fd, e, FD⟩ := id F.h_law
    cases (Option.some.inj (hmg.symm.trans e))
    have b := L2.FunD.bindsA (ps := ["script"]) FD fun _ _ _ _ _ _ us hl => match us, hl with | [_], _ => rfl
    exact ⟨K, fd, DL.spLaw K, KX, fun s v => b s [v] rfl, fun H a ns hl _ hS => ⟨a, ns, rfl, hS, hl, fun _ => rfl⟩, fun base _ _ => DL.law_ok FD F⟩
