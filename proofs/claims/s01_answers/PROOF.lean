import PyProof.Rows.All
import Wide.All
import OpenK.AllK
import Wide.FinOn
import Open.SpecLaws
import KE.OsGo
import HandS.ForSpec
import HandS.ForMost
import HandS.Walk
import HandS.Wide
import PySem.Challenge.RW_rodgauge_s01_answers
set_option Elab.async false
set_option maxRecDepth 100000
set_option maxHeartbeats 4000000
namespace Rg
open Sj05
/-! ### fractions -/
theorem gcd_pos {n d : Nat} (h : 0 < d) : 0 < Nat.gcd n d := Nat.gcd_pos_of_pos_right n h
theorem frac_val {n d : Nat} (h : 0 < d) : frac n d = ⟨n / Nat.gcd n d, d / Nat.gcd n d⟩ := by
  have g := gcd_pos (n := n) h
  unfold frac
  exact if_neg (by omega)
theorem frac_dpos {n d : Nat} (h : 0 < d) : 0 < (frac n d).d := by
  rw [frac_val h]
  exact Nat.div_pos (Nat.le_of_dvd h (Nat.gcd_dvd_right n d)) (gcd_pos h)
theorem frac_cross {n d : Nat} (h : 0 < d) : (frac n d).n * d = n * (frac n d).d := by
  rw [frac_val h]
  show n / Nat.gcd n d * d = n * (d / Nat.gcd n d)
  rw [Nat.div_mul_right_comm (Nat.gcd_dvd_left n d), Nat.mul_div_assoc n (Nat.gcd_dvd_right n d)]
theorem frac_n_le {n d : Nat} (h : 0 < d) : (frac n d).n ≤ n := by
  rw [frac_val h]
  exact Nat.div_le_self _ _
theorem frac_d_le {n d : Nat} (h : 0 < d) : (frac n d).d ≤ d := by
  rw [frac_val h]
  exact Nat.div_le_self _ _
theorem frac_cop {n d : Nat} (h : 0 < d) : Nat.Coprime (frac n d).n (frac n d).d := by
  rw [frac_val h]
  exact Nat.coprime_div_gcd_div_gcd (gcd_pos h)
theorem cop_eq {a b c d : Nat} (hb : 0 < b) (h1 : Nat.Coprime a b) (h2 : Nat.Coprime c d) (e : a * d = c * b) : a = c ∧ b = d := by
  have d1 : b ∣ d := h1.symm.dvd_of_dvd_mul_left ⟨c, by rw [e, Nat.mul_comm]⟩
  have d2 : d ∣ b := h2.symm.dvd_of_dvd_mul_left ⟨a, by rw [← e, Nat.mul_comm]⟩
  have e2 : b = d := Nat.dvd_antisymm d1 d2
  subst e2
  exact ⟨Nat.eq_of_mul_eq_mul_right hb e, rfl⟩
theorem frac_eq {n d m e : Nat} (hd : 0 < d) (he : 0 < e) (h : n * e = m * d) : frac n d = frac m e := by
  have x1 := frac_cross (n := n) hd
  have x2 := frac_cross (n := m) he
  have p1 := frac_dpos (n := n) hd
  have p2 := frac_dpos (n := m) he
  have c1 := frac_cop (n := n) hd
  have c2 := frac_cop (n := m) he
  have q : (frac n d).n * (frac m e).d = (frac m e).n * (frac n d).d := by
    refine Nat.eq_of_mul_eq_mul_right (Nat.mul_pos hd he) ?_
    calc (frac n d).n * (frac m e).d * (d * e) = ((frac n d).n * d) * ((frac m e).d * e) := by ac_rfl
      _ = (n * e) * ((frac n d).d * (frac m e).d) := by rw [x1]; ac_rfl
      _ = (m * (frac m e).d) * ((frac n d).d * d) := by rw [h]; ac_rfl
      _ = (frac m e).n * (frac n d).d * (d * e) := by rw [← x2]; ac_rfl
  obtain ⟨e1, e2⟩ := cop_eq p1 c1 c2 q
  cases hx : frac n d
  cases hy : frac m e
  rw [hx, hy] at e1 e2
  cases e1
  cases e2
  rfl
/-- a fraction in lowest terms -/
def R (f : Frac) : Prop := ∃ n d, 0 < d ∧ f = frac n d
theorem R.frac {n d : Nat} (h : 0 < d) : R (frac n d) := ⟨n, d, h, rfl⟩
theorem R.pos {f : Frac} (h : R f) : 0 < f.d := by
  obtain ⟨n, d, hd, rfl⟩ := h
  exact frac_dpos hd
theorem R.self {f : Frac} (h : R f) : Sj05.frac f.n f.d = f := by
  obtain ⟨n, d, hd, rfl⟩ := h
  exact frac_eq (frac_dpos hd) hd (frac_cross hd)
theorem frac_one (n : Nat) : frac n 1 = ⟨n, 1⟩ := by
  rw [frac_val (by decide), Nat.gcd_one_right, Nat.div_one]
theorem R.int (n : Nat) : R ⟨n, 1⟩ := ⟨n, 1, by decide, (frac_one n).symm⟩
theorem frac_zero {d : Nat} (h : 0 < d) : frac 0 d = ⟨0, 1⟩ := (frac_eq h (by decide) (by omega)).trans (frac_one 0)
theorem add_frac {a b c d : Nat} (hb : 0 < b) (hd : 0 < d) : add (frac a b) (frac c d) = frac (a * d + c * b) (b * d) := by
  have x1 := frac_cross (n := a) hb
  have x2 := frac_cross (n := c) hd
  have p1 := frac_dpos (n := a) hb
  have p2 := frac_dpos (n := c) hd
  unfold add
  refine frac_eq (Nat.mul_pos p1 p2) (Nat.mul_pos hb hd) ?_
  generalize frac a b = X at *
  generalize frac c d = Y at *
  calc (X.n * Y.d + Y.n * X.d) * (b * d) = (X.n * b) * (Y.d * d) + (Y.n * d) * (X.d * b) := by rw [Nat.add_mul]; congr 1 <;> ac_rfl
    _ = (a * d + c * b) * (X.d * Y.d) := by rw [x1, x2, Nat.add_mul]; congr 1 <;> ac_rfl
theorem R.add {f g : Frac} (hf : R f) (hg : R g) : R (add f g) := ⟨_, _, Nat.mul_pos hf.pos hg.pos, rfl⟩
theorem add_zero {f : Frac} (h : R f) : add f ⟨0, 1⟩ = f := by
  have e : add f ⟨0, 1⟩ = frac f.n f.d := by
    show frac (f.n * 1 + 0 * f.d) (f.d * 1) = _
    rw [Nat.mul_one, Nat.zero_mul, Nat.add_zero, Nat.mul_one]
  rw [e]
  exact h.self
theorem zero_add' {f : Frac} (h : R f) : add ⟨0, 1⟩ f = f := by
  have e : add ⟨0, 1⟩ f = frac f.n f.d := by
    show frac (0 * f.d + f.n * 1) (1 * f.d) = _
    rw [Nat.mul_one, Nat.zero_mul, Nat.zero_add, Nat.one_mul]
  rw [e]
  exact h.self
theorem add_assoc' {f g h : Frac} (hf : R f) (hg : R g) (hh : R h) : add (add f g) h = add f (add g h) := by
  obtain ⟨a, b, hb, rfl⟩ := hf
  obtain ⟨c, d, hd, rfl⟩ := hg
  obtain ⟨m, n, hn, rfl⟩ := hh
  rw [add_frac hb hd, add_frac hd hn, add_frac (Nat.mul_pos hb hd) hn, add_frac hb (Nat.mul_pos hd hn)]
  refine frac_eq (Nat.mul_pos (Nat.mul_pos hb hd) hn) (Nat.mul_pos hb (Nat.mul_pos hd hn)) ?_
  have e1 : (a * d + c * b) * n + m * (b * d) = a * (d * n) + (c * n + m * d) * b := by
    rw [Nat.add_mul, Nat.add_mul, Nat.add_assoc]
    congr 1
    · ac_rfl
    · congr 1 <;> ac_rfl
  rw [e1]
  congr 1
  ac_rfl
/-! ### comparing -/
theorem leq_frac_right {x : Frac} {p q : Nat} (hq : 0 < q) : leq x (frac p q) = leq x ⟨p, q⟩ := by
  have c := frac_cross (n := p) hq
  have d := frac_dpos (n := p) hq
  unfold leq
  refine decide_eq_decide.mpr ?_
  show x.n * (frac p q).d ≤ (frac p q).n * x.d ↔ x.n * q ≤ p * x.d
  generalize frac p q = P at *
  constructor
  · intro h
    refine Nat.le_of_mul_le_mul_right (c := P.d) ?_ d
    calc x.n * q * P.d = (x.n * P.d) * q := by ac_rfl
      _ ≤ (P.n * x.d) * q := Nat.mul_le_mul_right _ h
      _ = (P.n * q) * x.d := by ac_rfl
      _ = p * x.d * P.d := by rw [c]; ac_rfl
  · intro h
    refine Nat.le_of_mul_le_mul_right (c := q) ?_ hq
    calc x.n * P.d * q = (x.n * q) * P.d := by ac_rfl
      _ ≤ (p * x.d) * P.d := Nat.mul_le_mul_right _ h
      _ = (p * P.d) * x.d := by ac_rfl
      _ = P.n * x.d * q := by rw [← c]; ac_rfl
theorem leq_frac_left {x : Frac} {p q : Nat} (hq : 0 < q) : leq (frac p q) x = leq ⟨p, q⟩ x := by
  have c := frac_cross (n := p) hq
  have d := frac_dpos (n := p) hq
  unfold leq
  refine decide_eq_decide.mpr ?_
  show (frac p q).n * x.d ≤ x.n * (frac p q).d ↔ p * x.d ≤ x.n * q
  generalize frac p q = P at *
  constructor
  · intro h
    refine Nat.le_of_mul_le_mul_right (c := P.d) ?_ d
    calc p * x.d * P.d = (p * P.d) * x.d := by ac_rfl
      _ = (P.n * x.d) * q := by rw [← c]; ac_rfl
      _ ≤ (x.n * P.d) * q := Nat.mul_le_mul_right _ h
      _ = x.n * q * P.d := by ac_rfl
  · intro h
    refine Nat.le_of_mul_le_mul_right (c := q) ?_ hq
    calc P.n * x.d * q = (P.n * q) * x.d := by ac_rfl
      _ = (p * x.d) * P.d := by rw [c]; ac_rfl
      _ ≤ (x.n * q) * P.d := Nat.mul_le_mul_right _ h
      _ = x.n * P.d * q := by ac_rfl
theorem leq_int {p q m : Nat} (hq : 0 < q) : leq (frac p q) ⟨m, 1⟩ = decide (p ≤ m * q) := by
  rw [leq_frac_left hq]
  show decide (p * 1 ≤ m * q) = _
  rw [Nat.mul_one]
/-! ### a part -/
def partN (a b : Mark) (p q : Nat) : Nat :=
  let far := p - a.high * q
  let w := b.high - a.high
  if a.area ≤ b.area then far * (2 * a.area * w * q + (b.area - a.area) * far) else far * (2 * a.area * w * q - (a.area - b.area) * far)
def partF (a b : Mark) (p q : Nat) : Frac := frac (partN a b p q) (2 * q * q * (b.high - a.high))
theorem slice_eq {a b : Mark} {far q : Nat} (hq : 0 < q) (hw : a.high < b.high) :
    slice a b (frac far q) = frac (if a.area ≤ b.area then far * (2 * a.area * (b.high - a.high) * q + (b.area - a.area) * far) else far * (2 * a.area * (b.high - a.high) * q - (a.area - b.area) * far)) (2 * q * q * (b.high - a.high)) := by
  have c := frac_cross (n := far) hq
  have d := frac_dpos (n := far) hq
  have hw' : 0 < b.high - a.high := by omega
  unfold slice
  generalize frac far q = x at *
  show frac (x.n * (2 * a.area * (b.high - a.high) * x.d) + (if a.area ≤ b.area then x.n * (x.n * (b.area - a.area)) else 0) - (if a.area ≤ b.area then 0 else x.n * (x.n * (a.area - b.area)))) (2 * (b.high - a.high) * (x.d * x.d)) = _
  generalize b.high - a.high = w at *
  refine frac_eq (by exact Nat.mul_pos (Nat.mul_pos (by decide) hw') (Nat.mul_pos d d)) (Nat.mul_pos (Nat.mul_pos (Nat.mul_pos (by decide) hq) hq) hw') ?_
  have k1 : x.n * (2 * a.area * w * x.d) * (2 * q * q * w) = far * (2 * a.area * w * q) * (2 * w * (x.d * x.d)) := by
    calc x.n * (2 * a.area * w * x.d) * (2 * q * q * w) = (x.n * q) * (2 * a.area * w * x.d * (2 * q * w)) := by ac_rfl
      _ = _ := by rw [c]; ac_rfl
  have k2 : ∀ z : Nat, x.n * (x.n * z) * (2 * q * q * w) = far * (z * far) * (2 * w * (x.d * x.d)) := by
    intro z
    calc x.n * (x.n * z) * (2 * q * q * w) = (x.n * q) * (x.n * q) * (z * 2 * w) := by ac_rfl
      _ = _ := by rw [c]; ac_rfl
  by_cases h : a.area ≤ b.area
  · rw [if_pos h, if_pos h, if_pos h, Nat.sub_zero, Nat.add_mul, k1, k2, ← Nat.add_mul, ← Nat.mul_add]
  · rw [if_neg h, if_neg h, if_neg h, Nat.add_zero, Nat.sub_mul, k1, k2, ← Nat.sub_mul, ← Nat.mul_sub]
theorem partF_slice {a b : Mark} {p q : Nat} (hq : 0 < q) (hw : a.high < b.high) : partF a b p q = slice a b (frac (p - a.high * q) q) := by
  rw [slice_eq hq hw]
  rfl
theorem partF_whole {a b : Mark} (hw : a.high < b.high) : partF a b b.high 1 = slice a b ⟨b.high - a.high, 1⟩ := by
  rw [partF_slice (by decide) hw, Nat.mul_one, frac_one]
theorem R.part {a b : Mark} {p q : Nat} (hq : 0 < q) (hw : a.high < b.high) : R (partF a b p q) := ⟨_, _, Nat.mul_pos (Nat.mul_pos (Nat.mul_pos (by decide) hq) hq) (by omega), rfl⟩
/-- the part's numerator as the program reckons it -/
theorem partN_int {a b : Mark} {p q : Nat} (hw : a.high < b.high) (h1 : a.high * q ≤ p) (h2 : p ≤ b.high * q) :
    ((p : Int) - (a.high : Int) * q) * (2 * (a.area : Int) * ((b.high : Int) - a.high) * q + ((b.area : Int) - a.area) * ((p : Int) - (a.high : Int) * q)) = ((partN a b p q : Nat) : Int) := by
  have ew : ((b.high : Int) - a.high) = ((b.high - a.high : Nat) : Int) := by omega
  have ef : ((p : Int) - (a.high : Int) * q) = ((p - a.high * q : Nat) : Int) := by
    rw [Int.ofNat_sub h1, Int.natCast_mul]
  have hf : p - a.high * q ≤ (b.high - a.high) * q := by
    rw [Nat.sub_mul]
    omega
  rw [ew, ef]
  unfold partN
  show _ = ((if a.area ≤ b.area then (p - a.high * q) * (2 * a.area * (b.high - a.high) * q + (b.area - a.area) * (p - a.high * q)) else (p - a.high * q) * (2 * a.area * (b.high - a.high) * q - (a.area - b.area) * (p - a.high * q)) : Nat) : Int)
  generalize p - a.high * q = far at *
  generalize b.high - a.high = w at *
  by_cases h : a.area ≤ b.area
  · rw [if_pos h, Int.natCast_mul, Int.natCast_add, Int.natCast_mul, Int.natCast_mul, Int.natCast_mul, Int.natCast_mul, Int.ofNat_sub h]
    rfl
  · rw [if_neg h]
    have hle : (a.area - b.area) * far ≤ 2 * a.area * w * q := by
      calc (a.area - b.area) * far ≤ a.area * (w * q) := Nat.mul_le_mul (Nat.sub_le _ _) hf
        _ ≤ 2 * (a.area * (w * q)) := by omega
        _ = 2 * a.area * w * q := by ac_rfl
    have ea : ((b.area : Int) - a.area) = -((a.area - b.area : Nat) : Int) := by omega
    rw [ea, Int.natCast_mul, Int.ofNat_sub hle, Int.natCast_mul, Int.natCast_mul, Int.natCast_mul, Int.natCast_mul, Int.neg_mul]
    rfl
/-! ### the walk over the marks -/
def acc (p q : Nat) : Mark → List Mark → Frac → Frac
  | _, [], f => f
  | a, b :: l, f => acc p q b l (if b.high * q ≤ p then add f (partF a b b.high 1) else if a.high * q < p then add f (partF a b p q) else f)
/-- heights rise -/
def rising : Mark → List Mark → Prop
  | _, [] => True
  | a, b :: l => a.high < b.high ∧ rising b l
theorem from_zero {p q : Nat} (hq : 0 < q) {a : Mark} (l : List Mark) (h : p ≤ a.high * q) : from_ (frac p q) a l = ⟨0, 1⟩ := by
  cases l with
  | nil => rfl
  | cons b l =>
    unfold from_
    rw [leq_int hq, if_pos (decide_eq_true h)]
theorem R.slice {a b : Mark} {x : Frac} (hw : a.high < b.high) (hx : 0 < x.d) : R (slice a b x) := ⟨_, _, Nat.mul_pos (Nat.mul_pos (by decide) (by omega)) (Nat.mul_pos hx hx), rfl⟩
theorem R.from_ {p : Frac} (hp : 0 < p.d) : ∀ (l : List Mark) (a : Mark), rising a l → R (Sj05.from_ p a l)
  | [], _, _ => R.int 0
  | b :: l, a, h => by
    unfold Sj05.from_
    split
    · exact R.int 0
    · split
      · exact R.slice h.1 (frac_dpos hp)
      · exact R.add (R.slice h.1 Nat.one_pos) (R.from_ hp l b h.2)
theorem acc_from {p q : Nat} (hq : 0 < q) : ∀ (l : List Mark) (a : Mark) (f : Frac), rising a l → R f → acc p q a l f = add f (from_ (frac p q) a l)
  | [], _, f, _, hf => (add_zero hf).symm
  | b :: l, a, f, h, hf => by
    have hP := frac_dpos (n := p) hq
    show acc p q b l (if b.high * q ≤ p then add f (partF a b b.high 1) else if a.high * q < p then add f (partF a b p q) else f) = _
    have hlt : a.high * q < b.high * q := Nat.mul_lt_mul_of_pos_right h.1 hq
    by_cases c1 : p ≤ a.high * q
    · rw [if_neg (by omega), if_neg (by omega), from_zero hq _ c1, acc_from hq l b f h.2 hf, from_zero hq l (by omega)]
    · have e1 : leq (frac p q) ⟨a.high, 1⟩ = false := by
        rw [leq_int hq]
        exact decide_eq_false c1
      have ef : frac ((frac p q).n - a.high * (frac p q).d) (frac p q).d = frac (p - a.high * q) q := by
        refine frac_eq hP hq ?_
        rw [Nat.sub_mul, Nat.sub_mul, frac_cross hq]
        congr 1
        ac_rfl
      by_cases c2 : p ≤ b.high * q
      · have e2 : from_ (frac p q) a (b :: l) = partF a b p q := by
          unfold Sj05.from_
          rw [e1, leq_int hq, decide_eq_true c2, ef, partF_slice hq h.1]
          rfl
        rw [e2]
        by_cases c3 : b.high * q ≤ p
        · have ep : p = b.high * q := by omega
          have e3 : partF a b b.high 1 = partF a b p q := by
            rw [partF_whole h.1, partF_slice hq h.1, ep, ← Nat.sub_mul, ← frac_one]
            congr 1
            exact frac_eq (by decide) hq (by rw [Nat.mul_one])
          rw [if_pos c3, e3, acc_from hq l b _ h.2 (hf.add (R.part hq h.1)), from_zero hq l c2, add_zero (hf.add (R.part hq h.1))]
        · rw [if_neg c3, if_pos (by omega), acc_from hq l b _ h.2 (hf.add (R.part hq h.1)), from_zero hq l c2, add_zero (hf.add (R.part hq h.1))]
      · have e2 : from_ (frac p q) a (b :: l) = add (slice a b ⟨b.high - a.high, 1⟩) (from_ (frac p q) b l) := by
          conv => lhs; unfold Sj05.from_
          rw [e1, leq_int hq, decide_eq_false c2]
          rfl
        rw [e2, if_pos (by omega), partF_whole h.1, acc_from hq l b _ h.2 (hf.add (R.slice h.1 Nat.one_pos)), add_assoc' hf (R.slice h.1 Nat.one_pos) (R.from_ hP l b h.2)]
end Rg
namespace Rg
open Sj05
/-! ### a cask that stands -/
structure Wf (c : Cask) : Prop where
  bot : c.bottom ≤ 1000
  rise : rising ⟨0, c.bottom⟩ c.marks
  tall : ∀ m ∈ c.marks, m.high ≤ 60
  wide : ∀ m ∈ c.marks, m.area ≤ 1000
  few : c.marks.length ≤ 8
/-- the bottom and the marks -/
def all (c : Cask) : List Mark := ⟨0, c.bottom⟩ :: c.marks
theorem holds_acc {c : Cask} (h : Wf c) {p q : Nat} (hq : 0 < q) : acc p q ⟨0, c.bottom⟩ c.marks ⟨0, 1⟩ = c.holds (frac p q) := by
  rw [acc_from hq _ _ _ h.rise (R.int 0), zero_add' (R.from_ (frac_dpos hq) _ _ h.rise)]
  rfl
theorem R.holds {c : Cask} (h : Wf c) {p : Frac} (hp : 0 < p.d) : R (c.holds p) := R.from_ hp _ _ h.rise
theorem whole_eq {c : Cask} : c.whole = c.holds (frac c.high 1) := by
  rw [frac_one]
  rfl
theorem high_last (c : Cask) : ∃ (m : Mark), (all c)[(all c).length - 1]? = some m ∧ m.high = c.high := by
  unfold all Cask.high
  cases e : c.marks.getLast? with
  | none =>
    have : c.marks = [] := List.getLast?_eq_none_iff.mp e
    rw [this]
    exact ⟨_, rfl, rfl⟩
  | some m =>
    refine ⟨m, ?_, rfl⟩
    have h : c.marks.getLast? = some m := e
    rw [List.getLast?_eq_getElem?] at h
    have hl : 0 < c.marks.length := by
      cases q : c.marks with
      | nil => rw [q] at h; simp at h
      | cons _ _ => simp
    have e2 : (⟨0, c.bottom⟩ :: c.marks : List Mark).length - 1 = (c.marks.length - 1) + 1 := by
      rw [List.length_cons]
      omega
    rw [e2, List.getElem?_cons_succ]
    exact h
theorem high_le {c : Cask} (h : Wf c) : c.high ≤ 60 := by
  unfold Cask.high
  cases e : c.marks.getLast? with
  | none => exact Nat.zero_le _
  | some m => exact h.tall m (List.mem_of_getLast? e)
/-! ### sizes -/
def Small (k : Nat) (f : Frac) : Prop := f.n < 2 ^ k ∧ f.d < 2 ^ k ∧ 0 < f.d
theorem Small.mono {k l : Nat} {f : Frac} (h : Small k f) (hl : k ≤ l) : Small l f :=
  ⟨Nat.lt_of_lt_of_le h.1 (Nat.pow_le_pow_right (by decide) hl), Nat.lt_of_lt_of_le h.2.1 (Nat.pow_le_pow_right (by decide) hl), h.2.2⟩
theorem Small.frac {k n d : Nat} (hn : n < 2 ^ k) (hd : d < 2 ^ k) (h : 0 < d) : Small k (frac n d) :=
  ⟨Nat.lt_of_le_of_lt (frac_n_le h) hn, Nat.lt_of_le_of_lt (frac_d_le h) hd, frac_dpos h⟩
theorem add_n_lt {k : Nat} {f g : Frac} (hf : Small k f) (hg : Small 64 g) : f.n * g.d + g.n * f.d < 2 ^ (k + 65) := by
  have h1 : f.n * g.d < 2 ^ (k + 64) := by
    rw [Nat.pow_add]
    exact Nat.mul_lt_mul'' hf.1 hg.2.1
  have h2 : g.n * f.d < 2 ^ (k + 64) := by
    rw [Nat.pow_add, Nat.mul_comm]
    exact Nat.mul_lt_mul'' hf.2.1 hg.1
  have h3 : (2 : Nat) ^ (k + 65) = 2 ^ (k + 64) * 2 := Nat.pow_succ _ _
  omega
theorem add_d_lt {k : Nat} {f g : Frac} (hf : Small k f) (hg : Small 64 g) : f.d * g.d < 2 ^ (k + 65) := by
  have h1 : f.d * g.d < 2 ^ (k + 64) := by
    rw [Nat.pow_add]
    exact Nat.mul_lt_mul'' hf.2.1 hg.2.1
  have h3 : (2 : Nat) ^ (k + 65) = 2 ^ (k + 64) * 2 := Nat.pow_succ _ _
  omega
theorem Small.add {k : Nat} {f g : Frac} (hf : Small k f) (hg : Small 64 g) : Small (k + 65) (Sj05.add f g) :=
  Small.frac (add_n_lt hf hg) (add_d_lt hf hg) (Nat.mul_pos hf.2.2 hg.2.2)
theorem partN_lt {a b : Mark} {p q : Nat} (hw : a.high < b.high) (ht : b.high ≤ 60) (ha : a.area ≤ 1000) (hb : b.area ≤ 1000) (hq : q ≤ 1000) (hp : p ≤ b.high * q) : partN a b p q < 2 ^ 64 := by
  have hf : p - a.high * q ≤ 60000 := by
    have : p ≤ 60 * 1000 := Nat.le_trans hp (Nat.mul_le_mul ht hq)
    omega
  have h1 : 2 * a.area * (b.high - a.high) * q ≤ 2 * 1000 * 60 * 1000 := Nat.mul_le_mul (Nat.mul_le_mul (Nat.mul_le_mul_left 2 ha) (by omega)) hq
  have h2 : (b.area - a.area) * (p - a.high * q) ≤ 1000 * 60000 := Nat.mul_le_mul (by omega) hf
  unfold partN
  show (if a.area ≤ b.area then (p - a.high * q) * (2 * a.area * (b.high - a.high) * q + (b.area - a.area) * (p - a.high * q)) else (p - a.high * q) * (2 * a.area * (b.high - a.high) * q - (a.area - b.area) * (p - a.high * q))) < _
  generalize p - a.high * q = far at *
  generalize 2 * a.area * (b.high - a.high) * q = X at *
  split
  · refine Nat.lt_of_le_of_lt (Nat.mul_le_mul hf (show X + (b.area - a.area) * far ≤ 180000000 by omega)) (by decide)
  · refine Nat.lt_of_le_of_lt (Nat.mul_le_mul hf (show X - (a.area - b.area) * far ≤ 180000000 by omega)) (by decide)
theorem partD_lt {a b : Mark} {q : Nat} (ht : b.high ≤ 60) (hq : q ≤ 1000) : 2 * q * q * (b.high - a.high) < 2 ^ 64 := by
  have h1 : 2 * q * q * (b.high - a.high) ≤ 2 * 1000 * 1000 * 60 := Nat.mul_le_mul (Nat.mul_le_mul (Nat.mul_le_mul_left 2 hq) hq) (by omega)
  exact Nat.lt_of_le_of_lt h1 (by decide)
theorem partD_pos {a b : Mark} {q : Nat} (h : a.high < b.high) (hq : 0 < q) : 0 < 2 * q * q * (b.high - a.high) := Nat.mul_pos (Nat.mul_pos (Nat.mul_pos (by decide) hq) hq) (by omega)
theorem Small.part {a b : Mark} {p q : Nat} (hw : a.high < b.high) (ht : b.high ≤ 60) (ha : a.area ≤ 1000) (hb : b.area ≤ 1000) (hq0 : 0 < q) (hq : q ≤ 1000) (hp : p ≤ b.high * q) : Small 64 (partF a b p q) :=
  Small.frac (partN_lt hw ht ha hb hq hp) (partD_lt ht hq) (partD_pos hw hq0)
/-- what the walk over the marks keeps small -/
theorem Small.acc {p q : Nat} (hq0 : 0 < q) (hq : q ≤ 1000) : ∀ (l : List Mark) (a : Mark) (f : Frac) (k : Nat), rising a l → a.area ≤ 1000 → (∀ m ∈ l, m.high ≤ 60) → (∀ m ∈ l, m.area ≤ 1000) → Small k f → Small (k + 65 * l.length) (Rg.acc p q a l f)
  | [], _, f, k, _, _, _, _, h => h
  | b :: l, a, f, k, hr, ha, ht, hw, h => by
    have hb := hw b (List.mem_cons_self ..)
    have hbt := ht b (List.mem_cons_self ..)
    have h2 : Small (k + 65) (if b.high * q ≤ p then Sj05.add f (partF a b b.high 1) else if a.high * q < p then Sj05.add f (partF a b p q) else f) := by
      split
      · exact h.add (Small.part hr.1 hbt ha hb (by decide) (by decide) (by omega))
      · split
        · exact h.add (Small.part hr.1 hbt ha hb hq0 hq (by omega))
        · exact h.mono (by omega)
    have h3 := Small.acc (p := p) hq0 hq l b _ (k + 65) hr.2 hb (fun m hm => ht m (List.mem_cons_of_mem _ hm)) (fun m hm => hw m (List.mem_cons_of_mem _ hm)) h2
    refine h3.mono ?_
    rw [List.length_cons]
    omega
theorem Small.holds {c : Cask} (h : Wf c) {p q : Nat} (hq0 : 0 < q) (hq : q ≤ 1000) : Small 600 (c.holds (Sj05.frac p q)) := by
  rw [← holds_acc h hq0]
  refine (Small.acc hq0 hq c.marks ⟨0, c.bottom⟩ ⟨0, 1⟩ 1 h.rise h.bot h.tall h.wide ⟨by decide, by decide, by decide⟩).mono ?_
  have := h.few
  omega
theorem Small.whole {c : Cask} (h : Wf c) : Small 600 c.whole := by
  rw [whole_eq]
  exact Small.holds h (by decide) (by decide)
/-! ### halving -/
theorem halved_end {f : Nat → Bool} {k lo hi : Nat} (h : hi ≤ lo + 1) : halved f k lo hi = lo := by
  cases k with
  | zero => rfl
  | succ k =>
    unfold halved
    exact if_pos h
/-- one turn: the program's middle -/
theorem halved_turn {f : Nat → Bool} {k lo hi : Nat} (h : lo < hi) (hk : hi + 1 - lo ≤ 2 ^ k) :
    ∃ j, hi + 1 - lo ≤ 2 ^ j * 2 ∧ halved f k lo (hi + 1) = if f ((lo + hi + 1) / 2) = true then halved f j ((lo + hi + 1) / 2) (hi + 1) else halved f j lo ((lo + hi + 1) / 2) := by
  cases k with
  | zero =>
    have : (2 : Nat) ^ 0 = 1 := rfl
    omega
  | succ k =>
    refine ⟨k, by rw [← Nat.pow_succ]; exact hk, ?_⟩
    conv => lhs; unfold halved
    rw [if_neg (by omega)]
    rfl
theorem deep_raw {c : Cask} {p q : Nat} (hq : 0 < q) : c.deep (frac p q) = c.deep ⟨p, q⟩ := by
  unfold Cask.deep
  congr 1
  funext n
  exact leq_frac_right hq
/-- what the loop of deep keeps: from lo and hi on it comes to the same -/
def DeepInv (c : Cask) (v : Frac) (lo hi : Nat) : Prop := ∃ k, hi + 1 - lo ≤ 2 ^ k ∧ lo ≤ hi ∧ hi ≤ 100 * c.high ∧ halved (fun n => leq (c.holds (rod n)) v) k lo (hi + 1) = c.deep v
theorem DeepInv.start {c : Cask} (h : Wf c) (v : Frac) : DeepInv c v 0 (100 * c.high) := ⟨16, by have := high_le h; omega, Nat.zero_le _, Nat.le_refl _, rfl⟩
theorem DeepInv.done {c : Cask} {v : Frac} {lo hi : Nat} (h : DeepInv c v lo hi) (e : ¬ lo < hi) : c.deep v = lo := by
  obtain ⟨k, _, _, _, q⟩ := h
  rw [← q]
  exact halved_end (by omega)
theorem DeepInv.up {c : Cask} {v : Frac} {lo hi : Nat} (h : DeepInv c v lo hi) (hl : lo < hi) (t : leq (c.holds (rod ((lo + hi + 1) / 2))) v = true) : DeepInv c v ((lo + hi + 1) / 2) hi := by
  obtain ⟨k, h1, h2, h3, q⟩ := h
  obtain ⟨j, hj, e⟩ := halved_turn (f := fun n => leq (c.holds (rod n)) v) hl h1
  refine ⟨j, by omega, by omega, h3, ?_⟩
  rw [← q, e, if_pos t]
theorem DeepInv.down {c : Cask} {v : Frac} {lo hi : Nat} (h : DeepInv c v lo hi) (hl : lo < hi) (t : ¬ leq (c.holds (rod ((lo + hi + 1) / 2))) v = true) : DeepInv c v lo ((lo + hi + 1) / 2 - 1) := by
  obtain ⟨k, h1, h2, h3, q⟩ := h
  obtain ⟨j, hj, e⟩ := halved_turn (f := fun n => leq (c.holds (rod n)) v) hl h1
  have em : (lo + hi + 1) / 2 - 1 + 1 = (lo + hi + 1) / 2 := by omega
  refine ⟨j, by omega, by omega, by omega, ?_⟩
  rw [← q, e, if_neg t, em]
/-! ### marks -/
theorem rising_snoc {m : Mark} : ∀ (l : List Mark) (a : Mark), rising a l → (((a :: l).getLast?.map fun x => x.high).getD 0) < m.high → rising a (l ++ [m])
  | [], a, _, h => ⟨h, trivial⟩
  | b :: l, a, hr, h => ⟨hr.1, rising_snoc l b hr.2 (by rw [List.getLast?_cons_cons] at h; exact h)⟩
theorem Wf.init : Wf Sj05.init := ⟨by decide, trivial, (fun _ h => nomatch h), (fun _ h => nomatch h), by decide⟩
theorem Wf.begins {a : Nat} (h : a ≤ 1000) : Wf ⟨a, []⟩ := ⟨h, trivial, (fun _ h => nomatch h), (fun _ h => nomatch h), Nat.zero_le _⟩
theorem Wf.mark {c : Cask} {m : Mark} (w : Wf c) (h1 : c.high < m.high) (h2 : m.high ≤ 60) (h3 : m.area ≤ 1000) (h4 : c.marks.length < 8) : Wf { c with marks := c.marks ++ [m] } := by
  refine ⟨w.bot, ?_, fun x hx => ?_, fun x hx => ?_, ?_⟩
  · refine rising_snoc c.marks ⟨0, c.bottom⟩ w.rise ?_
    cases e : c.marks with
    | nil =>
      show 0 < m.high
      omega
    | cons b l =>
      rw [List.getLast?_cons_cons]
      unfold Cask.high at h1
      rw [e] at h1
      exact h1
  · rcases List.mem_append.mp hx with z | z
    · exact w.tall x z
    · rw [List.mem_singleton.mp z]
      exact h2
  · rcases List.mem_append.mp hx with z | z
    · exact w.wide x z
    · rw [List.mem_singleton.mp z]
      exact h3
  · show (c.marks ++ [m]).length ≤ 8
    rw [List.length_append, List.length_singleton]
    omega
end Rg
namespace Rg
open Sj05 (Frac Mark Cask frac)
/-! ### calls as numbers -/
def callN : Nat → List Nat → Option Sj05.Call
  | 0, [a] => some (.begins a)
  | 1, [h, a] => some (.mark ⟨h, a⟩)
  | 2, [] => some .whole
  | 3, [p, q] => some (.holds p q)
  | 4, [p, q] => some (.deep p q)
  | 5, [k] => some (.notches k)
  | _, _ => none
/-- how many numbers a call has -/
def nums : List Int := [1, 2, 0, 2, 2, 1]
theorem whole_id (c : List (List Int)) : PySj05.whole c = c := by
  unfold PySj05.whole
  split <;> rfl
theorem map_whole_id (cs : List (List (List Int))) : cs.map PySj05.whole = cs := by
  have e : PySj05.whole = id := funext whole_id
  rw [e, List.map_id]
theorem calls_nil {f : Nat} : PyFlat.calls PySj05.shape f [] = some [] := by
  cases f <;> rfl
/-- numbers from 0 on are natural ones -/
theorem nat_list : ∀ {l : List Int}, (∀ z ∈ l, 0 ≤ z ∧ z ≤ 4294967295) → ∃ xs : List Nat, l = xs.map (fun (n : Nat) => (n : Int)) ∧ ∀ x ∈ xs, x ≤ 4294967295
  | [], _ => ⟨[], rfl, fun _ h => nomatch h⟩
  | z :: r, h => by
    obtain ⟨xs, e, hx⟩ := nat_list (l := r) fun y hy => h y (List.mem_cons_of_mem _ hy)
    have hz := h z (List.mem_cons_self ..)
    refine ⟨z.toNat :: xs, ?_, fun x hm => ?_⟩
    · rw [List.map_cons, ← e]
      congr 1
      omega
    · rcases List.mem_cons.mp hm with q | q
      · omega
      · exact hx x q
theorem two_of {xs : List Nat} (h : xs.length = 2) : ∃ a b, xs = [a, b] := by
  match xs, h with
  | [a, b], _ => exact ⟨a, b, rfl⟩
theorem one_of {xs : List Nat} (h : xs.length = 1) : ∃ a, xs = [a] := by
  match xs, h with
  | [a], _ => exact ⟨a, rfl⟩
theorem shape_of {p : Int} {n k : Nat} (h : PySj05.shape p = some (n, k)) : k = 0 ∧ ((p = 0 ∧ n = 1) ∨ (p = 1 ∧ n = 2) ∨ (p = 2 ∧ n = 0) ∨ (p = 3 ∧ n = 2) ∨ (p = 4 ∧ n = 2) ∨ (p = 5 ∧ n = 1)) := by
  unfold PySj05.shape at h
  repeat' split at h
  all_goals (first | cases h | skip)
  all_goals simp_all
/-- one call at the head -/
structure Head (p : Int) (r : List Int) (raw : List (List (List Int))) (kind : Nat) (xs : List Nat) (q : Sj05.Call) (f : Nat) (cs : List (List (List Int))) : Prop where
  pk : p = (kind : Int)
  num : nums[kind]? = some (xs.length : Int)
  fits : xs.length ≤ r.length
  args : r.take xs.length = xs.map (fun (n : Nat) => (n : Int))
  small : ∀ x ∈ xs, x ≤ 4294967295
  call : callN kind xs = some q
  rest : PyFlat.calls PySj05.shape f (r.drop xs.length) = some cs
  raws : raw = [p :: r.take xs.length] :: cs
  step : ∀ c : Cask, Sj05Neutral.step c [p :: r.take xs.length] = ((Sj05.step c q).1, (Sj05.step c q).2.v :: (Sj05.step c q).2.l)
theorem toNat_list (xs : List Nat) : (xs.map (fun (n : Nat) => (n : Int))).map Int.toNat = xs := by
  rw [List.map_map]
  have e : (Int.toNat ∘ fun (n : Nat) => (n : Int)) = id := by
    funext n
    exact Int.toNat_natCast n
  rw [e, List.map_id]
theorem step_call {kind : Nat} {xs : List Nat} {q : Sj05.Call} (h : Sj05Neutral.callOf ((kind : Int) :: xs.map (fun (n : Nat) => (n : Int))) = some q) (c : Cask) :
    Sj05Neutral.step c [(kind : Int) :: xs.map (fun (n : Nat) => (n : Int))] = ((Sj05.step c q).1, (Sj05.step c q).2.v :: (Sj05.step c q).2.l) := by
  unfold Sj05Neutral.step
  show (match Sj05Neutral.callOf ((kind : Int) :: xs.map (fun (n : Nat) => (n : Int))) with
    | none => (c, [])
    | some q => let r := Sj05.step c q; (r.1, r.2.v :: r.2.l)) = _
  rw [h]
theorem head_of {f : Nat} {p : Int} {r : List Int} {raw : List (List (List Int))} (h : PyFlat.calls PySj05.shape f (p :: r) = some raw) (hb : ∀ z ∈ p :: r, 0 ≤ z ∧ z ≤ 4294967295) : ∃ kind xs q f' cs, Head p r raw kind xs q f' cs := by
  cases f with
  | zero => cases h
  | succ f =>
    have h' : (match PyFlat.call PySj05.shape (p :: r) with
      | none => none
      | some (c, t) => match PyFlat.calls PySj05.shape f t with
        | none => none
        | some cs => some (c :: cs)) = some raw := h
    cases e : PyFlat.call PySj05.shape (p :: r) with
    | none => rw [e] at h'; cases h'
    | some ct =>
      obtain ⟨cl, t⟩ := ct
      rw [e] at h'
      have h2 : (match PyFlat.calls PySj05.shape f t with
        | none => none
        | some cs => some (cl :: cs)) = some raw := h'
      cases e2 : PyFlat.calls PySj05.shape f t with
      | none => rw [e2] at h2; cases h2
      | some cs =>
        rw [e2] at h2
        have e3 : cl :: cs = raw := Option.some.inj h2
        have e' : (match PySj05.shape p with
          | none => none
          | some (n, k) => if r.length < n then none else match PyFlat.rows k (r.drop n) with
            | none => none
            | some (xs, t) => some ((p :: r.take n) :: xs, t)) = some (cl, t) := e
        cases es : PySj05.shape p with
        | none => rw [es] at e'; cases e'
        | some nk =>
          obtain ⟨n, k⟩ := nk
          rw [es] at e'
          obtain ⟨hk, hp⟩ := shape_of es
          subst hk
          have e4 : (if r.length < n then none else some ((p :: r.take n) :: [], r.drop n)) = some (cl, t) := e'
          by_cases hl : r.length < n
          · rw [if_pos hl] at e4; cases e4
          · rw [if_neg hl] at e4
            obtain ⟨e5, e6⟩ := Prod.mk.inj (Option.some.inj e4)
            obtain ⟨xs, ex, hx⟩ := nat_list (l := r.take n) fun z hz => hb z (List.mem_cons_of_mem _ (List.mem_of_mem_take hz))
            have hlen : xs.length = n := by
              have z := congrArg List.length ex
              rw [List.length_map, List.length_take] at z
              omega
            have mk : ∀ (kind : Nat) (q : Sj05.Call), p = (kind : Int) → nums[kind]? = some (n : Int) → callN kind xs = some q → Sj05Neutral.callOf ((kind : Int) :: xs.map (fun (n : Nat) => (n : Int))) = some q → ∃ kind xs q f' cs, Head p r raw kind xs q f' cs := by
              intro kind q h1 h3 h4 h5
              refine ⟨kind, xs, q, f, cs, h1, ?_, ?_, ?_, hx, h4, ?_, ?_, ?_⟩
              · rw [hlen]; exact h3
              · omega
              · rw [hlen]; exact ex
              · rw [hlen, e6]; exact e2
              · rw [hlen, ← e3, ← e5]
              · intro c
                rw [hlen, ex, h1]
                exact step_call h5 c
            rcases hp with ⟨a, b⟩ | ⟨a, b⟩ | ⟨a, b⟩ | ⟨a, b⟩ | ⟨a, b⟩ | ⟨a, b⟩
            · obtain ⟨y, rfl⟩ := one_of (hlen.trans b)
              exact mk 0 (.begins y) a (by rw [b]; rfl) rfl (by unfold Sj05Neutral.callOf; rfl)
            · obtain ⟨y, z, rfl⟩ := two_of (hlen.trans b)
              exact mk 1 (.mark ⟨y, z⟩) a (by rw [b]; rfl) rfl (by unfold Sj05Neutral.callOf; rfl)
            · have hx0 : xs = [] := List.eq_nil_of_length_eq_zero (hlen.trans b)
              subst hx0
              exact mk 2 .whole a (by rw [b]; rfl) rfl (by unfold Sj05Neutral.callOf; rfl)
            · obtain ⟨y, z, rfl⟩ := two_of (hlen.trans b)
              exact mk 3 (.holds y z) a (by rw [b]; rfl) rfl (by unfold Sj05Neutral.callOf; rfl)
            · obtain ⟨y, z, rfl⟩ := two_of (hlen.trans b)
              exact mk 4 (.deep y z) a (by rw [b]; rfl) rfl (by unfold Sj05Neutral.callOf; rfl)
            · obtain ⟨y, rfl⟩ := one_of (hlen.trans b)
              exact mk 5 (.notches y) a (by rw [b]; rfl) rfl (by unfold Sj05Neutral.callOf; rfl)
/-! ### the whole list -/
def due (c : Cask) (raw : List (List (List Int))) : List Int := PyFlat.told (PyFlat.played Sj05Neutral.step c raw)
theorem due_cons {p : Int} {r : List Int} {raw : List (List (List Int))} {kind : Nat} {xs : List Nat} {q : Sj05.Call} {f : Nat} {cs : List (List (List Int))} (h : Head p r raw kind xs q f cs) (c : Cask) :
    due c raw = (((Sj05.step c q).2.l.length + 1 : Nat) : Int) :: ((Sj05.step c q).2.v :: (Sj05.step c q).2.l) ++ due (Sj05.step c q).1 cs := by
  rw [h.raws]
  show PyFlat.told ((Sj05Neutral.step c [p :: r.take xs.length]).2 :: PyFlat.played Sj05Neutral.step (Sj05Neutral.step c [p :: r.take xs.length]).1 cs) = _
  rw [h.step]
  rfl
theorem asked_start {ns : List Int} (h : PySj05.answers_asked ns = true) : ∃ raw, PyFlat.calls PySj05.shape ns.length ns = some raw ∧ due Sj05.init raw = PySj05.answers ns ∧ (PySj05.answers ns).length ≤ 10000000 := by
  unfold PySj05.answers_asked at h
  cases e : PyFlat.calls PySj05.shape ns.length ns with
  | none => rw [e] at h; cases h
  | some raw =>
    rw [e] at h
    refine ⟨raw, rfl, ?_, ?_⟩
    · unfold PySj05.answers PySj05.calls
      rw [e]
      show _ = PyFlat.told (PyFlat.played Sj05Neutral.step Sj05Neutral.start (raw.map PySj05.whole))
      rw [map_whole_id]
      rfl
    · have h2 : (!raw.isEmpty && PyFlat.atMost 60 raw && PyInside.calls PySj05.bound raw && Sj05Neutral.asked (raw.map PySj05.whole) && PyFlat.short 10000000 (PySj05.answers ns)) = true := h
      rw [Bool.and_eq_true] at h2
      exact of_decide_eq_true h2.2
theorem Wf.step {c : Cask} (h : Wf c) (q : Sj05.Call) : Wf (Sj05.step c q).1 := by
  cases q with
  | begins a =>
    show Wf (if Sj05.AREA < a then (c, Sj05.ok (-1)) else (⟨a, []⟩, Sj05.ok 0)).1
    split
    · exact h
    · rename_i z
      exact Wf.begins (Nat.le_of_not_lt z)
  | mark m =>
    show Wf (if m.high ≤ c.high ∨ Sj05.HIGH < m.high ∨ Sj05.AREA < m.area then (c, Sj05.ok (-1)) else if Sj05.MARKS ≤ c.marks.length then (c, Sj05.ok (-5)) else ({ c with marks := c.marks ++ [m] }, Sj05.ok ((c.marks.length : Nat) + 1))).1
    split
    · exact h
    · rename_i z
      split
      · exact h
      · rename_i y
        have e1 : Sj05.HIGH = 60 := rfl
        have e2 : Sj05.AREA = 1000 := rfl
        have e3 : Sj05.MARKS = 8 := rfl
        exact h.mark (by omega) (by omega) (by omega) (by omega)
  | whole => exact h
  | holds p q =>
    show Wf (if q < 1 ∨ 1000 < q ∨ c.high * q < p then (c, Sj05.ok (-1)) else (c, Sj05.told (c.holds (frac p q)))).1
    split <;> exact h
  | deep p q =>
    show Wf (if q < 1 ∨ 1000 < q ∨ Sj05.leq (frac p q) c.whole = false then (c, Sj05.ok (-1)) else (c, Sj05.ok ((c.deep (frac p q) : Nat) : Int))).1
    split <;> exact h
  | notches k =>
    show Wf (if k < 1 ∨ 20 < k then (c, Sj05.ok (-1)) else (c, ⟨((c.notches k).length : Nat), Sj05.ints (c.notches k)⟩)).1
    split <;> exact h
end Rg
namespace Rg
open PySem PySem.Spec PyProof.Rows L2
open Sj05 (Frac Mark Cask frac)
open PySem.W (Codec)
/-! ### the text by places -/
def top (i : Nat) : Stmt := PySem.Challenge.pw_rodgauge_s01_answers.main.body.getD i (.Pass ⟨0, 0, 0, 0⟩)
abbrev sLow : Stmt := top 2
abbrev sPlus : Stmt := top 3
abbrev sMore : Stmt := top 4
abbrev sPart : Stmt := top 5
abbrev sInit : Stmt := inClass (top 6) 0
abbrev sRim : Stmt := inClass (top 6) 1
abbrev sHolds : Stmt := inClass (top 6) 2
abbrev sWhole : Stmt := inClass (top 6) 3
abbrev sDeep : Stmt := inClass (top 6) 4
abbrev sNotch : Stmt := inClass (top 6) 5
abbrev sMark : Stmt := top 17
abbrev sHold2 : Stmt := top 18
abbrev sDeep2 : Stmt := top 19
abbrev sNotch2 : Stmt := top 20
abbrev sAnsd : Stmt := top 21
abbrev sBegun : Stmt := top 22
abbrev sAns : Stmt := top 23
/-! ### data in the heap -/
abbrev nV (n : Nat) : V := .int (n : Int)
abbrev tF (f : Frac) : HO := .tup [nV f.n, nV f.d]
abbrev tM (m : Mark) : HO := .tup [nV m.high, nV m.area]
def sF (l : Addr) : List (Str × V) := [("marks", .ref l)]
/-- the tuples at ts are the marks ms -/
def MarksAt (H : Hp) : List V → List Mark → Prop
  | [], [] => True
  | v :: vs, m :: ms => (∃ t, v = .ref t ∧ H t = some (tM m)) ∧ MarksAt H vs ms
  | _, _ => False
theorem MarksAt.len {H : Hp} : ∀ {vs : List V} {ms : List Mark}, MarksAt H vs ms → vs.length = ms.length
  | [], [], _ => rfl
  | _ :: _, _ :: _, h => congrArg (· + 1) (MarksAt.len h.2)
  | [], _ :: _, h => h.elim
  | _ :: _, [], h => h.elim
theorem MarksAt.get {H : Hp} : ∀ {vs : List V} {ms : List Mark} {i : Nat} {m : Mark}, MarksAt H vs ms → ms[i]? = some m → ∃ t, vs[i]? = some (.ref t) ∧ H t = some (tM m)
  | [], [], i, m, _, e => by simp at e
  | v :: _, _ :: _, 0, m, h, e => by
    obtain ⟨t, rfl, q⟩ := h.1
    cases Option.some.inj e
    exact ⟨t, rfl, q⟩
  | _ :: _, _ :: _, i + 1, m, h, e => MarksAt.get (i := i) h.2 e
  | [], _ :: _, _, _, h, _ => h.elim
  | _ :: _, [], _, _, h, _ => h.elim
theorem MarksAt.keep {H H' : Hp} (k : ∀ b xs, H b = some (.tup xs) → H' b = some (.tup xs)) : ∀ {vs : List V} {ms : List Mark}, MarksAt H vs ms → MarksAt H' vs ms
  | [], [], _ => trivial
  | _ :: _, _ :: _, h => ⟨let ⟨t, e, q⟩ := h.1; ⟨t, e, k t _ q⟩, MarksAt.keep k h.2⟩
  | [], _ :: _, h => h.elim
  | _ :: _, [], h => h.elim
theorem MarksAt.snoc {H : Hp} {t : Addr} {m : Mark} (e : H t = some (tM m)) : ∀ {vs : List V} {ms : List Mark}, MarksAt H vs ms → MarksAt H (vs ++ [.ref t]) (ms ++ [m])
  | [], [], _ => ⟨⟨t, rfl, e⟩, trivial⟩
  | _ :: _, _ :: _, h => ⟨h.1, MarksAt.snoc e h.2⟩
  | [], _ :: _, h => h.elim
  | _ :: _, [], h => h.elim
/-- a Shape at a, its list at l -/
def ShapeAt (C : Addr) (H : Hp) (a l : Addr) (c : Cask) : Prop := ∃ dx vs, H a = some (.ins C dx (sF l)) ∧ H l = some (.lst vs) ∧ MarksAt H vs (all c)
theorem ShapeAt.keep {C : Addr} {H H' : Hp} {a l : Addr} {c : Cask} (s : Same H H') (h : ShapeAt C H a l c) : ShapeAt C H' a l c := by
  obtain ⟨dx, vs, h1, h2, h3⟩ := h
  exact ⟨dx, vs, s _ _ h1, s _ _ h2, h3.keep fun b xs q => s _ _ q⟩
theorem same_upd {H : Hp} {p : Addr} {o : HO} (h : H p = none) : Same H (upd H p o) := fun b u q => by
  rw [upd_ne (ne_of_none q h)]
  exact q
theorem sF_marks (l : Addr) : (sF l).lookup ("marks" : Str) = some (.ref l) := by
  have e : (("marks" : Str) == ("marks" : Str)) = true := beq_self_eq_true _
  unfold sF
  simp only [List.lookup, e]
theorem sF_no (l : Addr) {m : Str} (h : (m == ("marks" : Str)) = false) : (sF l).lookup m = none := by
  unfold sF
  simp only [List.lookup, h]
/-! ### an if whose test is known -/
theorem if_true_of {c : Bool} {A B : Prop} (hc : c = true) (h : A) : if c = true then A else B := by
  rw [if_pos hc]
  exact h
theorem if_false_of {c : Bool} {A B : Prop} (hc : c = false) (h : B) : if c = true then A else B := by
  rw [hc, if_neg Bool.false_ne_true]
  exact h
/-! ### promises -/
def spLow : Sp := fun vs H Q _ => ∃ (n d : Nat), vs = [nV n, nV d] ∧ 0 < d ∧ d < 2 ^ 3000 ∧ ∀ p, H p = none → Q (.ref p) (upd H p (tF (frac n d)))
def spPlus : Sp := fun vs H Q _ => ∃ (a b : Addr) (f g : Frac), vs = [.ref a, .ref b] ∧ H a = some (tF f) ∧ H b = some (tF g) ∧ Small 1000 f ∧ Small 1000 g ∧
  ∀ p, H p = none → Q (.ref p) (upd H p (tF (Sj05.add f g)))
def spMore : Sp := fun vs H Q _ => ∃ (a b : Addr) (f g : Frac), vs = [.ref a, .ref b] ∧ H a = some (tF f) ∧ H b = some (tF g) ∧ Small 1000 f ∧ Small 1000 g ∧ Q (.bl (!Sj05.leq f g)) H
def spPart : Sp := fun vs H Q _ => ∃ (a b : Addr) (m k : Mark) (p q : Nat), vs = [.ref a, .ref b, nV p, nV q] ∧ H a = some (tM m) ∧ H b = some (tM k) ∧ m.high < k.high ∧ k.high ≤ 60 ∧ m.area ≤ 1000 ∧ k.area ≤ 1000 ∧ 0 < q ∧ q ≤ 1000 ∧ m.high * q ≤ p ∧ p ≤ k.high * q ∧
  ∀ t, H t = none → Q (.ref t) (upd H t (tF (partF m k p q)))
end Rg
namespace Rg
open PySem PySem.Spec PyProof.Rows L2
open Sj05 (Frac Mark Cask frac)
section
variable {P : Program} {w : World} {K : PySem.W.Frag} {mg : Str → Option Value} {base : Heap}
theorem nat_lt_wide {n k : Nat} (h : n < 2 ^ k) : ((n : Int)).natAbs < 2 ^ k := by
  rw [Int.natAbs_natCast]
  exact h
theorem scLow : FnScope ["above", "below", "one", "other"] ["above", "below"] (defScope sLow) := ⟨rfl, rfl, rfl, by decide +kernel, rfl, by decide +kernel, by decide +kernel⟩
theorem ok_low {f : Addr} {fd : FuncData} (F : Fun K "lowest" "lowest" sLow f fd) : FnOk P w K mg base CX0 1 f fd ["above", "below"] spLow := by
  refine F.ok scLow (fun vs H Q E h => ?_) (fun cdv A outer s H vs Q E hr h => ?_)
  · obtain ⟨n, d, rfl, _⟩ := h
    rfl
  · obtain ⟨n, d, rfl, hd, hb, k⟩ := h
    refine ⟨_, pss_cons (ps_set (i := 2) scLow.nd rfl (Or.inl rfl) (pv 0)) (pss_cons (ps_set (i := 3) scLow.nd rfl (Or.inl rfl) (pv 1))
      (pss_cons (ps_while PassesOwn.never (pt_cmpR op_ne (pv 3) pe_int (nomark _)) (pss_one (ps_par (i := 2) (j := 3) rfl scLow.nd rfl rfl (by decide) rfl rfl (pa_cons (pv 3) (pa_cons (pe_op op_modN (pv 2) (pv 3)) pa_nil)) (by rfl))))
      (pss_one (ps_ret (pe_tup (pa_cons (pe_op op_fdivW (pv 0) (pv 2)) (pa_cons (pe_op op_fdivW (pv 1) (pv 2)) pa_nil))))))), ?_⟩
    refine ⟨_, rfl, _, rfl, ?_⟩
    refine ⟨fun m σ H' => H' = H ∧ ∃ x : Nat, σ = [some (nV n), some (nV d), some (nV x), some (nV m)] ∧ Nat.gcd x m = Nat.gcd n d, ⟨d, rfl, n, rfl, rfl⟩, ?_⟩
    rintro m σ H' ⟨rfl, x, rfl, hg⟩
    refine ⟨_, rfl, rfl, _, rfl, ?_⟩
    by_cases hm : m = 0
    · subst hm
      have hx : x = Nat.gcd n d := by rw [← hg, Nat.gcd_zero_right]
      subst hx
      have g0 := gcd_pos (n := n) hd
      have gb : ((Nat.gcd n d : Nat) : Int).natAbs < 2 ^ 3000 := nat_lt_wide (Nat.lt_of_le_of_lt (Nat.le_of_dvd hd (Nat.gcd_dvd_right n d)) hb)
      refine if_false_of (by simp) ?_
      refine ⟨_, rfl, _, rfl, _, _, rfl, rfl, wide_div (by omega) gb (by decide) (by decide), _, rfl, _, rfl, _, _, rfl, rfl, wide_div (by omega) gb (by decide) (by decide), (by show 2 ≤ sizeLine; decide), fun p hp => ?_⟩
      have e := k p hp
      rw [frac_val hd] at e
      exact e
    · refine if_true_of ?_ ?_
      · rw [decide_eq_false (fun z => hm (by injection z with z; exact Int.ofNat.inj z))]
        rfl
      · refine ⟨fun σ' H2 => ∃ m', m' < m ∧ H2 = H' ∧ ∃ x : Nat, σ' = [some (nV n), some (nV d), some (nV x), some (nV m')] ∧ Nat.gcd x m' = Nat.gcd n d, fun _ _ h => h, ?_⟩
        refine ⟨_, rfl, _, rfl, _, rfl, _, _, rfl, rfl, by omega, _, _, rfl, ?_⟩
        refine ⟨x % m, Nat.mod_lt _ (by omega), rfl, m, ?_, ?_⟩
        · show [some (nV n), some (nV d), some (nV m), some (V.int (Int.fmod (x : Int) (m : Int)))] = _
          rw [← Int.ofNat_fmod]
        · rw [← hg, Nat.gcd_comm, ← Nat.gcd_rec, Nat.gcd_comm]
theorem scPlus : FnScope ["one", "other"] ["one", "other"] (defScope sPlus) := ⟨rfl, rfl, rfl, by decide +kernel, rfl, by decide +kernel, by decide +kernel⟩
theorem ok_plus {f fL : Addr} {fd fdL : FuncData} (F : Fun K "plus" "plus" sPlus f fd) (gL : mg "lowest" = some (.ref fL)) (FL : Fun K "lowest" "lowest" sLow fL fdL) (bL : Binds K fdL ["above", "below"] []) : FnOk P w K mg base CX0 2 f fd ["one", "other"] spPlus := by
  have GL : FnOk P w K mg base CX0 1 fL fdL ["above", "below"] spLow := ok_low FL
  refine F.ok scPlus (fun vs H Q E h => ?_) (fun cdv A outer s H vs Q E hr h => ?_)
  · obtain ⟨a, b, f, g, rfl, _⟩ := h
    rfl
  · obtain ⟨a, b, f, g, rfl, ha, hb, sf, sg, k⟩ := h
    refine ⟨_, pss_one (ps_ret (pe_call GL hr (by rfl) gL FL.kp bL .nil pass0 (pa_cons (pe_op op_add (pe_op op_mulW (pe_ix ix_tup (pv 0) pe_int (fun _ _ => rfl)) (pe_ix ix_tup (pv 1) pe_int (fun _ _ => rfl))) (pe_op op_mulW (pe_ix ix_tup (pv 1) pe_int (fun _ _ => rfl)) (pe_ix ix_tup (pv 0) pe_int (fun _ _ => rfl))))
      (pa_cons (pe_op op_mulW (pe_ix ix_tup (pv 0) pe_int (fun _ _ => rfl)) (pe_ix ix_tup (pv 1) pe_int (fun _ _ => rfl))) pa_nil)))), ?_⟩
    refine ⟨_, rfl, a, _, _, _, rfl, rfl, SqT.of ha, atI_nat (j := 0) rfl, _, rfl, b, _, _, _, rfl, rfl, SqT.of hb, atI_nat (j := 1) rfl, _, _, rfl, rfl, wide_mul (nat_lt_wide sf.1) (nat_lt_wide sg.2.1) (by decide) (by decide) (by decide), ?_⟩
    refine ⟨_, rfl, b, _, _, _, rfl, rfl, SqT.of hb, atI_nat (j := 0) rfl, _, rfl, a, _, _, _, rfl, rfl, SqT.of ha, atI_nat (j := 1) rfl, _, _, rfl, rfl, wide_mul (nat_lt_wide sg.1) (nat_lt_wide sf.2.1) (by decide) (by decide) (by decide), ?_⟩
    refine ⟨_, _, rfl, rfl, _, rfl, a, _, _, _, rfl, rfl, SqT.of ha, atI_nat (j := 1) rfl, _, rfl, b, _, _, _, rfl, rfl, SqT.of hb, atI_nat (j := 1) rfl, _, _, rfl, rfl, wide_mul (nat_lt_wide sf.2.1) (nat_lt_wide sg.2.1) (by decide) (by decide) (by decide), ?_⟩
    refine ⟨f.n * g.d + g.n * f.d, f.d * g.d, ?_, Nat.mul_pos sf.2.2 sg.2.2, ?_, k⟩
    · simp only [nV, Int.natCast_add, Int.natCast_mul]
      rfl
    · refine Nat.lt_of_lt_of_le (Nat.mul_lt_mul'' sf.2.1 sg.2.1) ?_
      rw [← Nat.pow_add]
      exact Nat.pow_le_pow_right (by decide) (by decide)
theorem scMore : FnScope ["one", "other"] ["one", "other"] (defScope sMore) := ⟨rfl, rfl, rfl, by decide +kernel, rfl, by decide +kernel, by decide +kernel⟩
theorem ok_more {f : Addr} {fd : FuncData} (F : Fun K "is_more" "is_more" sMore f fd) : FnOk P w K mg base CX0 1 f fd ["one", "other"] spMore := by
  refine F.ok scMore (fun vs H Q E h => ?_) (fun cdv A outer s H vs Q E hr h => ?_)
  · obtain ⟨a, b, f, g, rfl, _⟩ := h
    rfl
  · obtain ⟨a, b, f, g, rfl, ha, hb, sf, sg, k⟩ := h
    refine ⟨_, pss_one (ps_ret (pe_cmpR op_gt (pe_op op_mulW (pe_ix ix_tup (pv 0) pe_int (fun _ _ => rfl)) (pe_ix ix_tup (pv 1) pe_int (fun _ _ => rfl))) (pe_op op_mulW (pe_ix ix_tup (pv 1) pe_int (fun _ _ => rfl)) (pe_ix ix_tup (pv 0) pe_int (fun _ _ => rfl))) (nomark _))), ?_⟩
    refine ⟨_, rfl, a, _, _, _, rfl, rfl, SqT.of ha, atI_nat (j := 0) rfl, _, rfl, b, _, _, _, rfl, rfl, SqT.of hb, atI_nat (j := 1) rfl, _, _, rfl, rfl, wide_mul (nat_lt_wide sf.1) (nat_lt_wide sg.2.1) (by decide) (by decide) (by decide), ?_⟩
    refine ⟨_, rfl, b, _, _, _, rfl, rfl, SqT.of hb, atI_nat (j := 0) rfl, _, rfl, a, _, _, _, rfl, rfl, SqT.of ha, atI_nat (j := 1) rfl, _, _, rfl, rfl, wide_mul (nat_lt_wide sg.1) (nat_lt_wide sf.2.1) (by decide) (by decide) (by decide), ?_⟩
    refine ⟨_, _, rfl, rfl, ?_⟩
    have e : (decide ((g.n : Int) * (f.d : Int) < (f.n : Int) * (g.d : Int))) = !Sj05.leq f g := by
      unfold Sj05.leq
      rw [← decide_not]
      refine decide_eq_decide.mpr ?_
      rw [← Int.natCast_mul, ← Int.natCast_mul]
      omega
    rw [← e] at k
    exact k
theorem scPart : FnScope ["lower", "upper", "p", "q", "apart", "far", "areas"] ["lower", "upper", "p", "q"] (defScope sPart) := ⟨rfl, rfl, rfl, by decide +kernel, rfl, by decide +kernel, by decide +kernel⟩
theorem ok_part {f fL : Addr} {fd fdL : FuncData} (F : Fun K "part" "part" sPart f fd) (gL : mg "lowest" = some (.ref fL)) (FL : Fun K "lowest" "lowest" sLow fL fdL) (bL : Binds K fdL ["above", "below"] []) : FnOk P w K mg base CX0 2 f fd ["lower", "upper", "p", "q"] spPart := by
  have GL : FnOk P w K mg base CX0 1 fL fdL ["above", "below"] spLow := ok_low FL
  refine F.ok scPart (fun vs H Q E h => ?_) (fun cdv A outer s H vs Q E hr h => ?_)
  · obtain ⟨a, b, m, k, p, q, rfl, _⟩ := h
    rfl
  · obtain ⟨a, b, m, k, p, q, rfl, ha, hb, h1, h2, h3, h4, h5, h6, h7, h8, kk⟩ := h
    refine ⟨_, pss_cons (ps_set (i := 4) scPart.nd rfl (Or.inl rfl) (pe_op op_sub (pe_ix ix_tup (pv 1) pe_int (fun _ _ => rfl)) (pe_ix ix_tup (pv 0) pe_int (fun _ _ => rfl))))
      (pss_cons (ps_set (i := 5) scPart.nd rfl (Or.inl rfl) (pe_op op_sub (pv 2) (pe_op op_mul (pe_ix ix_tup (pv 0) pe_int (fun _ _ => rfl)) (pv 3))))
      (pss_cons (ps_set (i := 6) scPart.nd rfl (Or.inl rfl) (pe_op op_add (pe_op op_mul (pe_op op_mul (pe_op op_mul pe_int (pe_ix ix_tup (pv 0) pe_int (fun _ _ => rfl))) (pv 4)) (pv 3))
        (pe_op op_mul (pe_op op_sub (pe_ix ix_tup (pv 1) pe_int (fun _ _ => rfl)) (pe_ix ix_tup (pv 0) pe_int (fun _ _ => rfl))) (pv 5))))
      (pss_one (ps_ret (pe_call GL hr (by rfl) gL FL.kp bL .nil pass0 (pa_cons (pe_op op_mul (pv 5) (pv 6)) (pa_cons (pe_op op_mul (pe_op op_mul (pe_op op_mul pe_int (pv 3)) (pv 3)) (pv 4)) pa_nil))))))), ?_⟩
    have hf : p ≤ 60000 := Nat.le_trans h8 (Nat.mul_le_mul h2 h6)
    have hfar : m.high * q ≤ 60000 := Nat.le_trans h7 hf
    have efar : ((p : Int) - (m.high : Int) * (q : Int)) = ((p - m.high * q : Nat) : Int) := by
      rw [Int.ofNat_sub h7, Int.natCast_mul]
    refine ⟨_, rfl, b, _, _, _, rfl, rfl, SqT.of hb, atI_nat (j := 0) rfl, _, rfl, a, _, _, _, rfl, rfl, SqT.of ha, atI_nat (j := 0) rfl, _, _, rfl, rfl, ?_⟩
    refine ⟨_, rfl, _, rfl, a, _, _, _, rfl, rfl, SqT.of ha, atI_nat (j := 0) rfl, _, rfl, _, _, rfl, rfl, .inl ⟨by omega, by omega⟩, _, _, rfl, rfl, ?_⟩
    refine ⟨_, rfl, a, _, _, _, rfl, rfl, SqT.of ha, atI_nat (j := 1) rfl, _, _, rfl, rfl, .inl ⟨by decide, by decide⟩, _, rfl, _, _, rfl, rfl, .inr ⟨by omega, by omega⟩, _, rfl, _, _, rfl, rfl, .inr ⟨by omega, by omega⟩, ?_⟩
    refine ⟨_, rfl, b, _, _, _, rfl, rfl, SqT.of hb, atI_nat (j := 1) rfl, _, rfl, a, _, _, _, rfl, rfl, SqT.of ha, atI_nat (j := 1) rfl, _, _, rfl, rfl, _, rfl, _, _, rfl, rfl, .inl ⟨by omega, by omega⟩, ?_⟩
    refine ⟨_, _, rfl, rfl, ?_⟩
    refine ⟨_, rfl, _, rfl, _, _, rfl, rfl, .inl ⟨by rw [efar]; omega, by rw [efar]; omega⟩, ?_⟩
    refine ⟨_, rfl, _, _, rfl, rfl, .inl ⟨by decide, by decide⟩, _, rfl, _, _, rfl, rfl, .inr ⟨by omega, by omega⟩, _, rfl, _, _, rfl, rfl, .inr ⟨by omega, by omega⟩, ?_⟩
    refine ⟨partN m k p q, 2 * q * q * (k.high - m.high), ?_, partD_pos h1 h5, ?_, kk⟩
    · have e := partN_int h1 h7 h8
      have ew : ((k.high : Int) - m.high) = ((k.high - m.high : Nat) : Int) := by omega
      have e2 : (2 * (q : Int) * (q : Int) * ((k.high : Int) - m.high)) = ((2 * q * q * (k.high - m.high) : Nat) : Int) := by
        rw [ew, Int.natCast_mul, Int.natCast_mul, Int.natCast_mul]
        rfl
      show [V.int _, V.int _] = [V.int _, V.int _]
      rw [← e, ← e2]
    · exact Nat.lt_of_lt_of_le (partD_lt h2 h6) (Nat.pow_le_pow_right (by decide) (by decide))
end
end Rg
namespace Rg
open PySem PySem.Spec PyProof.Rows L2
open Sj05 (Frac Mark Cask frac)
/-! ### the class -/
structure Txt (K : PySem.W.Frag) (mg : Str → Option Value) (C : Addr) : Prop where
  cl : Cls K C
  nM : NoAttr K C "marks"
  gC : mg "Shape" = some (.ref C)
  len : mg "len" = none
  zip : mg "zip" = none
  list : mg "list" = none
  range : mg "range" = none
/-- the lower functions as they stand -/
structure Low (P : Program) (w : World) (K : PySem.W.Frag) (mg : Str → Option Value) (base : Heap) (fL fP fM fT : Addr) (dL dP dM dT : FuncData) : Prop where
  gL : mg "lowest" = some (.ref fL)
  kL : PySem.W.keepIn K (.ref fL) = true
  bL : Binds K dL ["above", "below"] []
  oL : FnOk P w K mg base CX0 1 fL dL ["above", "below"] spLow
  gP : mg "plus" = some (.ref fP)
  kP : PySem.W.keepIn K (.ref fP) = true
  bP : Binds K dP ["one", "other"] []
  oP : FnOk P w K mg base CX0 2 fP dP ["one", "other"] spPlus
  gM : mg "is_more" = some (.ref fM)
  kM : PySem.W.keepIn K (.ref fM) = true
  bM : Binds K dM ["one", "other"] []
  oM : FnOk P w K mg base CX0 1 fM dM ["one", "other"] spMore
  gT : mg "part" = some (.ref fT)
  kT : PySem.W.keepIn K (.ref fT) = true
  bT : Binds K dT ["lower", "upper", "p", "q"] []
  oT : FnOk P w K mg base CX0 2 fT dT ["lower", "upper", "p", "q"] spPart
/-! ### promises of the methods -/
def spInit (C : Addr) : Sp := fun vs H Q _ => ∃ (p dx : Addr) (n : Nat), vs = [.ref p, nV n] ∧ H p = some (.ins C dx []) ∧
  ∀ (H' : Hp) (l : Addr), ShapeAt C H' p l ⟨n, []⟩ → H l = none → (∀ b o, H b = some o → b ≠ p → H' b = some o) → Q .non H'
def spRim (C : Addr) : Sp := fun vs H Q _ => ∃ (a l : Addr) (c : Cask), vs = [.ref a] ∧ ShapeAt C H a l c ∧ Q (nV c.high) H
def spHolds (C : Addr) : Sp := fun vs H Q _ => ∃ (a l : Addr) (c : Cask) (p q : Nat), vs = [.ref a, nV p, nV q] ∧ ShapeAt C H a l c ∧ Wf c ∧ 0 < q ∧ q ≤ 1000 ∧
  ∀ (H' : Hp) (t : Addr), Same H H' → H' t = some (tF (c.holds (frac p q))) → Q (.ref t) H'
def spWhole (C : Addr) : Sp := fun vs H Q _ => ∃ (a l : Addr) (c : Cask), vs = [.ref a] ∧ ShapeAt C H a l c ∧ Wf c ∧
  ∀ (H' : Hp) (t : Addr), Same H H' → H' t = some (tF c.whole) → Q (.ref t) H'
/-! ### lists -/
theorem atI_neg {α : Type} {xs : List α} {v : α} (h : xs[xs.length - 1]? = some v) : atI xs (-1) = some v := by
  have hne : xs ≠ [] := by
    rintro rfl
    simp at h
  have hl := (List.getElem?_eq_some_iff.mp h)
  have e : xs.getLast hne = v := by
    rw [List.getLast_eq_getElem]
    exact hl.2
  have e2 : xs = xs.dropLast ++ [v] := by
    rw [← e]
    exact (List.dropLast_concat_getLast hne).symm
  rw [e2]
  exact atI_last _ _
theorem cut1 (xs : List V) : cutV xs (some 1) none = xs.drop 1 := by
  unfold cutV
  rw [HT.sIx_none, show (1 : Int) = ((1 : Nat) : Int) from rfl, HT.sIx_nat]
  cases xs with
  | nil => rfl
  | cons x r =>
    have e : min 1 (x :: r).length = 1 := by
      rw [List.length_cons]
      omega
    rw [e]
    show r.take ((x :: r).length - 1) = r
    rw [List.length_cons, Nat.add_sub_cancel, List.take_length]
section
variable {P : Program} {w : World} {K : PySem.W.Frag} {mg : Str → Option Value} {base : Heap} {C : Addr}
theorem scI : FnScope ["self", "area"] ["self", "area"] (defScope sInit) := ⟨rfl, rfl, rfl, by decide +kernel, rfl, by decide +kernel, by decide +kernel⟩
theorem ok_init {f : Addr} {fd : FuncData} (F : Fun K "__init__" "Shape.__init__" sInit f fd) (T : Txt K mg C) : FnOk P w K mg base CX0 1 f fd ["self", "area"] (spInit C) := by
  refine F.ok scI (fun vs H Q E h => ?_) (fun cdv A outer s H vs Q E hr h => ?_)
  · obtain ⟨p, dx, n, rfl, _⟩ := h
    rfl
  · obtain ⟨p, dx, n, rfl, hp, k⟩ := h
    refine ⟨_, pss_one (ps_fld (pv 0) (pe_lst (pa_cons (pe_tup (pa_cons pe_int (pa_cons (pv 1) pa_nil))) pa_nil)) rfl), ?_⟩
    refine ⟨_, rfl, (by show 2 ≤ sizeLine; decide), fun t ht => ?_⟩
    refine ⟨(by show 1 ≤ sizeLine; decide), fun l hl => ?_⟩
    have npt : p ≠ t := ne_of_none hp ht
    have hlt : l ≠ t := fun q => by
      rw [q, upd_same] at hl
      cases hl
    have hl0 : H l = none := by
      rw [upd_ne hlt] at hl
      exact hl
    have npl : p ≠ l := ne_of_none hp hl0
    refine ⟨_, rfl, p, C, dx, [], rfl, (by rw [upd_ne npl, upd_ne npt]; exact hp), T.cl, T.nM, (by show 0 < 1000; decide), ?_⟩
    refine k _ l ⟨dx, [.ref t], upd_same, by rw [upd_ne npl.symm, upd_same], ⟨t, rfl, by rw [upd_ne npt.symm, upd_ne hlt.symm, upd_same]; rfl⟩, trivial⟩ hl0 fun b o e hb => ?_
    rw [upd_ne hb, upd_ne (ne_of_none e hl0), upd_ne (ne_of_none e ht)]
    exact e
theorem scR : FnScope ["self"] ["self"] (defScope sRim) := ⟨rfl, rfl, rfl, by decide +kernel, rfl, by decide +kernel, by decide +kernel⟩
theorem ok_rim {f : Addr} {fd : FuncData} (F : Fun K "rim" "Shape.rim" sRim f fd) (T : Txt K mg C) : FnOk P w K mg base CX0 1 f fd ["self"] (spRim C) := by
  refine F.ok scR (fun vs H Q E h => ?_) (fun cdv A outer s H vs Q E hr h => ?_)
  · obtain ⟨a, l, c, rfl, _⟩ := h
    rfl
  · obtain ⟨a, l, c, rfl, ⟨dx, vs, h1, h2, h3⟩, k⟩ := h
    refine ⟨_, pss_one (ps_ret (pe_ix ix_tup (pe_ix ix_list (pe_fld (pv 0) rfl) (pe_un un_neg pe_int) (fun _ _ => rfl)) pe_int (fun _ _ => rfl))), ?_⟩
    obtain ⟨m, hm, em⟩ := high_last c
    obtain ⟨t, ht, hT⟩ := h3.get hm
    rw [← h3.len] at ht
    refine ⟨_, rfl, a, C, dx, _, _, rfl, h1, T.cl, T.nM, sF_marks l, _, rfl, l, _, _, _, rfl, rfl, SqL.of h2, atI_neg ht, t, _, _, _, rfl, rfl, SqT.of hT, atI_nat (j := 0) rfl, ?_⟩
    rw [← em] at k
    exact k
theorem scH : FnScope ["self", "p", "q", "found", "lower", "upper"] ["self", "p", "q"] (defScope sHolds) := ⟨rfl, rfl, rfl, by decide +kernel, rfl, by decide +kernel, by decide +kernel⟩
theorem drop_cons {α : Type} {l : List α} {i : Nat} {x y : α} {r : List α} (h : l.drop i = x :: y :: r) : l.drop (i + 1) = y :: r := by
  rw [← List.drop_drop, h]
  rfl
theorem drop_get {α : Type} {l : List α} {i : Nat} {x : α} {r : List α} (h : l.drop i = x :: r) : l[i]? = some x := by
  have e : (l.drop i)[0]? = some x := by rw [h]; rfl
  rw [List.getElem?_drop] at e
  exact e
/-- what stands behind some turns of holds -/
structure HInv (c : Cask) (p q i : Nat) (f : Frac) : Prop where
  small : Small (1 + 65 * i) f
  more : ∃ m rest, (all c).drop i = m :: rest ∧ rising m rest ∧ acc p q m rest f = c.holds (frac p q)
theorem mem_all {c : Cask} (h : Wf c) {m : Mark} (hm : m ∈ all c) : m.high ≤ 60 ∧ m.area ≤ 1000 := by
  rcases List.mem_cons.mp hm with e | e
  · subst e
    exact ⟨Nat.zero_le _, h.bot⟩
  · exact ⟨h.tall m e, h.wide m e⟩
theorem ok_holds {f fL fP fM fT : Addr} {fd dL dP dM dT : FuncData} (F : Fun K "holds" "Shape.holds" sHolds f fd) (T : Txt K mg C) (L : Low P w K mg base fL fP fM fT dL dP dM dT) : FnOk P w K mg base CX0 3 f fd ["self", "p", "q"] (spHolds C) := by
  refine F.ok scH (fun vs H Q E h => ?_) (fun cdv A outer s H vs Q E hr h => ?_)
  · obtain ⟨a, l, c, p, q, rfl, _⟩ := h
    rfl
  · obtain ⟨a, l, c, p, q, rfl, ⟨dx, vs, h1, h2, h3⟩, wf, hq0, hq1, k⟩ := h
    refine ⟨_, pss_cons (ps_set (i := 3) scH.nd rfl (Or.inl rfl) (pe_tup (pa_cons pe_int (pa_cons pe_int pa_nil))))
      (pss_cons (ps_for PassesOwn.never rfl (pi_zip (by rfl) T.zip (pa_cons (pe_fld (pv 0) rfl) (pa_cons (pe_slice sl_list (pe_fld (pv 0) rfl) (po_some pe_int) po_none) pa_nil)))
        (pg_tup rfl (pgs_cons (pg_name (i := 4) scH.nd rfl (Or.inl rfl)) (pgs_cons (pg_name (i := 5) scH.nd rfl (Or.inl rfl)) pgs_nil)))
        (pss_one (ps_if (pt_cmpR op_le (pe_op op_mul (pe_ix ix_tup (pv 5) pe_int (fun _ _ => rfl)) (pv 2)) (pv 1) (nomark _))
          (pss_one (ps_set (i := 3) scH.nd rfl (Or.inl rfl) (pe_call L.oP hr (by rfl) L.gP L.kP L.bP .nil pass0 (pa_cons (pv 3) (pa_cons (pe_call L.oT hr (by rfl) L.gT L.kT L.bT .nil pass0 (pa_cons (pv 4) (pa_cons (pv 5) (pa_cons (pe_ix ix_tup (pv 5) pe_int (fun _ _ => rfl)) (pa_cons pe_int pa_nil))))) pa_nil)))))
          (pss_one (ps_if (pt_cmpR op_lt (pe_op op_mul (pe_ix ix_tup (pv 4) pe_int (fun _ _ => rfl)) (pv 2)) (pv 1) (nomark _))
            (pss_one (ps_set (i := 3) scH.nd rfl (Or.inl rfl) (pe_call L.oP hr (by rfl) L.gP L.kP L.bP .nil pass0 (pa_cons (pv 3) (pa_cons (pe_call L.oT hr (by rfl) L.gT L.kT L.bT .nil pass0 (pa_cons (pv 4) (pa_cons (pv 5) (pa_cons (pv 1) (pa_cons (pv 2) pa_nil))))) pa_nil)))))
            pss_nil)))))
      (pss_one (ps_ret (pv 3)))), ?_⟩
    refine ⟨(by show 2 ≤ sizeLine; decide), fun t0 ht0 => ?_⟩
    have s0 : Same H (upd H t0 (.tup [.int 0, .int 1])) := same_upd ht0
    refine ⟨_, rfl, a, C, dx, _, _, rfl, s0 _ _ h1, T.cl, T.nM, sF_marks l, _, rfl, a, C, dx, _, _, rfl, s0 _ _ h1, T.cl, T.nM, sF_marks l, _, rfl, l, vs, rfl, SqL.of (s0 _ _ h2), fun b hb => ?_⟩
    rw [cut1]
    have s1 := s0.trans (same_upd (o := .lst (vs.drop 1)) hb)
    refine ⟨l, b, vs, vs.drop 1, rfl, SqL.of (s1 _ _ h2), SqL.of upd_same, ?_⟩
    generalize hH1 : upd (upd H t0 (.tup [.int 0, .int 1])) b (.lst (vs.drop 1)) = H1 at s1 ⊢
    have hb1 : H1 b = some (.lst (vs.drop 1)) := by rw [← hH1]; exact upd_same
    have ht1 : H1 t0 = some (tF ⟨0, 1⟩) := by
      rw [← hH1, upd_ne (ne_of_none (upd_same (H := H) (a := t0)) hb), upd_same]
      rfl
    have hlen : vs.length = c.marks.length + 1 := h3.len
    refine for_it (walk_zip (K := K) (n := (vs.drop 1).length) (by rw [List.length_drop]; omega)) (fun i σ H' => ∃ (fr : Frac) (t : Addr) (lo up : Option V), σ = [some (.ref a), some (nV p), some (nV q), some (.ref t), lo, up] ∧ Same H1 H' ∧ H' t = some (tF fr) ∧ HInv c p q i fr)
      ⟨⟨0, 1⟩, t0, none, none, rfl, Same.refl _, ht1, ⟨by decide, by decide, by decide⟩, ⟨0, c.bottom⟩, c.marks, rfl, wf.rise, holds_acc wf hq0⟩
      (fun i σ H' _ ⟨_, _, _, _, _, s5, _⟩ => ⟨SqL.of (s5 _ _ (s1 _ _ h2)), SqL.of (s5 _ _ hb1)⟩) ?_ ?_
    · rintro i pr σ H' Hp6 _ ⟨fr, t, lo, up, rfl, s5, hft, hI⟩ ⟨Tp, x, y, rfl, hTp, rfl, hx, hy⟩
      replace hx : vs[i]? = some x := hx
      replace hy : (vs.drop 1)[i]? = some y := hy
      obtain ⟨m, rest, hdr, hri, hacc⟩ := hI.more
      have hil : i < c.marks.length := by
        have z := (List.getElem?_eq_some_iff.mp hy).1
        rw [List.length_drop] at z
        omega
      cases rest with
      | nil =>
        have z := congrArg List.length hdr
        rw [List.length_drop] at z
        have z2 : (all c).length = c.marks.length + 1 := rfl
        rw [z2] at z
        simp only [List.length_cons, List.length_nil] at z
        omega
      | cons k2 rest =>
        have hdr2 := drop_cons hdr
        have gm := drop_get hdr
        have gk := drop_get hdr2
        obtain ⟨ta, hta, Hta⟩ := h3.get gm
        obtain ⟨tb, htb, Htb⟩ := h3.get gk
        rw [hx] at hta
        rw [List.getElem?_drop, Nat.add_comm, htb] at hy
        cases hta
        cases hy
        have hlt := hri.1
        have bm := mem_all wf (List.mem_of_getElem? gm)
        have bk := mem_all wf (List.mem_of_getElem? gk)
        have hsi : 1 + 65 * (i + 1) ≤ 1000 := by
          have := wf.few
          omega
        refine ⟨Tp, _, rfl, SqT.of upd_same, rfl, _, _, rfl, _, _, rfl, rfl, ?_⟩
        have s6 : Same H1 (upd H' Tp (.tup [.ref ta, .ref tb])) := s5.trans (same_upd hTp)
        have hft6 : (upd H' Tp (.tup [.ref ta, .ref tb])) t = some (tF fr) := same_upd hTp _ _ hft
        generalize upd H' Tp (.tup [.ref ta, .ref tb]) = H6 at s6 hft6 ⊢
        have Ha6 := s6 _ _ (s1 _ _ Hta)
        have Hb6 := s6 _ _ (s1 _ _ Htb)
        refine ⟨_, rfl, tb, _, _, _, rfl, rfl, SqT.of Hb6, atI_nat (j := 0) rfl, _, rfl, _, _, rfl, rfl, .inl ⟨by omega, by omega⟩, _, rfl, _, _, rfl, rfl, _, rfl, ?_⟩
        have eb : ∀ z : Nat, ((z : Int) * (q : Int)) = ((z * q : Nat) : Int) := fun z => (Int.natCast_mul z q).symm
        by_cases c1 : k2.high * q ≤ p
        · refine if_true_of (decide_eq_true (by rw [eb]; omega)) ?_
          refine ⟨_, rfl, _, rfl, _, rfl, _, rfl, tb, _, _, _, rfl, rfl, SqT.of Hb6, atI_nat (j := 0) rfl, ta, tb, m, k2, k2.high, 1, rfl, Ha6, Hb6, hri.1, bk.1, bm.2, bk.2, by decide, by decide, by omega, by omega, fun t1 ht1' => ?_⟩
          have sp : Small 64 (partF m k2 k2.high 1) := Small.part hri.1 bk.1 bm.2 bk.2 (by decide) (by decide) (by omega)
          refine ⟨t, t1, fr, partF m k2 k2.high 1, rfl, same_upd ht1' _ _ hft6, upd_same, hI.small.mono (by omega), sp.mono (by decide), fun t2 ht2 => ?_⟩
          refine ⟨_, t2, _, _, rfl, (s6.trans (same_upd ht1')).trans (same_upd ht2), upd_same, (hI.small.add sp).mono (by omega), k2, rest, hdr2, hri.2, ?_⟩
          rw [← hacc]
          show _ = acc p q k2 rest (if k2.high * q ≤ p then Sj05.add fr (partF m k2 k2.high 1) else _)
          rw [if_pos c1]
        · refine if_false_of (decide_eq_false (by rw [eb]; omega)) ?_
          refine ⟨_, rfl, ta, _, _, _, rfl, rfl, SqT.of Ha6, atI_nat (j := 0) rfl, _, rfl, _, _, rfl, rfl, .inl ⟨by omega, by omega⟩, _, rfl, _, _, rfl, rfl, _, rfl, ?_⟩
          by_cases c2 : m.high * q < p
          · refine if_true_of (decide_eq_true (by rw [eb]; omega)) ?_
            refine ⟨_, rfl, _, rfl, _, rfl, _, rfl, _, rfl, ta, tb, m, k2, p, q, rfl, Ha6, Hb6, hri.1, bk.1, bm.2, bk.2, hq0, hq1, by omega, by omega, fun t1 ht1' => ?_⟩
            have sp : Small 64 (partF m k2 p q) := Small.part hri.1 bk.1 bm.2 bk.2 hq0 hq1 (by omega)
            refine ⟨t, t1, fr, partF m k2 p q, rfl, same_upd ht1' _ _ hft6, upd_same, hI.small.mono (by omega), sp.mono (by decide), fun t2 ht2 => ?_⟩
            refine ⟨_, t2, _, _, rfl, (s6.trans (same_upd ht1')).trans (same_upd ht2), upd_same, (hI.small.add sp).mono (by omega), k2, rest, hdr2, hri.2, ?_⟩
            rw [← hacc]
            show _ = acc p q k2 rest (if k2.high * q ≤ p then _ else if m.high * q < p then Sj05.add fr (partF m k2 p q) else fr)
            rw [if_neg c1, if_pos c2]
          · refine if_false_of (decide_eq_false (by rw [eb]; omega)) ?_
            refine ⟨fr, t, _, _, rfl, s6, hft6, hI.small.mono (by omega), k2, rest, hdr2, hri.2, ?_⟩
            rw [← hacc]
            show _ = acc p q k2 rest (if k2.high * q ≤ p then _ else if m.high * q < p then _ else fr)
            rw [if_neg c1, if_neg c2]
    · rintro σ H' ⟨fr, t, lo, up, rfl, s5, hft, hI⟩
      obtain ⟨m, rest, hdr, hri, hacc⟩ := hI.more
      have hr0 : rest = [] := by
        have z := congrArg List.length hdr
        rw [List.length_drop, List.length_drop] at z
        have z2 : (all c).length = c.marks.length + 1 := rfl
        rw [z2, hlen, List.length_cons] at z
        exact List.eq_nil_of_length_eq_zero (by omega)
      subst hr0
      refine ⟨_, rfl, ?_⟩
      refine k H' t (s1.trans s5) ?_
      rw [← hacc]
      exact hft
theorem scW : FnScope ["self"] ["self"] (defScope sWhole) := ⟨rfl, rfl, rfl, by decide +kernel, rfl, by decide +kernel, by decide +kernel⟩
theorem ok_whole {f fR fH : Addr} {fd dR dH : FuncData} (F : Fun K "whole" "Shape.whole" sWhole f fd) (T : Txt K mg C) (mR : Meth K C "rim" fR) (bR : Binds K dR ["self"] []) (oR : FnOk P w K mg base CX0 1 fR dR ["self"] (spRim C))
    (mH : Meth K C "holds" fH) (bH : Binds K dH ["self", "p", "q"] []) (oH : FnOk P w K mg base CX0 3 fH dH ["self", "p", "q"] (spHolds C)) : FnOk P w K mg base CX0 4 f fd ["self"] (spWhole C) := by
  refine F.ok scW (fun vs H Q E h => ?_) (fun cdv A outer s H vs Q E hr h => ?_)
  · obtain ⟨a, l, c, rfl, _⟩ := h
    rfl
  · obtain ⟨a, l, c, rfl, ⟨dx, vs, h1, h2, h3⟩, wf, k⟩ := h
    refine ⟨_, pss_one (ps_ret (pe_meth (pv 0) T.cl mH oH hr bH .nil pass0 (pa_cons (pe_meth0 (pv 0) T.cl mR oR (hr.mono (by decide)) bR .nil pass0) (pa_cons pe_int pa_nil)))), ?_⟩
    refine ⟨_, rfl, a, dx, _, rfl, h1, sF_no l (by decide +kernel), _, rfl, a, dx, _, rfl, h1, sF_no l (by decide +kernel), a, l, c, rfl, ⟨dx, vs, h1, h2, h3⟩, ?_⟩
    refine ⟨a, l, c, c.high, 1, rfl, ⟨dx, vs, h1, h2, h3⟩, wf, by decide, by decide, fun H' t s1 ht => k H' t s1 ?_⟩
    rw [whole_eq]
    exact ht
end
end Rg
namespace Rg
open PySem PySem.Spec PyProof.Rows L2
open Sj05 (Frac Mark Cask frac)
def spDeep (C : Addr) : Sp := fun vs H Q _ => ∃ (a l b : Addr) (c : Cask) (v : Frac), vs = [.ref a, .ref b] ∧ ShapeAt C H a l c ∧ Wf c ∧ H b = some (tF v) ∧ Small 1000 v ∧
  ∀ (H' : Hp), Same H H' → Q (nV (c.deep v)) H'
def spNotch (C : Addr) : Sp := fun vs H Q _ => ∃ (a l : Addr) (c : Cask) (n : Nat), vs = [.ref a, nV n] ∧ ShapeAt C H a l c ∧ Wf c ∧ 0 < n ∧ n ≤ 20 ∧
  ∀ (H' : Hp) (t : Addr), Same H H' → H t = none → H' t = some (.lst ((c.notches n).map nV)) → Q (.ref t) H'
section
variable {P : Program} {w : World} {K : PySem.W.Frag} {mg : Str → Option Value} {base : Heap} {C : Addr}
theorem scD : FnScope ["self", "much", "low", "high", "middle"] ["self", "much"] (defScope sDeep) := ⟨rfl, rfl, rfl, by decide +kernel, rfl, by decide +kernel, by decide +kernel⟩
theorem ok_deep {f fR fH fL fP fM fT : Addr} {fd dR dH dL dP dM dT : FuncData} {th : Tok} (F : Fun K "deep" "Shape.deep" sDeep f fd) (T : Txt K mg C) (L : Low P w K mg base fL fP fM fT dL dP dM dT) (gH : mg "HUNDREDTHS" = some (.int 100 th))
    (mR : Meth K C "rim" fR) (bR : Binds K dR ["self"] []) (oR : FnOk P w K mg base CX0 1 fR dR ["self"] (spRim C))
    (mH : Meth K C "holds" fH) (bH : Binds K dH ["self", "p", "q"] []) (oH : FnOk P w K mg base CX0 3 fH dH ["self", "p", "q"] (spHolds C)) : FnOk P w K mg base CX0 4 f fd ["self", "much"] (spDeep C) := by
  refine F.ok scD (fun vs H Q E h => ?_) (fun cdv A outer s H vs Q E hr h => ?_)
  · obtain ⟨a, l, b, c, v, rfl, _⟩ := h
    rfl
  · obtain ⟨a, l, b, c, v, rfl, sh, wf, hb, sv, k⟩ := h
    have hr1 : Room 1 _ := hr.mono (by decide)
    obtain ⟨dx, vs, h1, h2, h3⟩ := id sh
    refine ⟨_, pss_cons (ps_set (i := 2) scD.nd rfl (Or.inl rfl) pe_int)
      (pss_cons (ps_set (i := 3) scD.nd rfl (Or.inl rfl) (pe_op op_mul (pe_glob (v := .int 100) (by rfl) gH ⟨_, rfl⟩) (pe_meth0 (pv 0) T.cl mR oR hr1 bR .nil pass0)))
      (pss_cons (ps_while PassesOwn.never (pt_cmpR op_lt (pv 2) (pv 3) (nomark _))
        (pss_cons (ps_set (i := 4) scD.nd rfl (Or.inl rfl) (pe_op op_fdiv (pe_op op_add (pe_op op_add (pv 2) (pv 3)) pe_int) pe_int))
        (pss_one (ps_if (pt_val (pe_call L.oM hr1 (by rfl) L.gM L.kM L.bM .nil pass0 (pa_cons (pe_meth (pv 0) T.cl mH oH hr bH .nil pass0 (pa_cons (pv 4) (pa_cons (pe_glob (v := .int 100) (by rfl) gH ⟨_, rfl⟩) pa_nil))) (pa_cons (pv 1) pa_nil))))
          (pss_one (ps_set (i := 3) scD.nd rfl (Or.inl rfl) (pe_op op_sub (pv 4) pe_int)))
          (pss_one (ps_set (i := 2) scD.nd rfl (Or.inl rfl) (pv 4)))))))
      (pss_one (ps_ret (pv 2))))), ?_⟩
    refine ⟨_, rfl, a, dx, _, rfl, h1, sF_no l (by decide +kernel), a, l, c, rfl, sh, _, _, rfl, rfl, .inl ⟨by decide, by decide⟩, ?_⟩
    refine ⟨fun m σ H' => ∃ (lo hi : Nat) (md : Option V), σ = [some (.ref a), some (.ref b), some (nV lo), some (nV hi), md] ∧ Same H H' ∧ DeepInv c v lo hi ∧ m = hi - lo, ⟨_, 0, 100 * c.high, none, ?_, Same.refl _, DeepInv.start wf v, rfl⟩, ?_⟩
    · show [some (V.ref a), some (V.ref b), some (V.int 0), some (V.int (100 * (c.high : Int))), none] = _
      rw [nV, nV, Int.natCast_mul]
      rfl
    rintro m σ H' ⟨lo, hi, md, rfl, s1, di, rfl⟩
    refine ⟨_, rfl, _, rfl, _, _, rfl, rfl, _, rfl, ?_⟩
    by_cases hlt : lo < hi
    · refine if_true_of (decide_eq_true (by omega)) ?_
      refine ⟨fun σ' H2 => ∃ m', m' < hi - lo ∧ ∃ (lo hi : Nat) (md : Option V), σ' = [some (.ref a), some (.ref b), some (nV lo), some (nV hi), md] ∧ Same H H2 ∧ DeepInv c v lo hi ∧ m' = hi - lo, fun _ _ h => h, ?_⟩
      refine ⟨_, rfl, _, rfl, _, _, rfl, rfl, _, _, rfl, rfl, _, _, rfl, rfl, ⟨by decide, by decide⟩, ?_⟩
      have em : (((lo : Int) + (hi : Int) + 1) / 2) = (((lo + hi + 1) / 2 : Nat) : Int) := by omega
      have sh1 := sh.keep s1
      refine ⟨_, rfl, a, dx, _, rfl, s1 _ _ h1, sF_no l (by decide +kernel), _, rfl, a, l, c, (lo + hi + 1) / 2, 100, ?_, sh1, wf, by decide, by decide, fun H2 t s2 ht => ?_⟩
      · show [V.ref a, V.int (((lo : Int) + (hi : Int) + 1) / 2), V.int 100] = _
        rw [em]
        rfl
      · have s12 := s1.trans s2
        refine ⟨_, rfl, t, b, _, v, rfl, ht, s12 _ _ hb, (Small.holds wf (by decide) (by decide)).mono (by decide), sv, _, rfl, ?_⟩
        cases hc : Sj05.leq (c.holds (frac ((lo + hi + 1) / 2) 100)) v with
        | true =>
          refine if_false_of rfl ?_
          refine ⟨_, rfl, ?_⟩
          refine ⟨hi - (lo + hi + 1) / 2, by omega, (lo + hi + 1) / 2, hi, some (nV ((lo + hi + 1) / 2)), ?_, s12, di.up hlt hc, rfl⟩
          show [some (V.ref a), some (V.ref b), some (V.int (((lo : Int) + (hi : Int) + 1) / 2)), some (nV hi), some (V.int (((lo : Int) + (hi : Int) + 1) / 2))] = _
          rw [em]
        | false =>
          refine if_true_of rfl ?_
          refine ⟨_, rfl, _, _, rfl, rfl, ?_⟩
          refine ⟨(lo + hi + 1) / 2 - 1 - lo, by omega, lo, (lo + hi + 1) / 2 - 1, some (nV ((lo + hi + 1) / 2)), ?_, s12, di.down hlt (by show ¬ Sj05.leq (c.holds (frac ((lo + hi + 1) / 2) 100)) v = true; rw [hc]; exact Bool.false_ne_true), rfl⟩
          show [some (V.ref a), some (V.ref b), some (nV lo), some (V.int ((((lo : Int) + (hi : Int) + 1) / 2) - 1)), some (V.int (((lo : Int) + (hi : Int) + 1) / 2))] = _
          have e2 : ((((lo + hi + 1) / 2 : Nat) : Int) - 1) = (((lo + hi + 1) / 2 - 1 : Nat) : Int) := by omega
          rw [em, e2]
    · refine if_false_of (decide_eq_false (by omega)) ?_
      refine ⟨_, rfl, ?_⟩
      have e := k H' s1
      rw [di.done hlt] at e
      exact e
theorem scN : FnScope ["self", "parts", "above", "below", "k"] ["self", "parts"] (defScope sNotch) := ⟨rfl, rfl, rfl, by decide +kernel, rfl, by decide +kernel, by decide +kernel⟩
theorem ok_notch {f fW fD fL fP fM fT : Addr} {fd dW dD dL dP dM dT : FuncData} (F : Fun K "notches" "Shape.notches" sNotch f fd) (T : Txt K mg C) (L : Low P w K mg base fL fP fM fT dL dP dM dT)
    (mW : Meth K C "whole" fW) (bW : Binds K dW ["self"] []) (oW : FnOk P w K mg base CX0 4 fW dW ["self"] (spWhole C))
    (mD : Meth K C "deep" fD) (bD : Binds K dD ["self", "much"] []) (oD : FnOk P w K mg base CX0 4 fD dD ["self", "much"] (spDeep C)) : FnOk P w K mg base CX0 5 f fd ["self", "parts"] (spNotch C) := by
  refine F.ok scN (fun vs H Q E h => ?_) (fun cdv A outer s H vs Q E hr h => ?_)
  · obtain ⟨a, l, c, n, rfl, _⟩ := h
    rfl
  · obtain ⟨a, l, c, n, rfl, sh, wf, hn0, hn1, k⟩ := h
    have hr1 : Room 1 _ := hr.mono (by decide)
    obtain ⟨dx, vs, h1, h2, h3⟩ := id sh
    refine ⟨_, pss_cons (ps_asg (pe_meth0 (pv 0) T.cl mW oW hr bW .nil pass0) (pg_tup rfl (pgs_cons (pg_name (i := 2) scN.nd rfl (Or.inr rfl)) (pgs_cons (pg_name (i := 3) scN.nd rfl (Or.inr rfl)) pgs_nil))))
      (pss_one (ps_ret (pe_lc (own := [("k", 4)]) (g := gName 4) (tt := tYes) rfl scN.nd (pi_range2 (by rfl) T.range (pa_cons pe_int (pa_cons (pe_op op_add (pv 1) pe_int) pa_nil)))
        (blkOk_by (own := [("k", 4)]) (N := ["self", "parts", "above", "below", "k"]) (sc := defScope sNotch) (by decide +kernel)) (fun _ _ _ _ _ => pg_name (i := 4) scN.nd rfl (Or.inl rfl)) (fun _ _ _ _ _ => pts_nil)
        (fun _ _ _ _ _ => pe_meth (pv 0) T.cl mD oD hr bD .nil pass0 (pa_cons (pe_call L.oL hr1 (by rfl) L.gL L.kL L.bL .nil pass0 (pa_cons (pe_op op_mulW (pv 2) (pv 4)) (pa_cons (pe_op op_mulW (pv 3) (pv 1)) pa_nil))) pa_nil))))), ?_⟩
    refine ⟨_, rfl, a, dx, _, rfl, h1, sF_no l (by decide +kernel), a, l, c, rfl, sh, wf, fun H1 tw s1 hw => ?_⟩
    refine ⟨tw, _, rfl, SqT.of hw, rfl, _, _, rfl, _, _, rfl, rfl, ?_⟩
    refine ⟨_, rfl, _, _, rfl, rfl, _, _, rfl, ⟨by decide, by decide, by omega, by omega⟩, fun D hD => ?_⟩
    have hsw := Small.whole wf
    have en : ((n : Int) + 1 - 1).toNat = n := by omega
    rw [en]
    refine lc_range (lo := 1) (n := n) (fun i H' => Same H1 H' ∧ H' D = some (.lst (((c.notches n).take i).map nV))) ⟨same_upd hD, upd_same⟩ ?_ ?_
    · rintro i H' hi ⟨s2, hL⟩
      have s12 := s1.trans s2
      refine ⟨rfl, ?_⟩
      unfold tYes
      dsimp only
      rw [if_pos rfl]
      refine ⟨_, rfl, a, dx, _, rfl, s12 _ _ h1, sF_no l (by decide +kernel), _, rfl, _, rfl, _, _, rfl, rfl, wide_mul (nat_lt_wide hsw.1) (show ((1 : Int) + (i : Int)).natAbs < 2 ^ 64 by omega) (by decide) (by decide) (by decide), ?_⟩
      refine ⟨_, rfl, _, rfl, _, _, rfl, rfl, wide_mul (nat_lt_wide hsw.2.1) (show ((n : Int)).natAbs < 2 ^ 64 by omega) (by decide) (by decide) (by decide), ?_⟩
      have hd0 : 0 < c.whole.d * n := Nat.mul_pos hsw.2.2 hn0
      have b1 : c.whole.n * (i + 1) < 2 ^ 664 := by
        have z := Nat.mul_lt_mul'' hsw.1 (show i + 1 < 2 ^ 64 by omega)
        rw [← Nat.pow_add] at z
        exact z
      have b2 : c.whole.d * n < 2 ^ 664 := by
        have z := Nat.mul_lt_mul'' hsw.2.1 (show n < 2 ^ 64 by omega)
        rw [← Nat.pow_add] at z
        exact z
      refine ⟨c.whole.n * (i + 1), c.whole.d * n, ?_, hd0, Nat.lt_of_lt_of_le b2 (Nat.pow_le_pow_right (by decide) (by decide)), fun t ht => ?_⟩
      · show [V.int ((c.whole.n : Int) * (1 + (i : Int))), V.int ((c.whole.d : Int) * (n : Int))] = [V.int _, V.int _]
        rw [Int.natCast_mul, Int.natCast_mul, Int.natCast_add, Int.add_comm 1 (i : Int)]
        rfl
      · have s3 : Same H' (upd H' t (tF (frac (c.whole.n * (i + 1)) (c.whole.d * n)))) := same_upd ht
        refine ⟨a, l, t, c, _, rfl, sh.keep (s12.trans s3), wf, upd_same, (Small.frac b1 b2 hd0).mono (by decide), fun H2 s4 => ?_⟩
        have s34 := s3.trans s4
        have hlen : (c.notches n).length = n := by
          unfold Cask.notches
          rw [List.length_map, List.length_range]
        have hget : (c.notches n)[i]? = some (c.deep (frac (c.whole.n * (i + 1)) (c.whole.d * n))) := by
          unfold Cask.notches
          rw [List.getElem?_map, List.getElem?_range hi]
          show some (c.deep (frac ((i + 1) * c.whole.n) (n * c.whole.d))) = _
          rw [Nat.mul_comm (i + 1), Nat.mul_comm n]
        refine ⟨_, s34 _ _ hL, ?_, fun b o q => ?_, ?_⟩
        · rw [List.length_map, List.length_take]
          exact Nat.lt_of_le_of_lt (show min i (c.notches n).length ≤ 20 by omega) (by decide)
        · have nb : b ≠ D := ne_of_none q hD
          rw [upd_ne nb]
          exact s34 _ _ (s2 _ _ q)
        · rw [upd_same, List.take_add_one, hget, List.map_append]
          rfl
    · rintro H' ⟨s2, hL⟩
      refine k H' D (s1.trans s2) (s1.free hD) ?_
      have hlen : (c.notches n).length = n := by
        unfold Cask.notches
        rw [List.length_map, List.length_range]
      rw [hL, List.take_of_length_le (by omega)]
end
end Rg
namespace Rg
open PySem PySem.Spec PyProof.Rows L2
open Sj05 (Frac Mark Cask frac)
/-! ### constants of the module -/
structure Cst (K : PySem.W.Frag) (mg : Str → Option Value) (aW aF : Addr) (tA tH tM tB tP : Tok) : Prop where
  gW : mg "WRONG" = some (.ref aW)
  lW : ∀ H, SqL K H aW [.int (-1)]
  gF : mg "FULL" = some (.ref aF)
  lF : ∀ H, SqL K H aF [.int (-5)]
  gA : mg "MOST_AREA" = some (.int 1000 tA)
  gH : mg "MOST_HEIGHT" = some (.int 60 tH)
  gM : mg "MOST_MARKS" = some (.int 8 tM)
  gB : mg "MOST_BELOW" = some (.int 1000 tB)
  gP : mg "MOST_PARTS" = some (.int 20 tP)
/-- the methods as they stand -/
structure Mets (P : Program) (w : World) (K : PySem.W.Frag) (mg : Str → Option Value) (base : Heap) (C : Addr) (fR fH fW fD fN : Addr) (dR dH dW dD dN : FuncData) : Prop where
  mR : Meth K C "rim" fR
  bR : Binds K dR ["self"] []
  oR : FnOk P w K mg base CX0 1 fR dR ["self"] (spRim C)
  mH : Meth K C "holds" fH
  bH : Binds K dH ["self", "p", "q"] []
  oH : FnOk P w K mg base CX0 3 fH dH ["self", "p", "q"] (spHolds C)
  mW : Meth K C "whole" fW
  bW : Binds K dW ["self"] []
  oW : FnOk P w K mg base CX0 4 fW dW ["self"] (spWhole C)
  mD : Meth K C "deep" fD
  bD : Binds K dD ["self", "much"] []
  oD : FnOk P w K mg base CX0 4 fD dD ["self", "much"] (spDeep C)
  mN : Meth K C "notches" fN
  bN : Binds K dN ["self", "parts"] []
  oN : FnOk P w K mg base CX0 5 fN dN ["self", "parts"] (spNotch C)
/-- an answer's numbers -/
def ansL (r : Sj05.Ans) : List Int := r.v :: r.l
/-- what a call's def does: the Shape is as the call leaves it, the answer is a new list -/
def Post (C : Addr) (H : Hp) (a l : Addr) (c : Cask) (q : Sj05.Call) (Q : VK) : Prop := ∀ (H' : Hp) (t : Addr), (∀ b o, H b = some o → b ≠ l → H' b = some o) → ShapeAt C H' a l (Sj05.step c q).1 → H t = none →
  H' t = some (.lst ((ansL (Sj05.step c q).2).map V.int)) → Q (.ref t) H'
/-- where the Shape stays -/
theorem Post.stay {C : Addr} {H : Hp} {a l : Addr} {c : Cask} {q : Sj05.Call} {Q : VK} (k : Post C H a l c q Q) (sh : ShapeAt C H a l c) {H' : Hp} {t : Addr} {r : Sj05.Ans} (s : Same H H') (e : Sj05.step c q = (c, r)) (ht : H t = none)
    (h : H' t = some (.lst ((ansL r).map V.int))) : Q (.ref t) H' := by
  refine k H' t (fun b o q _ => s b o q) ?_ ht ?_
  · rw [e]
    exact sh.keep s
  · rw [e]
    exact h
def spMark (C : Addr) : Sp := fun vs H Q _ => ∃ (a l : Addr) (c : Cask) (h n : Nat), vs = [.ref a, nV h, nV n] ∧ ShapeAt C H a l c ∧ Wf c ∧ Post C H a l c (.mark ⟨h, n⟩) Q
def spHold2 (C : Addr) : Sp := fun vs H Q _ => ∃ (a l : Addr) (c : Cask) (p q : Nat), vs = [.ref a, nV p, nV q] ∧ ShapeAt C H a l c ∧ Wf c ∧ Post C H a l c (.holds p q) Q
def spDeep2 (C : Addr) : Sp := fun vs H Q _ => ∃ (a l : Addr) (c : Cask) (p q : Nat), vs = [.ref a, nV p, nV q] ∧ ShapeAt C H a l c ∧ Wf c ∧ p < 2 ^ 64 ∧ Post C H a l c (.deep p q) Q
def spNotch2 (C : Addr) : Sp := fun vs H Q _ => ∃ (a l : Addr) (c : Cask) (n : Nat), vs = [.ref a, nV n] ∧ ShapeAt C H a l c ∧ Wf c ∧ Post C H a l c (.notches n) Q
section
variable {P : Program} {w : World} {K : PySem.W.Frag} {mg : Str → Option Value} {base : Heap} {C : Addr}
variable {aW aF : Addr} {tA tH tM tB tP : Tok} {fR fH fW fD fN fL fP fM fT : Addr} {dR dH dW dD dN dL dP dM dT : FuncData}
theorem scMk : FnScope ["cask", "height", "area"] ["cask", "height", "area"] (defScope sMark) := ⟨rfl, rfl, rfl, by decide +kernel, rfl, by decide +kernel, by decide +kernel⟩
theorem ok_mark {f : Addr} {fd : FuncData} (F : Fun K "mark" "mark" sMark f fd) (T : Txt K mg C) (G : Cst K mg aW aF tA tH tM tB tP) (M : Mets P w K mg base C fR fH fW fD fN dR dH dW dD dN) : FnOk P w K mg base CX0 2 f fd ["cask", "height", "area"] (spMark C) := by
  refine F.ok scMk (fun vs H Q E h => ?_) (fun cdv A outer s H vs Q E hr h => ?_)
  · obtain ⟨a, l, c, h, n, rfl, _⟩ := h
    rfl
  · obtain ⟨a, l, c, h, n, rfl, sh, wf, k⟩ := h
    obtain ⟨dx, vs, h1, h2, h3⟩ := id sh
    refine ⟨_, pss_cons (ps_if (PW.pt (pw_or (pt_cmpR op_le (pv 1) (pe_meth0 (pv 0) T.cl M.mR M.oR hr M.bR .nil pass0) (nomark _)) (pw_or (pt_cmpR op_gt (pv 1) (pe_glob (v := .int 60) (by rfl) G.gH ⟨_, rfl⟩) (nomark _)) (pw_or1 (pt_cmpR op_gt (pv 2) (pe_glob (v := .int 1000) (by rfl) G.gA ⟨_, rfl⟩) (nomark _))))))
        (pss_one (ps_ret (pe_callTy call_list_of (by rfl) T.list (by decide +kernel) (pa_cons (pe_glob (v := .ref aW) (by rfl) G.gW rfl) pa_nil)))) pss_nil)
      (pss_cons (ps_if (pt_cmpR op_gt (pe_callB call_len_seq (by rfl) T.len PySem.boot_len (pa_cons (pe_fld (pv 0) rfl) pa_nil)) (pe_glob (v := .int 8) (by rfl) G.gM ⟨_, rfl⟩) (nomark _))
        (pss_one (ps_ret (pe_callTy call_list_of (by rfl) T.list (by decide +kernel) (pa_cons (pe_glob (v := .ref aF) (by rfl) G.gF rfl) pa_nil)))) pss_nil)
      (pss_cons (ps_expr (pe_bm PySem.F.plainAttrs_list PySem.F.slot_list_append PySem.F.type_list_append mt_append (pe_fld (pv 0) rfl) (pa_cons (pe_tup (pa_cons (pv 1) (pa_cons (pv 2) pa_nil))) pa_nil)))
      (pss_one (ps_ret (pe_lst (pa_cons (pe_op op_sub (pe_callB call_len_seq (by rfl) T.len PySem.boot_len (pa_cons (pe_fld (pv 0) rfl) pa_nil)) pe_int) pa_nil)))))), ?_⟩
    have bad : (h ≤ c.high ∨ 60 < h ∨ 1000 < n) → ∀ t : Addr, H t = none → Q (.ref t) (upd H t (.lst [.int (-1)])) := fun hb t ht => by
      refine k.stay sh (same_upd ht) (r := Sj05.ok (-1)) ?_ ht upd_same
      show (if h ≤ c.high ∨ Sj05.HIGH < h ∨ Sj05.AREA < n then (c, Sj05.ok (-1)) else _) = _
      rw [if_pos (show h ≤ c.high ∨ Sj05.HIGH < h ∨ Sj05.AREA < n from hb)]
    refine ⟨_, rfl, _, rfl, a, dx, _, rfl, h1, sF_no l (by decide +kernel), a, l, c, rfl, sh, _, _, rfl, rfl, _, rfl, ?_⟩
    by_cases c1 : h ≤ c.high
    · refine if_true_of (decide_eq_true (by omega)) ?_
      refine if_true_of rfl ?_
      exact ⟨aW, _, rfl, .inl (G.lW _), bad (.inl c1)⟩
    refine if_false_of (decide_eq_false (by omega)) ?_
    refine ⟨_, rfl, _, _, rfl, rfl, _, rfl, ?_⟩
    by_cases c2 : 60 < h
    · refine if_true_of (decide_eq_true (by omega)) ?_
      refine if_true_of rfl ?_
      exact ⟨aW, _, rfl, .inl (G.lW _), bad (.inr (.inl c2))⟩
    refine if_false_of (decide_eq_false (by omega)) ?_
    refine ⟨_, rfl, _, _, rfl, rfl, _, rfl, ?_⟩
    by_cases c3 : 1000 < n
    · refine if_true_of (decide_eq_true (by omega)) ?_
      exact ⟨aW, _, rfl, .inl (G.lW _), bad (.inr (.inr c3))⟩
    refine if_false_of (decide_eq_false (by omega)) ?_
    have hlen : vs.length = c.marks.length + 1 := h3.len
    have st : Sj05.step c (.mark ⟨h, n⟩) = if Sj05.MARKS ≤ c.marks.length then (c, Sj05.ok (-5)) else ({ c with marks := c.marks ++ [⟨h, n⟩] }, Sj05.ok ((c.marks.length : Nat) + 1)) := by
      show (if h ≤ c.high ∨ Sj05.HIGH < h ∨ Sj05.AREA < n then (c, Sj05.ok (-1)) else _) = _
      rw [if_neg (show ¬ (h ≤ c.high ∨ Sj05.HIGH < h ∨ Sj05.AREA < n) from fun z => by
        have e1 : Sj05.HIGH = 60 := rfl
        have e2 : Sj05.AREA = 1000 := rfl
        omega)]
    refine ⟨_, rfl, a, C, dx, _, _, rfl, h1, T.cl, T.nM, sF_marks l, l, _, rfl, .inl (SqL.of h2), _, _, rfl, rfl, _, rfl, ?_⟩
    by_cases c4 : 8 ≤ c.marks.length
    · refine if_true_of (decide_eq_true (by omega)) ?_
      refine ⟨aF, _, rfl, .inl (G.lF _), fun t ht => ?_⟩
      refine k.stay sh (same_upd ht) (r := Sj05.ok (-5)) ?_ ht upd_same
      rw [st, if_pos (show Sj05.MARKS ≤ c.marks.length from c4)]
    refine if_false_of (decide_eq_false (by omega)) ?_
    refine ⟨_, rfl, a, C, dx, _, _, rfl, h1, T.cl, T.nM, sF_marks l, .inl ⟨rfl, _, SqL.of h2⟩, _, rfl, _, rfl, (by show 2 ≤ sizeLine; decide), fun t ht => ?_⟩
    have s1 : Same H (upd H t (.tup [nV h, nV n])) := same_upd ht
    refine ⟨l, _, _, rfl, rfl, s1 _ _ h2, ?_, ?_⟩
    · rw [hlen]
      exact Nat.lt_of_le_of_lt (show c.marks.length + 1 ≤ 9 by have := wf.few; omega) (by decide)
    have nal : a ≠ l := ne_of h1 h2 (by intro z; cases z)
    have nlt : t ≠ l := (ne_of_none h2 ht).symm
    refine ⟨_, rfl, a, C, dx, _, _, rfl, (by rw [upd_ne nal]; exact s1 _ _ h1), T.cl, T.nM, sF_marks l, l, _, rfl, .inl (SqL.of upd_same), _, _, rfl, rfl, (by show 1 ≤ sizeLine; decide), fun r hr' => ?_⟩
    have nrl : r ≠ l := fun z => by
      rw [z, upd_same] at hr'
      cases hr'
    have hr0 : H r = none := by
      rw [upd_ne nrl] at hr'
      exact s1.free hr'
    have st2 : Sj05.step c (.mark ⟨h, n⟩) = ({ c with marks := c.marks ++ [⟨h, n⟩] }, Sj05.ok ((c.marks.length : Nat) + 1)) := by
      rw [st, if_neg (show ¬ Sj05.MARKS ≤ c.marks.length from c4)]
    have keep : ∀ b o, H b = some o → b ≠ l → upd (upd (upd H t (.tup [nV h, nV n])) l (.lst (vs ++ [.ref t]))) r (.lst [.int (((vs ++ [V.ref t]).length : Nat) - 1)]) b = some o := fun b o q nb => by
      rw [upd_ne (ne_of_none q hr0), upd_ne nb]
      exact s1 _ _ q
    refine k _ r keep ?_ hr0 ?_
    · rw [st2]
      refine ⟨dx, vs ++ [.ref t], keep _ _ h1 nal, ?_, ?_⟩
      · rw [upd_ne nrl.symm, upd_same]
      · refine MarksAt.snoc (m := ⟨h, n⟩) ?_ (h3.keep fun b xs q => keep _ _ q (ne_of q h2 (by intro z; cases z)))
        have ntr : t ≠ r := fun z => by
          rw [← z, upd_ne nlt, upd_same] at hr'
          cases hr'
        rw [upd_ne ntr, upd_ne nlt, upd_same]
    · rw [st2, upd_same]
      show some (HO.lst [V.int (((vs ++ [V.ref t]).length : Nat) - 1)]) = some (.lst [V.int ((c.marks.length : Nat) + 1)])
      rw [List.length_append, List.length_singleton, hlen]
      congr 4
      omega
theorem scHo : FnScope ["cask", "p", "q"] ["cask", "p", "q"] (defScope sHold2) := ⟨rfl, rfl, rfl, by decide +kernel, rfl, by decide +kernel, by decide +kernel⟩
theorem ok_hold2 {f : Addr} {fd : FuncData} (F : Fun K "holds" "holds" sHold2 f fd) (T : Txt K mg C) (G : Cst K mg aW aF tA tH tM tB tP) (M : Mets P w K mg base C fR fH fW fD fN dR dH dW dD dN) : FnOk P w K mg base CX0 4 f fd ["cask", "p", "q"] (spHold2 C) := by
  refine F.ok scHo (fun vs H Q E h => ?_) (fun cdv A outer s H vs Q E hr h => ?_)
  · obtain ⟨a, l, c, p, q, rfl, _⟩ := h
    rfl
  · obtain ⟨a, l, c, p, q, rfl, sh, wf, k⟩ := h
    have hr1 : Room 1 _ := hr.mono (by decide)
    obtain ⟨dx, vs, h1, h2, h3⟩ := id sh
    refine ⟨_, pss_cons (ps_if (PW.pt (pw_or (pt_cmpR op_lt (pv 2) pe_int (nomark _)) (pw_or (pt_cmpR op_gt (pv 2) (pe_glob (v := .int 1000) (by rfl) G.gB ⟨_, rfl⟩) (nomark _)) (pw_or1 (pt_cmpR op_gt (pv 1) (pe_op op_mul (pe_meth0 (pv 0) T.cl M.mR M.oR hr1 M.bR .nil pass0) (pv 2)) (nomark _))))))
        (pss_one (ps_ret (pe_callTy call_list_of (by rfl) T.list (by decide +kernel) (pa_cons (pe_glob (v := .ref aW) (by rfl) G.gW rfl) pa_nil)))) pss_nil)
      (pss_one (ps_ret (pe_op op_cat (pe_lst (pa_cons pe_int pa_nil)) (pe_callTy call_list_of (by rfl) T.list (by decide +kernel) (pa_cons (pe_meth (pv 0) T.cl M.mH M.oH hr M.bH .nil pass0 (pa_cons (pv 1) (pa_cons (pv 2) pa_nil))) pa_nil))))), ?_⟩
    have bad : (q < 1 ∨ 1000 < q ∨ c.high * q < p) → ∀ t : Addr, H t = none → Q (.ref t) (upd H t (.lst [.int (-1)])) := fun hb t ht => by
      refine k.stay sh (same_upd ht) (r := Sj05.ok (-1)) ?_ ht upd_same
      show (if q < 1 ∨ 1000 < q ∨ c.high * q < p then (c, Sj05.ok (-1)) else _) = _
      rw [if_pos hb]
    refine ⟨_, rfl, _, _, rfl, rfl, _, rfl, ?_⟩
    by_cases c1 : q < 1
    · refine if_true_of (decide_eq_true (by omega)) ?_
      refine if_true_of rfl ?_
      exact ⟨aW, _, rfl, .inl (G.lW _), bad (.inl c1)⟩
    refine if_false_of (decide_eq_false (by omega)) ?_
    refine ⟨_, rfl, _, _, rfl, rfl, _, rfl, ?_⟩
    by_cases c2 : 1000 < q
    · refine if_true_of (decide_eq_true (by omega)) ?_
      refine if_true_of rfl ?_
      exact ⟨aW, _, rfl, .inl (G.lW _), bad (.inr (.inl c2))⟩
    refine if_false_of (decide_eq_false (by omega)) ?_
    have hh := high_le wf
    refine ⟨_, rfl, _, rfl, a, dx, _, rfl, h1, sF_no l (by decide +kernel), a, l, c, rfl, sh, _, rfl, _, _, rfl, rfl, .inl ⟨by omega, by omega⟩, _, _, rfl, rfl, _, rfl, ?_⟩
    have eb : ((c.high : Int) * (q : Int)) = ((c.high * q : Nat) : Int) := (Int.natCast_mul _ _).symm
    by_cases c3 : c.high * q < p
    · refine if_true_of (decide_eq_true (by rw [eb]; omega)) ?_
      exact ⟨aW, _, rfl, .inl (G.lW _), bad (.inr (.inr c3))⟩
    refine if_false_of (decide_eq_false (by rw [eb]; omega)) ?_
    refine ⟨(by show 1 ≤ sizeLine; decide), fun l0 hl0 => ?_⟩
    have s0 : Same H (upd H l0 (.lst [.int 0])) := same_upd hl0
    refine ⟨_, rfl, a, dx, _, rfl, s0 _ _ h1, sF_no l (by decide +kernel), _, rfl, _, rfl, a, l, c, p, q, rfl, sh.keep s0, wf, by omega, by omega, fun H1 t s1 ht => ?_⟩
    refine ⟨t, _, rfl, .inr (SqT.of ht), fun l1 hl1 => ?_⟩
    have s2 : Same H1 (upd H1 l1 (.lst [nV (c.holds (frac p q)).n, nV (c.holds (frac p q)).d])) := same_upd hl1
    refine ⟨l0, l1, _, _, rfl, rfl, (s1.trans s2) _ _ upd_same, upd_same, (by show 3 ≤ sizeLine; decide), fun r hr' => ?_⟩
    have s3 := (s0.trans s1).trans (s2.trans (same_upd (o := .lst ([.int 0] ++ [nV (c.holds (frac p q)).n, nV (c.holds (frac p q)).d])) hr'))
    refine k.stay sh s3 (r := Sj05.told (c.holds (frac p q))) ?_ (((s0.trans s1).trans s2).free hr') upd_same
    show (if q < 1 ∨ 1000 < q ∨ c.high * q < p then (c, Sj05.ok (-1)) else _) = _
    rw [if_neg (by omega)]
theorem scDe : FnScope ["cask", "p", "q"] ["cask", "p", "q"] (defScope sDeep2) := ⟨rfl, rfl, rfl, by decide +kernel, rfl, by decide +kernel, by decide +kernel⟩
theorem ok_deep2 {f : Addr} {fd : FuncData} (F : Fun K "deep" "deep" sDeep2 f fd) (T : Txt K mg C) (G : Cst K mg aW aF tA tH tM tB tP) (L : Low P w K mg base fL fP fM fT dL dP dM dT) (M : Mets P w K mg base C fR fH fW fD fN dR dH dW dD dN) : FnOk P w K mg base CX0 5 f fd ["cask", "p", "q"] (spDeep2 C) := by
  refine F.ok scDe (fun vs H Q E h => ?_) (fun cdv A outer s H vs Q E hr h => ?_)
  · obtain ⟨a, l, c, p, q, rfl, _⟩ := h
    rfl
  · obtain ⟨a, l, c, p, q, rfl, sh, wf, hp, k⟩ := h
    have hr1 : Room 1 _ := hr.mono (by decide)
    obtain ⟨dx, vs, h1, h2, h3⟩ := id sh
    refine ⟨_, pss_cons (ps_if (PW.pt (pw_or (pt_cmpR op_lt (pv 2) pe_int (nomark _)) (pw_or (pt_cmpR op_gt (pv 2) (pe_glob (v := .int 1000) (by rfl) G.gB ⟨_, rfl⟩) (nomark _)) (pw_or1 (pt_val (pe_call L.oM hr1 (by rfl) L.gM L.kM L.bM .nil pass0 (pa_cons (pe_tup (pa_cons (pv 1) (pa_cons (pv 2) pa_nil))) (pa_cons (pe_meth0 (pv 0) T.cl M.mW M.oW hr M.bW .nil pass0) pa_nil))))))))
        (pss_one (ps_ret (pe_callTy call_list_of (by rfl) T.list (by decide +kernel) (pa_cons (pe_glob (v := .ref aW) (by rfl) G.gW rfl) pa_nil)))) pss_nil)
      (pss_one (ps_ret (pe_lst (pa_cons (pe_meth (pv 0) T.cl M.mD M.oD hr M.bD .nil pass0 (pa_cons (pe_tup (pa_cons (pv 1) (pa_cons (pv 2) pa_nil))) pa_nil)) pa_nil)))), ?_⟩
    have bad : (q < 1 ∨ 1000 < q ∨ Sj05.leq (frac p q) c.whole = false) → ∀ (H1 : Hp), Same H H1 → ∀ t : Addr, H1 t = none → Q (.ref t) (upd H1 t (.lst [.int (-1)])) := fun hb H1 s1 t ht => by
      refine k.stay sh (s1.trans (same_upd ht)) (r := Sj05.ok (-1)) ?_ (s1.free ht) upd_same
      show (if q < 1 ∨ 1000 < q ∨ Sj05.leq (frac p q) c.whole = false then (c, Sj05.ok (-1)) else _) = _
      rw [if_pos hb]
    refine ⟨_, rfl, _, _, rfl, rfl, _, rfl, ?_⟩
    by_cases c1 : q < 1
    · refine if_true_of (decide_eq_true (by omega)) ?_
      refine if_true_of rfl ?_
      exact ⟨aW, _, rfl, .inl (G.lW _), bad (.inl c1) _ (Same.refl _)⟩
    refine if_false_of (decide_eq_false (by omega)) ?_
    refine ⟨_, rfl, _, _, rfl, rfl, _, rfl, ?_⟩
    by_cases c2 : 1000 < q
    · refine if_true_of (decide_eq_true (by omega)) ?_
      refine if_true_of rfl ?_
      exact ⟨aW, _, rfl, .inl (G.lW _), bad (.inr (.inl c2)) _ (Same.refl _)⟩
    refine if_false_of (decide_eq_false (by omega)) ?_
    have hq0 : 0 < q := by omega
    have sv : Small 1000 ⟨p, q⟩ := ⟨Nat.lt_of_lt_of_le hp (Nat.pow_le_pow_right (by decide) (by decide)), Nat.lt_of_lt_of_le (show q < 2 ^ 64 by omega) (Nat.pow_le_pow_right (by decide) (by decide)), hq0⟩
    refine ⟨_, rfl, _, rfl, (by show 2 ≤ sizeLine; decide), fun t0 ht0 => ?_⟩
    have s0 : Same H (upd H t0 (.tup [nV p, nV q])) := same_upd ht0
    refine ⟨_, rfl, a, dx, _, rfl, s0 _ _ h1, sF_no l (by decide +kernel), a, l, c, rfl, sh.keep s0, wf, fun H1 tw s1 hw => ?_⟩
    have s01 := s0.trans s1
    refine ⟨t0, tw, ⟨p, q⟩, c.whole, rfl, s1 _ _ upd_same, hw, sv, (Small.whole wf).mono (by decide), _, rfl, ?_⟩
    rw [← leq_frac_left hq0]
    cases c3 : Sj05.leq (frac p q) c.whole with
    | false =>
      refine if_true_of rfl ?_
      exact ⟨aW, _, rfl, .inl (G.lW _), bad (.inr (.inr c3)) _ s01⟩
    | true =>
      refine if_false_of rfl ?_
      refine ⟨_, rfl, a, dx, _, rfl, s01 _ _ h1, sF_no l (by decide +kernel), _, rfl, _, rfl, (by show 2 ≤ sizeLine; decide), fun t1 ht1 => ?_⟩
      have s2 : Same H1 (upd H1 t1 (.tup [nV p, nV q])) := same_upd ht1
      refine ⟨a, l, t1, c, ⟨p, q⟩, rfl, sh.keep (s01.trans s2), wf, upd_same, sv, fun H2 s3 => ?_⟩
      refine ⟨(by show 1 ≤ sizeLine; decide), fun r hr' => ?_⟩
      have s4 := (s01.trans s2).trans s3
      refine k.stay sh (s4.trans (same_upd hr')) (r := Sj05.ok ((c.deep (frac p q) : Nat) : Int)) ?_ (s4.free hr') ?_
      · show (if q < 1 ∨ 1000 < q ∨ Sj05.leq (frac p q) c.whole = false then (c, Sj05.ok (-1)) else _) = _
        rw [if_neg (show ¬ (q < 1 ∨ 1000 < q ∨ Sj05.leq (frac p q) c.whole = false) from fun z => by
          rcases z with z | z | z
          · exact c1 z
          · exact c2 z
          · rw [c3] at z
            cases z)]
      · rw [upd_same, deep_raw hq0]
        rfl
theorem scNo : FnScope ["cask", "parts"] ["cask", "parts"] (defScope sNotch2) := ⟨rfl, rfl, rfl, by decide +kernel, rfl, by decide +kernel, by decide +kernel⟩
theorem notches_len (c : Cask) (n : Nat) : (c.notches n).length = n := by
  unfold Cask.notches
  rw [List.length_map, List.length_range]
theorem ok_notch2 {f : Addr} {fd : FuncData} (F : Fun K "notches" "notches" sNotch2 f fd) (T : Txt K mg C) (G : Cst K mg aW aF tA tH tM tB tP) (M : Mets P w K mg base C fR fH fW fD fN dR dH dW dD dN) : FnOk P w K mg base CX0 6 f fd ["cask", "parts"] (spNotch2 C) := by
  refine F.ok scNo (fun vs H Q E h => ?_) (fun cdv A outer s H vs Q E hr h => ?_)
  · obtain ⟨a, l, c, n, rfl, _⟩ := h
    rfl
  · obtain ⟨a, l, c, n, rfl, sh, wf, k⟩ := h
    obtain ⟨dx, vs, h1, h2, h3⟩ := id sh
    refine ⟨_, pss_cons (ps_if (PW.pt (pw_or (pt_cmpR op_lt (pv 1) pe_int (nomark _)) (pw_or1 (pt_cmpR op_gt (pv 1) (pe_glob (v := .int 20) (by rfl) G.gP ⟨_, rfl⟩) (nomark _)))))
        (pss_one (ps_ret (pe_callTy call_list_of (by rfl) T.list (by decide +kernel) (pa_cons (pe_glob (v := .ref aW) (by rfl) G.gW rfl) pa_nil)))) pss_nil)
      (pss_one (ps_ret (pe_op op_cat (pe_lst (pa_cons (pv 1) pa_nil)) (pe_meth (pv 0) T.cl M.mN M.oN hr M.bN .nil pass0 (pa_cons (pv 1) pa_nil))))), ?_⟩
    have bad : (n < 1 ∨ 20 < n) → ∀ t : Addr, H t = none → Q (.ref t) (upd H t (.lst [.int (-1)])) := fun hb t ht => by
      refine k.stay sh (same_upd ht) (r := Sj05.ok (-1)) ?_ ht upd_same
      show (if n < 1 ∨ 20 < n then (c, Sj05.ok (-1)) else _) = _
      rw [if_pos hb]
    refine ⟨_, rfl, _, _, rfl, rfl, _, rfl, ?_⟩
    by_cases c1 : n < 1
    · refine if_true_of (decide_eq_true (by omega)) ?_
      refine if_true_of rfl ?_
      exact ⟨aW, _, rfl, .inl (G.lW _), bad (.inl c1)⟩
    refine if_false_of (decide_eq_false (by omega)) ?_
    refine ⟨_, rfl, _, _, rfl, rfl, _, rfl, ?_⟩
    by_cases c2 : 20 < n
    · refine if_true_of (decide_eq_true (by omega)) ?_
      exact ⟨aW, _, rfl, .inl (G.lW _), bad (.inr c2)⟩
    refine if_false_of (decide_eq_false (by omega)) ?_
    refine ⟨_, rfl, (by show 1 ≤ sizeLine; decide), fun l0 hl0 => ?_⟩
    have s0 : Same H (upd H l0 (.lst [nV n])) := same_upd hl0
    refine ⟨_, rfl, a, dx, _, rfl, s0 _ _ h1, sF_no l (by decide +kernel), _, rfl, a, l, c, n, rfl, sh.keep s0, wf, by omega, by omega, fun H1 t s1 _ ht => ?_⟩
    refine ⟨l0, t, _, _, rfl, rfl, s1 _ _ upd_same, ht, ?_, fun r hr' => ?_⟩
    · rw [List.length_map, notches_len]
      exact Nat.le_trans (show 1 + n ≤ 21 by omega) (by decide)
    have s01 := s0.trans s1
    refine k.stay sh (s01.trans (same_upd hr')) (r := ⟨((c.notches n).length : Nat), Sj05.ints (c.notches n)⟩) ?_ (s01.free hr') ?_
    · show (if n < 1 ∨ 20 < n then (c, Sj05.ok (-1)) else _) = _
      rw [if_neg (by omega)]
    · rw [upd_same]
      unfold ansL Sj05.ints
      rw [notches_len, List.map_cons, List.map_map]
      rfl
end
end Rg
namespace Rg
open PySem PySem.Spec PyProof.Rows L2
open Sj05 (Frac Mark Cask frac)
def spAnsd (K : PySem.W.Frag) (C : Addr) : Sp := fun vs H Q _ => ∃ (a l b : Addr) (c : Cask) (kind : Nat) (xs : List Nat) (q : Sj05.Call), vs = [.ref a, nV kind, .ref b] ∧ ShapeAt C H a l c ∧ Wf c ∧ SqL K H b (xs.map nV) ∧ kind ≠ 0 ∧
  callN kind xs = some q ∧ (∀ x ∈ xs, x ≤ 4294967295) ∧ Post C H a l c q Q
def spBegun (C : Addr) : Sp := fun vs H Q _ => ∃ (a l : Addr) (c : Cask) (n : Nat), vs = [.ref a, nV n] ∧ ShapeAt C H a l c ∧
  ∀ (H' : Hp) (t a2 l2 r : Addr), Same H H' → H' t = some (.tup [.ref a2, .ref r]) → ShapeAt C H' a2 l2 (Sj05.step c (.begins n)).1 → (l2 = l ∨ H l2 = none) → H r = none →
    H' r = some (.lst ((ansL (Sj05.step c (.begins n)).2).map V.int)) → Q (.ref t) H'
def spAns (K : PySem.W.Frag) : Sp := fun vs H Q _ => ∃ (a : Addr) (ns : List Int), vs = [.ref a] ∧ SqL K H a (ns.map V.int) ∧ (∀ z ∈ ns, 0 ≤ z ∧ z ≤ 4294967295) ∧ PySj05.answers_asked ns = true ∧
  ∀ (H' : Hp) (p : Addr), H' p = some (.lst ((PySj05.answers ns).map V.int)) → Q (.ref p) H'
/-- the calls' defs as they stand -/
structure Defs (P : Program) (w : World) (K : PySem.W.Frag) (mg : Str → Option Value) (base : Heap) (C : Addr) (f1 f2 f3 f4 : Addr) (d1 d2 d3 d4 : FuncData) : Prop where
  g1 : mg "mark" = some (.ref f1)
  k1 : PySem.W.keepIn K (.ref f1) = true
  b1 : Binds K d1 ["cask", "height", "area"] []
  o1 : FnOk P w K mg base CX0 2 f1 d1 ["cask", "height", "area"] (spMark C)
  g2 : mg "holds" = some (.ref f2)
  k2 : PySem.W.keepIn K (.ref f2) = true
  b2 : Binds K d2 ["cask", "p", "q"] []
  o2 : FnOk P w K mg base CX0 4 f2 d2 ["cask", "p", "q"] (spHold2 C)
  g3 : mg "deep" = some (.ref f3)
  k3 : PySem.W.keepIn K (.ref f3) = true
  b3 : Binds K d3 ["cask", "p", "q"] []
  o3 : FnOk P w K mg base CX0 5 f3 d3 ["cask", "p", "q"] (spDeep2 C)
  g4 : mg "notches" = some (.ref f4)
  k4 : PySem.W.keepIn K (.ref f4) = true
  b4 : Binds K d4 ["cask", "parts"] []
  o4 : FnOk P w K mg base CX0 6 f4 d4 ["cask", "parts"] (spNotch2 C)
/-- what a call but begins may be -/
theorem callN_cases {kind : Nat} {xs : List Nat} {q : Sj05.Call} (h : callN kind xs = some q) (h0 : kind ≠ 0) :
    (∃ x y, kind = 1 ∧ xs = [x, y] ∧ q = .mark ⟨x, y⟩) ∨ (kind = 2 ∧ xs = [] ∧ q = .whole) ∨ (∃ x y, kind = 3 ∧ xs = [x, y] ∧ q = .holds x y) ∨ (∃ x y, kind = 4 ∧ xs = [x, y] ∧ q = .deep x y) ∨ ∃ x, kind = 5 ∧ xs = [x] ∧ q = .notches x := by
  unfold callN at h
  split at h
  · exact absurd rfl h0
  · cases h; exact .inl ⟨_, _, rfl, rfl, rfl⟩
  · cases h; exact .inr (.inl ⟨rfl, rfl, rfl⟩)
  · cases h; exact .inr (.inr (.inl ⟨_, _, rfl, rfl, rfl⟩))
  · cases h; exact .inr (.inr (.inr (.inl ⟨_, _, rfl, rfl, rfl⟩)))
  · cases h; exact .inr (.inr (.inr (.inr ⟨_, rfl, rfl, rfl⟩)))
  · cases h
theorem callN_zero {xs : List Nat} {q : Sj05.Call} (h : callN 0 xs = some q) : ∃ x, xs = [x] ∧ q = .begins x := by
  match xs, h with
  | [x], h => exact ⟨x, rfl, (Option.some.inj h).symm⟩
  | [], h => cases h
  | _ :: _ :: _, h => cases h
section
variable {P : Program} {w : World} {K : PySem.W.Frag} {mg : Str → Option Value} {base : Heap} {C : Addr}
variable {aW aF : Addr} {tA tH tM tB tP : Tok} {fR fH fW fD fN fL fP fM fT : Addr} {dR dH dW dD dN dL dP dM dT : FuncData}
theorem scAd : FnScope ["cask", "kind", "numbers"] ["cask", "kind", "numbers"] (defScope sAnsd) := ⟨rfl, rfl, rfl, by decide +kernel, rfl, by decide +kernel, by decide +kernel⟩
theorem ok_ansd {f f1 f2 f3 f4 : Addr} {fd d1 d2 d3 d4 : FuncData} (F : Fun K "answered" "answered" sAnsd f fd) (T : Txt K mg C) (M : Mets P w K mg base C fR fH fW fD fN dR dH dW dD dN) (D : Defs P w K mg base C f1 f2 f3 f4 d1 d2 d3 d4) :
    FnOk P w K mg base CX0 7 f fd ["cask", "kind", "numbers"] (spAnsd K C) := by
  refine F.ok scAd (fun vs H Q E h => ?_) (fun cdv A outer s H vs Q E hr h => ?_)
  · obtain ⟨a, l, b, c, kind, xs, q, rfl, _⟩ := h
    rfl
  · obtain ⟨a, l, b, c, kind, xs, q, rfl, sh, wf, hb, h0, hc, hs, k⟩ := h
    have hr2 : Room 2 _ := hr.mono (by decide)
    have hr4 : Room 4 _ := hr.mono (by decide)
    have hr5 : Room 5 _ := hr.mono (by decide)
    obtain ⟨dx, vs, h1, h2, h3⟩ := id sh
    refine ⟨_, pss_cons (ps_if (pt_cmpR op_eq (pv 1) pe_int (nomark _)) (pss_one (ps_ret (pe_call D.o1 hr2 (by rfl) D.g1 D.k1 D.b1 .nil pass0 (pa_cons (pv 0) (pa_cons (pe_ix ix_list (pv 2) pe_int (fun _ _ => rfl)) (pa_cons (pe_ix ix_list (pv 2) pe_int (fun _ _ => rfl)) pa_nil)))))) pss_nil)
      (pss_cons (ps_if (pt_cmpR op_eq (pv 1) pe_int (nomark _)) (pss_one (ps_ret (pe_op op_cat (pe_lst (pa_cons pe_int pa_nil)) (pe_callTy call_list_of (by rfl) T.list (by decide +kernel) (pa_cons (pe_meth0 (pv 0) T.cl M.mW M.oW hr4 M.bW .nil pass0) pa_nil))))) pss_nil)
      (pss_cons (ps_if (pt_cmpR op_eq (pv 1) pe_int (nomark _)) (pss_one (ps_ret (pe_call D.o2 hr4 (by rfl) D.g2 D.k2 D.b2 .nil pass0 (pa_cons (pv 0) (pa_cons (pe_ix ix_list (pv 2) pe_int (fun _ _ => rfl)) (pa_cons (pe_ix ix_list (pv 2) pe_int (fun _ _ => rfl)) pa_nil)))))) pss_nil)
      (pss_cons (ps_if (pt_cmpR op_eq (pv 1) pe_int (nomark _)) (pss_one (ps_ret (pe_call D.o3 hr5 (by rfl) D.g3 D.k3 D.b3 .nil pass0 (pa_cons (pv 0) (pa_cons (pe_ix ix_list (pv 2) pe_int (fun _ _ => rfl)) (pa_cons (pe_ix ix_list (pv 2) pe_int (fun _ _ => rfl)) pa_nil)))))) pss_nil)
      (pss_one (ps_ret (pe_call D.o4 hr (by rfl) D.g4 D.k4 D.b4 .nil pass0 (pa_cons (pv 0) (pa_cons (pe_ix ix_list (pv 2) pe_int (fun _ _ => rfl)) pa_nil)))))))), ?_⟩
    refine ⟨_, rfl, rfl, _, rfl, ?_⟩
    rcases callN_cases hc h0 with ⟨x, y, rfl, rfl, rfl⟩ | ⟨rfl, rfl, rfl⟩ | ⟨x, y, rfl, rfl, rfl⟩ | ⟨x, y, rfl, rfl, rfl⟩ | ⟨x, rfl, rfl, rfl⟩
    · refine if_true_of rfl ?_
      exact ⟨_, rfl, _, rfl, b, _, _, _, rfl, rfl, hb, atI_nat (j := 0) rfl, _, rfl, b, _, _, _, rfl, rfl, hb, atI_nat (j := 1) rfl, a, l, c, x, y, rfl, sh, wf, k⟩
    · refine if_false_of rfl ?_
      refine ⟨_, rfl, rfl, _, rfl, ?_⟩
      refine if_true_of rfl ?_
      refine ⟨(by show 1 ≤ sizeLine; decide), fun l0 hl0 => ?_⟩
      have s0 : Same H (upd H l0 (.lst [.int 0])) := same_upd hl0
      refine ⟨_, rfl, a, dx, _, rfl, s0 _ _ h1, sF_no l (by decide +kernel), a, l, c, rfl, sh.keep s0, wf, fun H1 t s1 ht => ?_⟩
      refine ⟨t, _, rfl, .inr (SqT.of ht), fun l1 hl1 => ?_⟩
      have s2 : Same H1 (upd H1 l1 (.lst [nV c.whole.n, nV c.whole.d])) := same_upd hl1
      refine ⟨l0, l1, _, _, rfl, rfl, (s1.trans s2) _ _ upd_same, upd_same, (by show 3 ≤ sizeLine; decide), fun r hr' => ?_⟩
      have s3 := (s0.trans s1).trans (s2.trans (same_upd (o := .lst ([.int 0] ++ [nV c.whole.n, nV c.whole.d])) hr'))
      exact k.stay sh s3 (r := Sj05.told c.whole) rfl (((s0.trans s1).trans s2).free hr') upd_same
    · refine if_false_of rfl ?_
      refine ⟨_, rfl, rfl, _, rfl, ?_⟩
      refine if_false_of rfl ?_
      refine ⟨_, rfl, rfl, _, rfl, ?_⟩
      refine if_true_of rfl ?_
      exact ⟨_, rfl, _, rfl, b, _, _, _, rfl, rfl, hb, atI_nat (j := 0) rfl, _, rfl, b, _, _, _, rfl, rfl, hb, atI_nat (j := 1) rfl, a, l, c, x, y, rfl, sh, wf, k⟩
    · refine if_false_of rfl ?_
      refine ⟨_, rfl, rfl, _, rfl, ?_⟩
      refine if_false_of rfl ?_
      refine ⟨_, rfl, rfl, _, rfl, ?_⟩
      refine if_false_of rfl ?_
      refine ⟨_, rfl, rfl, _, rfl, ?_⟩
      refine if_true_of rfl ?_
      have hx := hs x (List.mem_cons_self ..)
      exact ⟨_, rfl, _, rfl, b, _, _, _, rfl, rfl, hb, atI_nat (j := 0) rfl, _, rfl, b, _, _, _, rfl, rfl, hb, atI_nat (j := 1) rfl, a, l, c, x, y, rfl, sh, wf, by omega, k⟩
    · refine if_false_of rfl ?_
      refine ⟨_, rfl, rfl, _, rfl, ?_⟩
      refine if_false_of rfl ?_
      refine ⟨_, rfl, rfl, _, rfl, ?_⟩
      refine if_false_of rfl ?_
      refine ⟨_, rfl, rfl, _, rfl, ?_⟩
      refine if_false_of rfl ?_
      exact ⟨_, rfl, _, rfl, b, _, _, _, rfl, rfl, hb, atI_nat (j := 0) rfl, a, l, c, x, rfl, sh, wf, k⟩
theorem scBg : FnScope ["cask", "area"] ["cask", "area"] (defScope sBegun) := ⟨rfl, rfl, rfl, by decide +kernel, rfl, by decide +kernel, by decide +kernel⟩
theorem ok_begun {f fI : Addr} {fd dI : FuncData} (F : Fun K "begun" "begun" sBegun f fd) (T : Txt K mg C) (G : Cst K mg aW aF tA tH tM tB tP) (MI : Mk K C fI) (bI : Binds K dI ["self", "area"] []) (oI : FnOk P w K mg base CX0 1 fI dI ["self", "area"] (spInit C)) :
    FnOk P w K mg base CX0 3 f fd ["cask", "area"] (spBegun C) := by
  refine F.ok scBg (fun vs H Q E h => ?_) (fun cdv A outer s H vs Q E hr h => ?_)
  · obtain ⟨a, l, c, n, rfl, _⟩ := h
    rfl
  · obtain ⟨a, l, c, n, rfl, sh, k⟩ := h
    refine ⟨_, pss_cons (ps_if (pt_cmpR op_gt (pv 1) (pe_glob (v := .int 1000) (by rfl) G.gA ⟨_, rfl⟩) (nomark _))
        (pss_one (ps_ret (pe_tup (pa_cons (pv 0) (pa_cons (pe_callTy call_list_of (by rfl) T.list (by decide +kernel) (pa_cons (pe_glob (v := .ref aW) (by rfl) G.gW rfl) pa_nil)) pa_nil))))) pss_nil)
      (pss_one (ps_ret (pe_tup (pa_cons (pe_make MI oI hr (by rfl) T.gC bI .nil pass0 (pa_cons (pv 1) pa_nil)) (pa_cons (pe_lst (pa_cons pe_int pa_nil)) pa_nil))))), ?_⟩
    refine ⟨_, rfl, _, _, rfl, rfl, _, rfl, ?_⟩
    by_cases c1 : 1000 < n
    · refine if_true_of (decide_eq_true (by omega)) ?_
      have e : Sj05.step c (.begins n) = (c, Sj05.ok (-1)) := by
        show (if Sj05.AREA < n then (c, Sj05.ok (-1)) else _) = _
        rw [if_pos (show Sj05.AREA < n from c1)]
      refine ⟨_, rfl, aW, _, rfl, .inl (G.lW _), fun r hr' => ⟨(by show 2 ≤ sizeLine; decide), fun t ht => ?_⟩⟩
      have s1 : Same H (upd H r (.lst [.int (-1)])) := same_upd hr'
      have s2 := s1.trans (same_upd (o := .tup [.ref a, .ref r]) ht)
      refine k _ t a l r s2 upd_same ?_ (.inl rfl) hr' ?_
      · rw [e]
        exact sh.keep s2
      · rw [e]
        exact same_upd ht _ _ upd_same
    · refine if_false_of (decide_eq_false (by omega)) ?_
      have e : Sj05.step c (.begins n) = (⟨n, []⟩, Sj05.ok 0) := by
        show (if Sj05.AREA < n then (c, Sj05.ok (-1)) else _) = _
        rw [if_neg (show ¬ Sj05.AREA < n from c1)]
      refine ⟨_, rfl, ?_⟩
      intro x dx nx nd ne
      refine ⟨x, dx, n, rfl, upd_same, fun H1 l2 J hl2 kp => ⟨rfl, ?_⟩⟩
      have s1 : Same H H1 := Same.made nx nd kp
      have hl0 : H l2 = none := by
        cases q : H l2 with
        | none => rfl
        | some o =>
          have z : upd (upd H dx (.own x)) x (.ins C dx []) l2 = some o := by
            rw [upd_ne (ne_of_none q nx), upd_ne (ne_of_none q nd)]
            exact q
          rw [hl2] at z
          cases z
      refine ⟨(by show 1 ≤ sizeLine; decide), fun r hr' => ⟨(by show 2 ≤ sizeLine; decide), fun t ht => ?_⟩⟩
      have s2 : Same H1 (upd H1 r (.lst [.int 0])) := same_upd hr'
      have s3 := s2.trans (same_upd (o := .tup [.ref x, .ref r]) ht)
      refine k _ t x l2 r (s1.trans s3) upd_same ?_ (.inr hl0) (s1.free hr') ?_
      · rw [e]
        exact J.keep s3
      · rw [e]
        exact same_upd ht _ _ upd_same
end
end Rg
namespace Rg
open PySem PySem.Spec PyProof.Rows L2
open Sj05 (Frac Mark Cask frac)
theorem cut_mid {ns : List Int} {i : Nat} {p : Int} {r : List Int} {xs : List Nat} (hd : ns.drop i = p :: r) (hf : xs.length ≤ r.length) (ht : r.take xs.length = xs.map (fun (n : Nat) => (n : Int))) :
    cutV (ns.map V.int) (some ((i : Int) + 1)) (some ((i : Int) + 1 + (xs.length : Int))) = xs.map nV := by
  have hl := congrArg List.length hd
  rw [List.length_drop, List.length_cons] at hl
  have hr : ns.drop (i + 1) = r := by
    rw [← List.drop_drop, hd]
    rfl
  unfold cutV
  have e1 : ((i : Int) + 1) = ((i + 1 : Nat) : Int) := rfl
  have e2 : ((i : Int) + 1 + (xs.length : Int)) = ((i + 1 + xs.length : Nat) : Int) := rfl
  rw [e2, e1, HT.sIx_nat, HT.sIx_nat, List.length_map, Nat.min_eq_left (by omega), Nat.min_eq_left (by omega), ← List.map_drop, hr, show i + 1 + xs.length - (i + 1) = xs.length by omega, ← List.map_take, ht, List.map_map]
  rfl
section
variable {P : Program} {w : World} {K : PySem.W.Frag} {mg : Str → Option Value} {base : Heap} {C : Addr}
theorem scAn : FnScope ["calls", "cask", "found", "at", "kind", "end", "numbers", "answer"] ["calls"] (defScope sAns) := ⟨rfl, rfl, rfl, by decide +kernel, rfl, by decide +kernel, by decide +kernel⟩
/-- between two calls -/
def Inv (C : Addr) (H : Hp) (ns : List Int) (a g : Addr) (m : Nat) (σ : L2.St) (H' : Hp) : Prop :=
  ∃ (x l : Addr) (c : Cask) (i : Nat) (out : List Int) (v4 v5 v6 v7 : Option V) (f : Nat) (raw : List (List (List Int))), σ = [some (.ref a), some (.ref x), some (.ref g), some (nV i), v4, v5, v6, v7] ∧ Same H H' ∧ H l = none ∧ H' g = some (.lst (out.map V.int)) ∧ g ≠ l ∧
    ShapeAt C H' x l c ∧ Wf c ∧ i ≤ ns.length ∧ PyFlat.calls PySj05.shape f (ns.drop i) = some raw ∧ out ++ due c raw = PySj05.answers ns ∧ m = ns.length - i
theorem ok_ans {f fI fB fA aN : Addr} {fd dI dB dA : FuncData} {tZ : Tok} (F : Fun K "answers" "answers" sAns f fd) (T : Txt K mg C) (MI : Mk K C fI) (bI : Binds K dI ["self", "area"] []) (oI : FnOk P w K mg base CX0 1 fI dI ["self", "area"] (spInit C))
    (gN : mg "NUMBERS" = some (.ref aN)) (lN : ∀ H, SqT K H aN (nums.map V.int)) (gZ : mg "BEGINS" = some (.int 0 tZ))
    (gB : mg "begun" = some (.ref fB)) (kB : PySem.W.keepIn K (.ref fB) = true) (bB : Binds K dB ["cask", "area"] []) (oB : FnOk P w K mg base CX0 3 fB dB ["cask", "area"] (spBegun C))
    (gA : mg "answered" = some (.ref fA)) (kA : PySem.W.keepIn K (.ref fA) = true) (bA : Binds K dA ["cask", "kind", "numbers"] []) (oA : FnOk P w K mg base CX0 7 fA dA ["cask", "kind", "numbers"] (spAnsd K C)) :
    FnOk P w K mg base CX0 8 f fd ["calls"] (spAns K) := by
  refine F.ok scAn (fun vs H Q E h => ?_) (fun cdv A outer s H vs Q E hr h => ?_)
  · obtain ⟨a, ns, rfl, _⟩ := h
    rfl
  · obtain ⟨a, ns, rfl, hS, hb, hask, k⟩ := h
    have hr2 : Room 2 _ := hr.mono (by decide)
    have hr3 : Room 3 _ := hr.mono (by decide)
    obtain ⟨raw0, hraw0, hdue0, hlong⟩ := asked_start hask
    refine ⟨_, pss_cons (ps_set (i := 1) scAn.nd rfl (Or.inl rfl) (pe_make MI oI hr2 (by rfl) T.gC bI .nil pass0 (pa_cons pe_int pa_nil)))
      (pss_cons (ps_set (i := 2) scAn.nd rfl (Or.inl rfl) (pe_lst pa_nil))
      (pss_cons (ps_set (i := 3) scAn.nd rfl (Or.inl rfl) pe_int)
      (pss_cons (ps_while PassesOwn.never (pt_cmpR op_lt (pv 3) (pe_callB call_len_seq (by rfl) T.len PySem.boot_len (pa_cons (pv 0) pa_nil)) (nomark _))
        (pss_cons (ps_set (i := 4) scAn.nd rfl (Or.inl rfl) (pe_ix ix_list (pv 0) (pv 3) (fun _ _ => rfl)))
        (pss_cons (ps_set (i := 5) scAn.nd rfl (Or.inl rfl) (pe_op op_add (pe_op op_add (pv 3) pe_int) (pe_ix ix_tup (pe_glob (v := .ref aN) (by rfl) gN rfl) (pv 4) (fun _ _ => rfl))))
        (pss_cons (ps_set (i := 6) scAn.nd rfl (Or.inl rfl) (pe_slice sl_list (pv 0) (po_some (pe_op op_add (pv 3) pe_int)) (po_some (pv 5))))
        (pss_cons (ps_set (i := 3) scAn.nd rfl (Or.inl rfl) (pv 5))
        (pss_cons (ps_if (pt_cmpR op_eq (pv 4) (pe_glob (v := .int 0) (by rfl) gZ ⟨_, rfl⟩) (nomark _))
          (pss_one (ps_asg (pe_call oB hr3 (by rfl) gB kB bB .nil pass0 (pa_cons (pv 1) (pa_cons (pe_ix ix_list (pv 6) pe_int (fun _ _ => rfl)) pa_nil)))
            (pg_tup rfl (pgs_cons (pg_name (i := 1) scAn.nd rfl (Or.inl rfl)) (pgs_cons (pg_name (i := 7) scAn.nd rfl (Or.inl rfl)) pgs_nil)))))
          (pss_one (ps_set (i := 7) scAn.nd rfl (Or.inl rfl) (pe_call oA hr (by rfl) gA kA bA .nil pass0 (pa_cons (pv 1) (pa_cons (pv 4) (pa_cons (pv 6) pa_nil)))))))
        (pss_cons (ps_expr (pe_bm PySem.F.plainAttrs_list PySem.F.slot_list_append PySem.F.type_list_append mt_append (pv 2) (pa_cons (pe_callB call_len_seq (by rfl) T.len PySem.boot_len (pa_cons (pv 7) pa_nil)) pa_nil)))
        (pss_one (ps_expr (pe_bm PySem.F.plainAttrs_list PySem.F.slot_list_extend PySem.F.type_list_extend mt_extend (pv 2) (pa_cons (pv 7) pa_nil)))))))))))
      (pss_one (ps_ret (pv 2)))))), ?_⟩
    -- cask = Shape(1)
    intro x0 dx0 nx nd ne
    refine ⟨x0, dx0, 1, rfl, upd_same, fun H1 l0 J hl0 kp => ⟨rfl, ?_⟩⟩
    have s1 : Same H H1 := Same.made nx nd kp
    have hl00 : H l0 = none := by
      cases q : H l0 with
      | none => rfl
      | some o =>
        have z : upd (upd H dx0 (.own x0)) x0 (.ins C dx0 []) l0 = some o := by
          rw [upd_ne (ne_of_none q nx), upd_ne (ne_of_none q nd)]
          exact q
        rw [hl0] at z
        cases z
    -- found = []; at = 0
    refine ⟨Nat.zero_le _, fun g hg => ?_⟩
    have s2 : Same H1 (upd H1 g (.lst [])) := same_upd hg
    have hg0 : H g = none := s1.free hg
    have ngl : g ≠ l0 := by
      obtain ⟨_, vs0, _, q, _⟩ := J
      exact (ne_of_none q hg).symm
    refine ⟨fun m σ H' => Inv C H ns a g m σ H', ⟨_, x0, l0, ⟨1, []⟩, 0, [], none, none, none, none, _, raw0, rfl, s1.trans s2, hl00, upd_same, ngl, J.keep s2, Wf.init, Nat.zero_le _, hraw0, hdue0, rfl⟩, ?_⟩
    rintro m σ H' ⟨x, l, c, i, out, v4, v5, v6, v7, f, raw, rfl, s3, hl, hgo, hgl, sh, wf, hi, hraw, hdue, rfl⟩
    have hS' := s3.seq hS
    refine ⟨_, rfl, _, rfl, a, _, rfl, .inl hS', _, _, rfl, rfl, _, rfl, ?_⟩
    rw [List.length_map]
    by_cases hlt : i < ns.length
    · refine if_true_of (decide_eq_true (by omega)) ?_
      refine ⟨fun σ' H2 => ∃ m', m' < ns.length - i ∧ Inv C H ns a g m' σ' H2, fun _ _ h => h, ?_⟩
      obtain ⟨p, r, hpr⟩ : ∃ p r, ns.drop i = p :: r := by
        cases e : ns.drop i with
        | nil =>
          have z := congrArg List.length e
          rw [List.length_drop, List.length_nil] at z
          omega
        | cons p r => exact ⟨p, r, rfl⟩
      rw [hpr] at hraw
      obtain ⟨kind, xs, q, f', cs, hh⟩ := head_of hraw fun z hz => hb z (List.mem_of_mem_drop (by rw [hpr]; exact hz))
      have hp := hh.pk
      subst hp
      have hgk : (ns.map V.int)[i]? = some (nV kind) := by
        rw [List.getElem?_map, drop_get hpr]
        rfl
      have hgn : (nums.map V.int)[kind]? = some (V.int (xs.length : Int)) := by
        rw [List.getElem?_map, hh.num]
        rfl
      have hlr : ns.length - i = r.length + 1 := by
        have z := congrArg List.length hpr
        rw [List.length_drop, List.length_cons] at z
        exact z
      have hfits := hh.fits
      have hdr : ns.drop (i + 1 + xs.length) = r.drop xs.length := by
        rw [← List.drop_drop, ← List.drop_drop, hpr]
        rfl
      have hdue2 := due_cons hh c
      -- kind, end, numbers, at
      refine ⟨_, rfl, _, rfl, a, _, _, _, rfl, rfl, hS', atI_nat hgk, ?_⟩
      refine ⟨_, rfl, _, _, rfl, rfl, _, rfl, aN, _, _, _, rfl, rfl, lN _, atI_nat hgn, _, _, rfl, rfl, ?_⟩
      refine ⟨_, rfl, _, rfl, _, _, rfl, rfl, _, rfl, _, rfl, _, rfl, a, _, rfl, hS', fun nb hnb => ?_⟩
      rw [cut_mid hpr hh.fits hh.args]
      have s4 : Same H' (upd H' nb (.lst (xs.map nV))) := same_upd hnb
      have hnb4 : (upd H' nb (.lst (xs.map nV))) nb = some (.lst (xs.map nV)) := upd_same
      have sh4 := sh.keep s4
      have hgo4 := s4 _ _ hgo
      have s34 := s3.trans s4
      generalize upd H' nb (.lst (xs.map nV)) = H4 at s4 hnb4 sh4 hgo4 s34 ⊢
      refine ⟨_, rfl, ?_⟩
      refine ⟨_, rfl, rfl, _, rfl, ?_⟩
      have out_le : out.length + ((Sj05.step c q).2.l.length + 2) ≤ 10000000 := by
        have z := congrArg List.length hdue
        rw [hdue2, List.length_append, List.length_append, List.length_cons, List.length_cons] at z
        omega
      -- behind the answer
      have fin : ∀ (H5 : Hp) (x5 l5 r5 : Addr) (c5 : Cask), c5 = (Sj05.step c q).1 → Same H H5 → H l5 = none → H5 g = some (.lst (out.map V.int)) → g ≠ l5 → r5 ≠ g → ShapeAt C H5 x5 l5 c5 → H5 r5 = some (.lst ((ansL (Sj05.step c q).2).map V.int)) →
          ∀ (v4 v5 v6 : Option V), ∃ m', m' < ns.length - i ∧ Inv C H ns a g m' [some (.ref a), some (.ref x5), some (.ref g), some (nV (i + 1 + xs.length)), v4, v5, v6, some (.ref r5)]
            (upd (upd H5 g (.lst (out.map V.int ++ [.int (((ansL (Sj05.step c q).2).length : Nat) : Int)]))) g (.lst ((out.map V.int ++ [.int (((ansL (Sj05.step c q).2).length : Nat) : Int)]) ++ (ansL (Sj05.step c q).2).map V.int))) := by
        intro H5 x5 l5 r5 c5 ec sH5 hl5 hg5 ngl5 nrg sh5 hr5 v4 v5 v6
        have keep5 : ∀ b o, H5 b = some o → b ≠ g → (upd (upd H5 g (.lst (out.map V.int ++ [.int (((ansL (Sj05.step c q).2).length : Nat) : Int)]))) g (.lst ((out.map V.int ++ [.int (((ansL (Sj05.step c q).2).length : Nat) : Int)]) ++ (ansL (Sj05.step c q).2).map V.int))) b = some o := fun b o e nb => by
          rw [upd_ne nb, upd_ne nb]
          exact e
        refine ⟨ns.length - (i + 1 + xs.length), by omega, x5, l5, c5, i + 1 + xs.length, out ++ (((ansL (Sj05.step c q).2).length : Nat) : Int) :: ansL (Sj05.step c q).2, v4, v5, v6, some (.ref r5), f', cs, rfl, fun b o e => keep5 b o (sH5 b o e) (ne_of_none e hg0), hl5, ?_, ngl5, ?_, ?_, by omega, ?_, ?_, rfl⟩
        · rw [upd_same, List.map_append, List.map_cons, List.append_assoc]
          rfl
        · obtain ⟨dx5, vs5, q1, q2, q3⟩ := sh5
          exact ⟨dx5, vs5, keep5 _ _ q1 (ne_of q1 hg5 (by intro z; cases z)), keep5 _ _ q2 ngl5.symm, q3.keep fun b ys e => keep5 _ _ e (ne_of e hg5 (by intro z; cases z))⟩
        · rw [ec]
          exact wf.step q
        · rw [hdr]
          exact hh.rest
        · rw [← hdue, hdue2, ec, List.append_assoc]
          rfl
      by_cases hk0 : kind = 0
      · subst hk0
        refine if_true_of rfl ?_
        obtain ⟨y, rfl, rfl⟩ := callN_zero hh.call
        refine ⟨_, rfl, _, rfl, nb, _, _, _, rfl, rfl, SqL.of hnb4, atI_nat (j := 0) rfl, x, l, c, y, rfl, sh4, fun H5 t x5 l5 r5 s5 ht5 sh5 hl5 hr50 hr5 => ?_⟩
        refine ⟨t, _, rfl, SqT.of ht5, rfl, _, _, rfl, _, _, rfl, rfl, ?_⟩
        have hg5 := s5 _ _ hgo4
        have nrg : r5 ≠ g := (ne_of_none hgo4 hr50).symm
        have ngl5 : g ≠ l5 := by
          rcases hl5 with e | e
          · rw [e]; exact hgl
          · exact ne_of_none hgo4 e
        have hl50 : H l5 = none := by
          rcases hl5 with e | e
          · rw [e]; exact hl
          · exact s34.free e
        refine ⟨_, rfl, .inl ⟨rfl, _, SqL.of hg5⟩, _, rfl, r5, _, rfl, .inl (SqL.of hr5), g, _, _, rfl, rfl, hg5, ?_, ?_⟩
        · rw [List.length_map]
          exact Nat.lt_of_le_of_lt (show out.length ≤ 10000000 by omega) (by decide)
        rw [List.length_map]
        refine ⟨_, rfl, .inl ⟨rfl, _, SqL.of upd_same⟩, _, rfl, g, r5, _, _, rfl, rfl, upd_same, (by rw [upd_ne nrg]; exact hr5), ?_, ?_⟩
        · rw [List.length_append, List.length_map, List.length_map, List.length_singleton]
          unfold ansL
          rw [List.length_cons]
          exact Nat.le_trans (show _ ≤ 10000000 by omega) (by decide)
        exact fin H5 x5 l5 r5 _ rfl (s34.trans s5) hl50 hg5 ngl5 nrg sh5 hr5 _ _ _
      · refine if_false_of (decide_eq_false fun z => hk0 (by injection z with z; exact Int.ofNat.inj z)) ?_
        refine ⟨_, rfl, _, rfl, _, rfl, x, l, nb, c, kind, xs, q, rfl, sh4, wf, SqL.of hnb4, hk0, hh.call, hh.small, fun H5 r5 s5 sh5 hr50 hr5 => ?_⟩
        have hg5 := s5 _ _ hgo4 hgl
        have nrg : r5 ≠ g := (ne_of_none hgo4 hr50).symm
        have s345 : Same H H5 := fun b o e => s5 b o (s34 b o e) (ne_of_none e hl)
        refine ⟨_, rfl, .inl ⟨rfl, _, SqL.of hg5⟩, _, rfl, r5, _, rfl, .inl (SqL.of hr5), g, _, _, rfl, rfl, hg5, ?_, ?_⟩
        · rw [List.length_map]
          exact Nat.lt_of_le_of_lt (show out.length ≤ 10000000 by omega) (by decide)
        rw [List.length_map]
        refine ⟨_, rfl, .inl ⟨rfl, _, SqL.of upd_same⟩, _, rfl, g, r5, _, _, rfl, rfl, upd_same, (by rw [upd_ne nrg]; exact hr5), ?_, ?_⟩
        · rw [List.length_append, List.length_map, List.length_map, List.length_singleton]
          unfold ansL
          rw [List.length_cons]
          exact Nat.le_trans (show _ ≤ 10000000 by omega) (by decide)
        exact fin H5 x l r5 _ rfl s345 hl hg5 hgl nrg sh5 hr5 _ _ _
    · refine if_false_of (decide_eq_false (by omega)) ?_
      refine ⟨_, rfl, ?_⟩
      have hi2 : i = ns.length := by omega
      rw [hi2, List.drop_length, calls_nil] at hraw
      cases hraw
      have e : out = PySj05.answers ns := by
        rw [← hdue]
        exact (List.append_nil out).symm
      refine k H' g ?_
      rw [← e]
      exact hgo
end
end Rg
namespace Rg
open PySem PySem.Spec PyProof.Rows L2
open PySem.W (Codec)
/-! ### the end: what the top has written -/
theorem all_mk {P : Program} {w : World} {K : PySem.W.Frag} {h : Heap} {mg : Str → Option Value} {fa C aW aF aN f1 f2 f3 f4 f5 f6 f7 f8 f9 f10 f11 f12 f13 f14 f15 f16 f17 : Addr} (X : K.In h) (G : h.Ns mainGlobals mg) (hfa : mg "answers" = some (.ref fa))
    {odN od1 an1 od2 an2 od3 an3 od4 an4 od5 an5 od6 an6 od7 an7 od8 an8 od9 an9 od10 an10 od11 an11 od12 an12 od13 an13 od14 an14 od15 an15 od16 an16 od17 an17 : Option Addr} {slW slF slN sl1 sl2 sl3 sl4 sl5 sl6 sl7 sl8 sl9 sl10 sl11 sl12 sl13 sl14 sl15 sl16 sl17 : Array (Option Value)} {nW nF nN : Nat} {tW tF5 u1 u2 u3 u4 u5 u6 tHu tA tH tM tB tP tZ : Tok}
    {oc1 kV1 dc1 pm1 cd1 ct1 oc2 kV2 dc2 pm2 cd2 ct2 oc3 kV3 dc3 pm3 cd3 ct3 oc4 kV4 dc4 pm4 cd4 ct4 oc5 kV5 dc5 pm5 cd5 ct5 oc6 kV6 dc6 pm6 cd6 ct6 oc7 kV7 dc7 pm7 cd7 ct7 oc8 kV8 dc8 pm8 cd8 ct8 oc9 kV9 dc9 pm9 cd9 ct9 oc10 kV10 dc10 pm10 cd10 ct10 oc11 kV11 dc11 pm11 cd11 ct11 oc12 kV12 dc12 pm12 cd12 ct12 oc13 kV13 dc13 pm13 cd13 ct13 oc14 kV14 dc14 pm14 cd14 ct14 oc15 kV15 dc15 pm15 cd15 ct15 oc16 kV16 dc16 pm16 cd16 ct16 oc17 kV17 dc17 pm17 cd17 ct17 : Value}
    (aC : PySem.W.nsIn K mainGlobals "Shape" = some (some (.ref C)))
    (a1 : PySem.W.nsIn K mainGlobals "lowest" = some (some (.ref f1)))
    (l1 : K.lookup f1 = some ⟨oc1, od1, .func (PySem.W.fnOf "lowest" "lowest" (defArgs sLow) (defBody sLow) (defScope sLow) .none kV1 dc1 pm1 an1 cd1 ct1), sl1⟩)
    (c1 : PySem.W.codeIn K cd1 "lowest" = true)
    (k1 : PySem.W.keepIn K (.ref f1) = true)
    (a2 : PySem.W.nsIn K mainGlobals "plus" = some (some (.ref f2)))
    (l2 : K.lookup f2 = some ⟨oc2, od2, .func (PySem.W.fnOf "plus" "plus" (defArgs sPlus) (defBody sPlus) (defScope sPlus) .none kV2 dc2 pm2 an2 cd2 ct2), sl2⟩)
    (c2 : PySem.W.codeIn K cd2 "plus" = true)
    (k2 : PySem.W.keepIn K (.ref f2) = true)
    (a3 : PySem.W.nsIn K mainGlobals "is_more" = some (some (.ref f3)))
    (l3 : K.lookup f3 = some ⟨oc3, od3, .func (PySem.W.fnOf "is_more" "is_more" (defArgs sMore) (defBody sMore) (defScope sMore) .none kV3 dc3 pm3 an3 cd3 ct3), sl3⟩)
    (c3 : PySem.W.codeIn K cd3 "is_more" = true)
    (k3 : PySem.W.keepIn K (.ref f3) = true)
    (a4 : PySem.W.nsIn K mainGlobals "part" = some (some (.ref f4)))
    (l4 : K.lookup f4 = some ⟨oc4, od4, .func (PySem.W.fnOf "part" "part" (defArgs sPart) (defBody sPart) (defScope sPart) .none kV4 dc4 pm4 an4 cd4 ct4), sl4⟩)
    (c4 : PySem.W.codeIn K cd4 "part" = true)
    (k4 : PySem.W.keepIn K (.ref f4) = true)
    (a5 : PySem.W.findIn K (.ref C) "__init__" = some (some (.ref f5)))
    (i5 : PySem.W.isFn K (.ref f5) = true)
    (l5 : K.lookup f5 = some ⟨oc5, od5, .func (PySem.W.fnOf "__init__" "Shape.__init__" (defArgs sInit) (defBody sInit) (defScope sInit) .none kV5 dc5 pm5 an5 cd5 ct5), sl5⟩)
    (c5 : PySem.W.codeIn K cd5 "Shape.__init__" = true)
    (k5 : PySem.W.keepIn K (.ref f5) = true)
    (a6 : PySem.W.findIn K (.ref C) "rim" = some (some (.ref f6)))
    (i6 : PySem.W.isFn K (.ref f6) = true)
    (l6 : K.lookup f6 = some ⟨oc6, od6, .func (PySem.W.fnOf "rim" "Shape.rim" (defArgs sRim) (defBody sRim) (defScope sRim) .none kV6 dc6 pm6 an6 cd6 ct6), sl6⟩)
    (c6 : PySem.W.codeIn K cd6 "Shape.rim" = true)
    (k6 : PySem.W.keepIn K (.ref f6) = true)
    (a7 : PySem.W.findIn K (.ref C) "holds" = some (some (.ref f7)))
    (i7 : PySem.W.isFn K (.ref f7) = true)
    (l7 : K.lookup f7 = some ⟨oc7, od7, .func (PySem.W.fnOf "holds" "Shape.holds" (defArgs sHolds) (defBody sHolds) (defScope sHolds) .none kV7 dc7 pm7 an7 cd7 ct7), sl7⟩)
    (c7 : PySem.W.codeIn K cd7 "Shape.holds" = true)
    (k7 : PySem.W.keepIn K (.ref f7) = true)
    (a8 : PySem.W.findIn K (.ref C) "whole" = some (some (.ref f8)))
    (i8 : PySem.W.isFn K (.ref f8) = true)
    (l8 : K.lookup f8 = some ⟨oc8, od8, .func (PySem.W.fnOf "whole" "Shape.whole" (defArgs sWhole) (defBody sWhole) (defScope sWhole) .none kV8 dc8 pm8 an8 cd8 ct8), sl8⟩)
    (c8 : PySem.W.codeIn K cd8 "Shape.whole" = true)
    (k8 : PySem.W.keepIn K (.ref f8) = true)
    (a9 : PySem.W.findIn K (.ref C) "deep" = some (some (.ref f9)))
    (i9 : PySem.W.isFn K (.ref f9) = true)
    (l9 : K.lookup f9 = some ⟨oc9, od9, .func (PySem.W.fnOf "deep" "Shape.deep" (defArgs sDeep) (defBody sDeep) (defScope sDeep) .none kV9 dc9 pm9 an9 cd9 ct9), sl9⟩)
    (c9 : PySem.W.codeIn K cd9 "Shape.deep" = true)
    (k9 : PySem.W.keepIn K (.ref f9) = true)
    (a10 : PySem.W.findIn K (.ref C) "notches" = some (some (.ref f10)))
    (i10 : PySem.W.isFn K (.ref f10) = true)
    (l10 : K.lookup f10 = some ⟨oc10, od10, .func (PySem.W.fnOf "notches" "Shape.notches" (defArgs sNotch) (defBody sNotch) (defScope sNotch) .none kV10 dc10 pm10 an10 cd10 ct10), sl10⟩)
    (c10 : PySem.W.codeIn K cd10 "Shape.notches" = true)
    (k10 : PySem.W.keepIn K (.ref f10) = true)
    (a11 : PySem.W.nsIn K mainGlobals "mark" = some (some (.ref f11)))
    (l11 : K.lookup f11 = some ⟨oc11, od11, .func (PySem.W.fnOf "mark" "mark" (defArgs sMark) (defBody sMark) (defScope sMark) .none kV11 dc11 pm11 an11 cd11 ct11), sl11⟩)
    (c11 : PySem.W.codeIn K cd11 "mark" = true)
    (k11 : PySem.W.keepIn K (.ref f11) = true)
    (a12 : PySem.W.nsIn K mainGlobals "holds" = some (some (.ref f12)))
    (l12 : K.lookup f12 = some ⟨oc12, od12, .func (PySem.W.fnOf "holds" "holds" (defArgs sHold2) (defBody sHold2) (defScope sHold2) .none kV12 dc12 pm12 an12 cd12 ct12), sl12⟩)
    (c12 : PySem.W.codeIn K cd12 "holds" = true)
    (k12 : PySem.W.keepIn K (.ref f12) = true)
    (a13 : PySem.W.nsIn K mainGlobals "deep" = some (some (.ref f13)))
    (l13 : K.lookup f13 = some ⟨oc13, od13, .func (PySem.W.fnOf "deep" "deep" (defArgs sDeep2) (defBody sDeep2) (defScope sDeep2) .none kV13 dc13 pm13 an13 cd13 ct13), sl13⟩)
    (c13 : PySem.W.codeIn K cd13 "deep" = true)
    (k13 : PySem.W.keepIn K (.ref f13) = true)
    (a14 : PySem.W.nsIn K mainGlobals "notches" = some (some (.ref f14)))
    (l14 : K.lookup f14 = some ⟨oc14, od14, .func (PySem.W.fnOf "notches" "notches" (defArgs sNotch2) (defBody sNotch2) (defScope sNotch2) .none kV14 dc14 pm14 an14 cd14 ct14), sl14⟩)
    (c14 : PySem.W.codeIn K cd14 "notches" = true)
    (k14 : PySem.W.keepIn K (.ref f14) = true)
    (a15 : PySem.W.nsIn K mainGlobals "answered" = some (some (.ref f15)))
    (l15 : K.lookup f15 = some ⟨oc15, od15, .func (PySem.W.fnOf "answered" "answered" (defArgs sAnsd) (defBody sAnsd) (defScope sAnsd) .none kV15 dc15 pm15 an15 cd15 ct15), sl15⟩)
    (c15 : PySem.W.codeIn K cd15 "answered" = true)
    (k15 : PySem.W.keepIn K (.ref f15) = true)
    (a16 : PySem.W.nsIn K mainGlobals "begun" = some (some (.ref f16)))
    (l16 : K.lookup f16 = some ⟨oc16, od16, .func (PySem.W.fnOf "begun" "begun" (defArgs sBegun) (defBody sBegun) (defScope sBegun) .none kV16 dc16 pm16 an16 cd16 ct16), sl16⟩)
    (c16 : PySem.W.codeIn K cd16 "begun" = true)
    (k16 : PySem.W.keepIn K (.ref f16) = true)
    (a17 : PySem.W.nsIn K mainGlobals "answers" = some (some (.ref f17)))
    (l17 : K.lookup f17 = some ⟨oc17, od17, .func (PySem.W.fnOf "answers" "answers" (defArgs sAns) (defBody sAns) (defScope sAns) .none kV17 dc17 pm17 an17 cd17 ct17), sl17⟩)
    (c17 : PySem.W.codeIn K cd17 "answers" = true)
    (k17 : PySem.W.keepIn K (.ref f17) = true)
    (pg : PySem.W.plainGet K C Str.empty = true)
    (hd : PySem.W.hasDictIn K C = true)
    (po : PySem.W.plainOver K C = true)
    (sa : PySem.W.findIn K (.ref C) "__setattr__" = some (some (.builtin "object.__setattr__")))
    (mk : PySem.W.makesIn K C = true)
    (kc : PySem.W.keepIn K (.ref C) = true)
    (nM : PySem.W.findIn K (.ref C) "marks" = some none)
    (zHUNDREDTHS : PySem.W.nsIn K mainGlobals "HUNDREDTHS" = some (some (.int 100 tHu)))
    (zMOST_AREA : PySem.W.nsIn K mainGlobals "MOST_AREA" = some (some (.int 1000 tA)))
    (zMOST_HEIGHT : PySem.W.nsIn K mainGlobals "MOST_HEIGHT" = some (some (.int 60 tH)))
    (zMOST_MARKS : PySem.W.nsIn K mainGlobals "MOST_MARKS" = some (some (.int 8 tM)))
    (zMOST_BELOW : PySem.W.nsIn K mainGlobals "MOST_BELOW" = some (some (.int 1000 tB)))
    (zMOST_PARTS : PySem.W.nsIn K mainGlobals "MOST_PARTS" = some (some (.int 20 tP)))
    (zBEGINS : PySem.W.nsIn K mainGlobals "BEGINS" = some (some (.int 0 tZ)))
    (aW0 : PySem.W.nsIn K mainGlobals "WRONG" = some (some (.ref aW)))
    (lW : K.lookup aW = some ⟨.type "list", none, .seq (Array.mk [.int (-1) tW]) nW, slW⟩)
    (aF0 : PySem.W.nsIn K mainGlobals "FULL" = some (some (.ref aF)))
    (lF : K.lookup aF = some ⟨.type "list", none, .seq (Array.mk [.int (-5) tF5]) nF, slF⟩)
    (aN0 : PySem.W.nsIn K mainGlobals "NUMBERS" = some (some (.ref aN)))
    (lN : K.lookup aN = some ⟨.type "tuple", odN, .seq (Array.mk [.int 1 u1, .int 2 u2, .int 0 u3, .int 2 u4, .int 2 u5, .int 1 u6]) nN, slN⟩)
    (zlen : PySem.W.nsIn K mainGlobals "len" = some none)
    (zzip : PySem.W.nsIn K mainGlobals "zip" = some none)
    (zlist : PySem.W.nsIn K mainGlobals "list" = some none)
    (zrange : PySem.W.nsIn K mainGlobals "range" = some none) :
    ∃ fd : FuncData, (∀ (s : Shared) (us : List Value), us.length = (["calls"] : List Str).length → BindsTo s fd ⟨us, []⟩ ((["calls"] : List Str).zip us)) ∧ ∀ base : Heap, K.In base → base.Ns mainGlobals mg → FnOk P w K mg base CX0 8 fa fd ["calls"] (spAns K) := by
  have e := hfa.symm.trans (PySem.W.mg_of X G a17)
  cases e
  have T : Txt K mg C := ⟨⟨pg, hd, po, sa⟩, nM, PySem.W.mg_of X G aC, PySem.W.mg_none_of X G zlen, PySem.W.mg_none_of X G zzip, PySem.W.mg_none_of X G zlist, PySem.W.mg_none_of X G zrange⟩
  have GC : Cst K mg aW aF tA tH tM tB tP := ⟨PySem.W.mg_of X G aW0, fun _ => .inr ⟨_, _, _, lW, rfl, rfl, rfl, (by show 1 ≤ sizeLine; decide), .cons ⟨_, rfl⟩ .nil⟩, PySem.W.mg_of X G aF0, fun _ => .inr ⟨_, _, _, lF, rfl, rfl, rfl, (by show 1 ≤ sizeLine; decide), .cons ⟨_, rfl⟩ .nil⟩,
    PySem.W.mg_of X G zMOST_AREA, PySem.W.mg_of X G zMOST_HEIGHT, PySem.W.mg_of X G zMOST_MARKS, PySem.W.mg_of X G zMOST_BELOW, PySem.W.mg_of X G zMOST_PARTS⟩
  have LN : ∀ H, SqT K H aN (nums.map V.int) := fun _ => .inr ⟨_, _, _, lN, rfl, rfl, (by show 6 ≤ sizeLine; decide), .cons ⟨_, rfl⟩ (.cons ⟨_, rfl⟩ (.cons ⟨_, rfl⟩ (.cons ⟨_, rfl⟩ (.cons ⟨_, rfl⟩ (.cons ⟨_, rfl⟩ .nil)))))⟩
  have F1 := fun_mk (st := sLow) l1 c1 k1
  have b1 := F1.binds (ps := ["above", "below"]) fun _ _ _ _ _ _ us hl => match us, hl with | [_, _], _ => rfl
  have F2 := fun_mk (st := sPlus) l2 c2 k2
  have b2 := F2.binds (ps := ["one", "other"]) fun _ _ _ _ _ _ us hl => match us, hl with | [_, _], _ => rfl
  have F3 := fun_mk (st := sMore) l3 c3 k3
  have b3 := F3.binds (ps := ["one", "other"]) fun _ _ _ _ _ _ us hl => match us, hl with | [_, _], _ => rfl
  have F4 := fun_mk (st := sPart) l4 c4 k4
  have b4 := F4.binds (ps := ["lower", "upper", "p", "q"]) fun _ _ _ _ _ _ us hl => match us, hl with | [_, _, _, _], _ => rfl
  have F5 := fun_mk (st := sInit) l5 c5 k5
  have b5 := F5.binds (ps := ["self", "area"]) fun _ _ _ _ _ _ us hl => match us, hl with | [_, _], _ => rfl
  have F6 := fun_mk (st := sRim) l6 c6 k6
  have b6 := F6.binds (ps := ["self"]) fun _ _ _ _ _ _ us hl => match us, hl with | [_], _ => rfl
  have F7 := fun_mk (st := sHolds) l7 c7 k7
  have b7 := F7.binds (ps := ["self", "p", "q"]) fun _ _ _ _ _ _ us hl => match us, hl with | [_, _, _], _ => rfl
  have F8 := fun_mk (st := sWhole) l8 c8 k8
  have b8 := F8.binds (ps := ["self"]) fun _ _ _ _ _ _ us hl => match us, hl with | [_], _ => rfl
  have F9 := fun_mk (st := sDeep) l9 c9 k9
  have b9 := F9.binds (ps := ["self", "much"]) fun _ _ _ _ _ _ us hl => match us, hl with | [_, _], _ => rfl
  have F10 := fun_mk (st := sNotch) l10 c10 k10
  have b10 := F10.binds (ps := ["self", "parts"]) fun _ _ _ _ _ _ us hl => match us, hl with | [_, _], _ => rfl
  have F11 := fun_mk (st := sMark) l11 c11 k11
  have b11 := F11.binds (ps := ["cask", "height", "area"]) fun _ _ _ _ _ _ us hl => match us, hl with | [_, _, _], _ => rfl
  have F12 := fun_mk (st := sHold2) l12 c12 k12
  have b12 := F12.binds (ps := ["cask", "p", "q"]) fun _ _ _ _ _ _ us hl => match us, hl with | [_, _, _], _ => rfl
  have F13 := fun_mk (st := sDeep2) l13 c13 k13
  have b13 := F13.binds (ps := ["cask", "p", "q"]) fun _ _ _ _ _ _ us hl => match us, hl with | [_, _, _], _ => rfl
  have F14 := fun_mk (st := sNotch2) l14 c14 k14
  have b14 := F14.binds (ps := ["cask", "parts"]) fun _ _ _ _ _ _ us hl => match us, hl with | [_, _], _ => rfl
  have F15 := fun_mk (st := sAnsd) l15 c15 k15
  have b15 := F15.binds (ps := ["cask", "kind", "numbers"]) fun _ _ _ _ _ _ us hl => match us, hl with | [_, _, _], _ => rfl
  have F16 := fun_mk (st := sBegun) l16 c16 k16
  have b16 := F16.binds (ps := ["cask", "area"]) fun _ _ _ _ _ _ us hl => match us, hl with | [_, _], _ => rfl
  have F17 := fun_mk (st := sAns) l17 c17 k17
  refine ⟨PySem.W.fnOf "answers" "answers" (defArgs sAns) (defBody sAns) (defScope sAns) .none kV17 dc17 pm17 an17 cd17 ct17, fun s us hu => match us, hu with | [_], _ => .of_eq rfl, fun base _ _ => ?_⟩
  have g1 := PySem.W.mg_of X G a1
  have L : Low P w K mg base f1 f2 f3 f4 _ _ _ _ := ⟨g1, k1, b1, ok_low F1, PySem.W.mg_of X G a2, k2, b2, ok_plus F2 g1 F1 b1, PySem.W.mg_of X G a3, k3, b3, ok_more F3, PySem.W.mg_of X G a4, k4, b4, ok_part F4 g1 F1 b1⟩
  have m6 : Meth K C "rim" f6 := ⟨a6, i6, k6⟩
  have m7 : Meth K C "holds" f7 := ⟨a7, i7, k7⟩
  have m8 : Meth K C "whole" f8 := ⟨a8, i8, k8⟩
  have m9 : Meth K C "deep" f9 := ⟨a9, i9, k9⟩
  have m10 : Meth K C "notches" f10 := ⟨a10, i10, k10⟩
  have o5 : FnOk P w K mg base CX0 1 f5 _ ["self", "area"] (spInit C) := ok_init F5 T
  have o6 : FnOk P w K mg base CX0 1 f6 _ ["self"] (spRim C) := ok_rim F6 T
  have o7 : FnOk P w K mg base CX0 3 f7 _ ["self", "p", "q"] (spHolds C) := ok_holds F7 T L
  have o8 : FnOk P w K mg base CX0 4 f8 _ ["self"] (spWhole C) := ok_whole F8 T m6 b6 o6 m7 b7 o7
  have o9 : FnOk P w K mg base CX0 4 f9 _ ["self", "much"] (spDeep C) := ok_deep F9 T L (PySem.W.mg_of X G zHUNDREDTHS) m6 b6 o6 m7 b7 o7
  have o10 : FnOk P w K mg base CX0 5 f10 _ ["self", "parts"] (spNotch C) := ok_notch F10 T L m8 b8 o8 m9 b9 o9
  have M : Mets P w K mg base C f6 f7 f8 f9 f10 _ _ _ _ _ := ⟨m6, b6, o6, m7, b7, o7, m8, b8, o8, m9, b9, o9, m10, b10, o10⟩
  have D : Defs P w K mg base C f11 f12 f13 f14 _ _ _ _ := ⟨PySem.W.mg_of X G a11, k11, b11, ok_mark F11 T GC M, PySem.W.mg_of X G a12, k12, b12, ok_hold2 F12 T GC M, PySem.W.mg_of X G a13, k13, b13, ok_deep2 F13 T GC L M, PySem.W.mg_of X G a14, k14, b14, ok_notch2 F14 T GC M⟩
  have MI : Mk K C f5 := ⟨mk, a5, i5, kc⟩
  exact ok_ans F17 T MI b5 o5 (PySem.W.mg_of X G aN0) LN (PySem.W.mg_of X G zBEGINS) (PySem.W.mg_of X G a16) k16 b16 (ok_begun F16 T GC MI b5 o5) (PySem.W.mg_of X G a15) k15 b15 (ok_ansd F15 T M D)
end Rg
open PySem PySem.W PyProof.Rows
set_option maxRecDepth 100000 in
set_option maxHeartbeats 0 in
theorem PySem.Challenge.cw_rodgauge_s01_answers_holds : PySem.Challenge.rw_rodgauge_s01_answers.Holds := by
  w_on; k_headS; (case hw => exact ⟨[.list [.int 0, .int 5]], by decide +kernel, by decide +kernel⟩)
  k_fillS
  refine L2.walk_specK (r := PySem.Challenge.rw_rodgauge_s01_answers) (k := 8) (CX := L2.CX0) (ps := ["calls"]) (sp := Rg.spAns) (by decide +kernel) rfl rfl ⟨rfl, by decide, by decide⟩ (fun w h Y => PySem.W.kIn_of Y) ?F ?S (fun _ _ _ _ z => z)
  case F =>
    intro w mg fa h Y KX G hmg
    refine' Rg.all_mk KX G hmg ?aC ?a1 ?l1 ?c1 ?k1 ?a2 ?l2 ?c2 ?k2 ?a3 ?l3 ?c3 ?k3 ?a4 ?l4 ?c4 ?k4 ?a5 ?i5 ?l5 ?c5 ?k5 ?a6 ?i6 ?l6 ?c6 ?k6 ?a7 ?i7 ?l7 ?c7 ?k7 ?a8 ?i8 ?l8 ?c8 ?k8 ?a9 ?i9 ?l9 ?c9 ?k9 ?a10 ?i10 ?l10 ?c10 ?k10 ?a11 ?l11 ?c11 ?k11 ?a12 ?l12 ?c12 ?k12 ?a13 ?l13 ?c13 ?k13 ?a14 ?l14 ?c14 ?k14 ?a15 ?l15 ?c15 ?k15 ?a16 ?l16 ?c16 ?k16 ?a17 ?l17 ?c17 ?k17 ?pg ?hd ?po ?sa ?mk ?kc ?nM ?zHUNDREDTHS ?zMOST_AREA ?zMOST_HEIGHT ?zMOST_MARKS ?zMOST_BELOW ?zMOST_PARTS ?zBEGINS ?aW0 ?lW ?aF0 ?lF ?aN0 ?lN ?zlen ?zzip ?zlist ?zrange
    (case aC => k_is)
    (case a1 => k_is)
    (case l1 => k_is)
    (case c1 => k_is)
    (case k1 => k_is)
    (case a2 => k_is)
    (case l2 => k_is)
    (case c2 => k_is)
    (case k2 => k_is)
    (case a3 => k_is)
    (case l3 => k_is)
    (case c3 => k_is)
    (case k3 => k_is)
    (case a4 => k_is)
    (case l4 => k_is)
    (case c4 => k_is)
    (case k4 => k_is)
    (case a5 => k_is)
    (case i5 => k_is)
    (case l5 => k_is)
    (case c5 => k_is)
    (case k5 => k_is)
    (case a6 => k_is)
    (case i6 => k_is)
    (case l6 => k_is)
    (case c6 => k_is)
    (case k6 => k_is)
    (case a7 => k_is)
    (case i7 => k_is)
    (case l7 => k_is)
    (case c7 => k_is)
    (case k7 => k_is)
    (case a8 => k_is)
    (case i8 => k_is)
    (case l8 => k_is)
    (case c8 => k_is)
    (case k8 => k_is)
    (case a9 => k_is)
    (case i9 => k_is)
    (case l9 => k_is)
    (case c9 => k_is)
    (case k9 => k_is)
    (case a10 => k_is)
    (case i10 => k_is)
    (case l10 => k_is)
    (case c10 => k_is)
    (case k10 => k_is)
    (case a11 => k_is)
    (case l11 => k_is)
    (case c11 => k_is)
    (case k11 => k_is)
    (case a12 => k_is)
    (case l12 => k_is)
    (case c12 => k_is)
    (case k12 => k_is)
    (case a13 => k_is)
    (case l13 => k_is)
    (case c13 => k_is)
    (case k13 => k_is)
    (case a14 => k_is)
    (case l14 => k_is)
    (case c14 => k_is)
    (case k14 => k_is)
    (case a15 => k_is)
    (case l15 => k_is)
    (case c15 => k_is)
    (case k15 => k_is)
    (case a16 => k_is)
    (case l16 => k_is)
    (case c16 => k_is)
    (case k16 => k_is)
    (case a17 => k_is)
    (case l17 => k_is)
    (case c17 => k_is)
    (case k17 => k_is)
    (case pg => k_is)
    (case hd => k_is)
    (case po => k_is)
    (case sa => k_is)
    (case mk => k_is)
    (case kc => k_is)
    (case nM => k_is)
    (case zHUNDREDTHS => k_is)
    (case zMOST_AREA => k_is)
    (case zMOST_HEIGHT => k_is)
    (case zMOST_MARKS => k_is)
    (case zMOST_BELOW => k_is)
    (case zMOST_PARTS => k_is)
    (case zBEGINS => k_is)
    (case aW0 => k_is)
    (case lW => k_is)
    (case aF0 => k_is)
    (case lF => k_is)
    (case aN0 => k_is)
    (case lN => k_is)
    (case zlen => k_is)
    (case zzip => k_is)
    (case zlist => k_is)
    (case zrange => k_is)
  case S =>
    intro K H xs a hO hwi hask hx
    cases hx with
    | cons h1 h2 =>
      cases h2
      cases h1 with
      | lst hs ha =>
        have e := L2.ints_dw a.1 _ ha
        subst e
        have q : ((Codec.inLen 0 30000 a.1 && a.1.all (Codec.inInt 0 4294967295)) && true) = true := hwi
        rw [Bool.and_eq_true, Bool.and_eq_true] at q
        exact ⟨_, a.1, rfl, hs, fun z hz => Codec.inInt_iff.mp (List.all_eq_true.mp q.1.2 z hz), hask, fun H' p hp => .lst (L2.SqL.of hp) (L2.dw_ints _)⟩
#print axioms PySem.Challenge.cw_rodgauge_s01_answers_holds
