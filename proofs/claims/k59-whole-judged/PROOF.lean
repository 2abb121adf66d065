import PyProof.Rows.All
import Wide.All
import OpenK.AllK
import Wide.FinOn
import HandS.ForMost
import HandS.Evl
import HandS.Wide
import HandS.Gcd
import HandS.IsInst
import HandS.Flow
import HandS.Style
import HandS.Defaults
import HandS.NoneIn
import HandS.TupAny
import PyProof.MaxThree
import KE.GoesMore
import PyProof.CallFns
import PyProof.ReprBulk
import HandS.Ends
import KE.HD3
import HandS.HeadHook1
import HandS.HeadHook2
import PySem.Challenge.RW_ballmoves_k59_whole_judged
set_option Elab.async false
set_option linter.all false
set_option maxRecDepth 100000
/-! The plain side: what the defs compute, as functions of whole numbers and of fractions. No program in sight. -/
namespace Bm
structure M4 where
  a : Int
  b : Int
  c : Int
  d : Int
  deriving DecidableEq
/-- a ball (n, q) -/
structure Bq where
  n : Int
  q : Rat
  deriving DecidableEq

/-! ### primes -/
structure IsP (p : Nat) : Prop where
  two : 2 ≤ p
  small : p ≤ 97
  pr : ∀ d, d ∣ p → d = 1 ∨ d = p
theorem IsP.cop {p n : Nat} (h : IsP p) (hn : ¬ p ∣ n) : Nat.Coprime p n := by
  have h1 := Nat.gcd_dvd_left p n
  rcases h.pr _ h1 with e | e
  · exact e
  · exact absurd (by rw [← e]; exact Nat.gcd_dvd_right p n) hn
theorem IsP.mul {p a b : Nat} (h : IsP p) (hd : p ∣ a * b) : p ∣ a ∨ p ∣ b := by
  by_cases ha : p ∣ a
  · exact .inl ha
  · exact .inr ((h.cop ha).dvd_of_dvd_mul_left hd)
theorem IsP.mulI {p : Nat} {a b : Int} (h : IsP p) (hd : (p : Int) ∣ a * b) : (p : Int) ∣ a ∨ (p : Int) ∣ b := by
  rw [Int.ofNat_dvd_left] at hd ⊢
  rw [Int.ofNat_dvd_left]
  rw [Int.natAbs_mul] at hd
  exact h.mul hd

/-! ### how often a prime divides a number -/
def vN (p n : Nat) : Nat := if h : 2 ≤ p ∧ n ≠ 0 ∧ p ∣ n then vN p (n / p) + 1 else 0
termination_by n
decreasing_by exact Nat.div_lt_self (by omega) (by omega)
theorem vN_no {p n : Nat} (h : ¬ p ∣ n) : vN p n = 0 := by
  unfold vN; rw [dif_neg (fun z => h z.2.2)]
theorem vN_yes {p n : Nat} (hp : 2 ≤ p) (hn : n ≠ 0) (h : p ∣ n) : vN p n = vN p (n / p) + 1 := by
  rw [vN, dif_pos ⟨hp, hn, h⟩]
theorem vN_mul_p {p n : Nat} (hp : 2 ≤ p) (hn : n ≠ 0) : vN p (p * n) = vN p n + 1 := by
  rw [vN_yes hp (Nat.mul_ne_zero (by omega) hn) (Nat.dvd_mul_right p n), Nat.mul_div_cancel_left n (by omega)]
theorem vN_one (p : Nat) : vN p 1 = 0 := by
  unfold vN
  by_cases h : 2 ≤ p ∧ 1 ≠ 0 ∧ p ∣ 1
  · have := Nat.le_of_dvd (by omega) h.2.2; omega
  · rw [dif_neg h]
/-- n is p as often as told, times what p does not divide -/
theorem vN_split {p : Nat} (hp : 2 ≤ p) : ∀ n : Nat, n ≠ 0 → ∃ u, n = p ^ vN p n * u ∧ ¬ p ∣ u ∧ u ≠ 0 := by
  intro n
  induction n using Nat.strongRecOn with
  | ind n ih =>
    intro hn
    by_cases h : p ∣ n
    · obtain ⟨m, rfl⟩ := h
      have hm : m ≠ 0 := fun z => hn (by rw [z, Nat.mul_zero])
      obtain ⟨u, h1, h2, h3⟩ := ih m (by
        have : 2 * m ≤ p * m := Nat.mul_le_mul_right m hp
        omega) hm
      refine ⟨u, ?_, h2, h3⟩
      rw [vN_mul_p hp hm, Nat.pow_succ, Nat.mul_comm (p ^ vN p m) p, Nat.mul_assoc, ← h1]
    · exact ⟨n, by rw [vN_no h]; simp, h, hn⟩
theorem vN_of {p k u : Nat} (hp : 2 ≤ p) (hu : ¬ p ∣ u) : vN p (p ^ k * u) = k := by
  have u0 : u ≠ 0 := fun z => hu (z ▸ Nat.dvd_zero p)
  induction k with
  | zero => rw [Nat.pow_zero, Nat.one_mul, vN_no hu]
  | succ k ih =>
    rw [Nat.pow_succ, Nat.mul_comm (p ^ k) p, Nat.mul_assoc, vN_mul_p hp (Nat.mul_ne_zero (Nat.ne_of_gt (Nat.pow_pos (by omega))) u0), ih]
theorem vN_mul {p m n : Nat} (h : IsP p) (hm : m ≠ 0) (hn : n ≠ 0) : vN p (m * n) = vN p m + vN p n := by
  obtain ⟨u, e1, h1, _⟩ := vN_split h.two m hm
  obtain ⟨w, e2, h2, _⟩ := vN_split h.two n hn
  have e : m * n = p ^ (vN p m + vN p n) * (u * w) := by
    rw [Nat.pow_add]
    conv => lhs; rw [e1, e2]
    grind
  rw [e, vN_of h.two]
  exact fun z => (h.mul z).elim h1 h2
theorem pow_dvd_vN {p n k : Nat} (h : IsP p) (hn : n ≠ 0) : p ^ k ∣ n ↔ k ≤ vN p n := by
  obtain ⟨u, e, h1, _⟩ := vN_split h.two n hn
  constructor
  · rintro ⟨m, e2⟩
    have hm : m ≠ 0 := fun z => hn (by rw [e2, z, Nat.mul_zero])
    have hk : p ^ k ≠ 0 := Nat.ne_of_gt (Nat.pow_pos (by have := h.two; omega))
    rw [e2, vN_mul h hk hm]
    have : vN p (p ^ k) = k := by
      have := vN_of (p := p) (k := k) (u := 1) h.two (fun z => by have := Nat.le_of_dvd (by omega) z; have := h.two; omega)
      rwa [Nat.mul_one] at this
    omega
  · intro hk
    rw [e]
    exact Nat.dvd_trans (Nat.pow_dvd_pow p hk) (Nat.dvd_mul_right _ _)
/-- .. an integer, a fraction -/
def vI (p : Nat) (n : Int) : Nat := vN p n.natAbs
def vQ (p : Nat) (x : Rat) : Int := (vI p x.num : Int) - (vN p x.den : Int)

/-! ### fractions as pairs in their form -/
/-- the sign and size of the divisor by which n / d comes to its form -/
def fracG (n d : Int) : Int := if d > 0 then (Nat.gcd n.natAbs d.natAbs : Int) else -(Nat.gcd n.natAbs d.natAbs : Int)
theorem fracG_ne {n d : Int} (h : d ≠ 0) : fracG n d ≠ 0 := by
  have : 0 < Nat.gcd n.natAbs d.natAbs := Nat.gcd_pos_of_pos_right _ (Int.natAbs_pos.mpr h)
  unfold fracG; split <;> omega
theorem fracG_le {n d : Int} (h : d ≠ 0) : (fracG n d).natAbs ≤ d.natAbs := by
  have : Nat.gcd n.natAbs d.natAbs ≤ d.natAbs := Nat.gcd_le_right _ (Int.natAbs_pos.mpr h)
  unfold fracG; split <;> omega
theorem fracG_dvd (n d : Int) : fracG n d ∣ n ∧ fracG n d ∣ d := by
  have h1 : ((Nat.gcd n.natAbs d.natAbs : Nat) : Int) ∣ n := Int.ofNat_dvd_left.mpr (Nat.gcd_dvd_left _ _)
  have h2 : ((Nat.gcd n.natAbs d.natAbs : Nat) : Int) ∣ d := Int.ofNat_dvd_left.mpr (Nat.gcd_dvd_right _ _)
  unfold fracG
  split
  · exact ⟨h1, h2⟩
  · exact ⟨Int.neg_dvd.mpr h1, Int.neg_dvd.mpr h2⟩
theorem fracG_num {n d : Int} (h : d ≠ 0) : n.fdiv (fracG n d) = (Rat.divInt n d).num := by
  rw [Rat.num_divInt]
  have hg : (d.gcd n : Int) = (Nat.gcd n.natAbs d.natAbs : Nat) := by rw [Int.gcd_eq_natAbs_gcd_natAbs, Nat.gcd_comm]
  have g0 : (0 : Int) < (Nat.gcd n.natAbs d.natAbs : Nat) := by
    have : 0 < Nat.gcd n.natAbs d.natAbs := Nat.gcd_pos_of_pos_right _ (Int.natAbs_pos.mpr h)
    omega
  have dv : ((Nat.gcd n.natAbs d.natAbs : Nat) : Int) ∣ n := Int.ofNat_dvd_left.mpr (Nat.gcd_dvd_left _ _)
  rw [hg]
  unfold fracG
  generalize hG : ((Nat.gcd n.natAbs d.natAbs : Nat) : Int) = g at *
  obtain ⟨k, hk⟩ := dv
  by_cases hd : d > 0
  · rw [if_pos hd, Int.sign_eq_one_of_pos hd, Int.one_mul, hk, Int.mul_fdiv_cancel_left _ (by omega), Int.mul_ediv_cancel_left _ (by omega)]
  · rw [if_neg hd, Int.sign_eq_neg_one_of_neg (by omega), hk]
    have e : -1 * (g * k) = g * (-k) := by grind
    rw [e, Int.mul_ediv_cancel_left _ (by omega)]
    exact Int.fdiv_eq_of_eq_mul_left (by omega) (by grind)
theorem fracG_den {n d : Int} (h : d ≠ 0) : d.fdiv (fracG n d) = ((Rat.divInt n d).den : Int) := by
  rw [Rat.den_divInt, if_neg h]
  have hg : d.gcd n = Nat.gcd n.natAbs d.natAbs := by rw [Int.gcd_eq_natAbs_gcd_natAbs, Nat.gcd_comm]
  have g0 : 0 < Nat.gcd n.natAbs d.natAbs := Nat.gcd_pos_of_pos_right _ (Int.natAbs_pos.mpr h)
  have dv : Nat.gcd n.natAbs d.natAbs ∣ d.natAbs := Nat.gcd_dvd_right _ _
  rw [hg]
  unfold fracG
  generalize hG : Nat.gcd n.natAbs d.natAbs = g at *
  obtain ⟨k, hk⟩ := dv
  rw [hk, Nat.mul_div_cancel_left _ g0]
  by_cases hd : d > 0
  · rw [if_pos hd]
    exact Int.fdiv_eq_of_eq_mul_left (by omega) (by
      have : d = ((g * k : Nat) : Int) := by omega
      rw [this, Int.natCast_mul, Int.mul_comm])
  · rw [if_neg hd]
    exact Int.fdiv_eq_of_eq_mul_left (by omega) (by
      have : d = -((g * k : Nat) : Int) := by omega
      rw [this, Int.natCast_mul]; grind)
theorem rat_add (x y : Rat) : Rat.divInt (x.num * y.den + y.num * x.den) (x.den * y.den) = x + y := by
  rw [Rat.add_def', ← Rat.divInt_ofNat, Int.natCast_mul]
theorem rat_sub (x y : Rat) : Rat.divInt (x.num * y.den - y.num * x.den) (x.den * y.den) = x - y := by
  rw [Rat.sub_def', ← Rat.divInt_ofNat, Int.natCast_mul]
theorem rat_mul (x y : Rat) : Rat.divInt (x.num * y.num) (x.den * y.den) = x * y := by
  rw [Rat.mul_def', ← Rat.divInt_ofNat, Int.natCast_mul]
theorem rat_div {x y : Rat} : Rat.divInt (x.num * y.den) (x.den * y.num) = x / y := by
  rw [Rat.div_def, Rat.inv_def, ← Rat.divInt_mul_divInt, Rat.num_divInt_den]

/-! ### bounds -/
/-- below 2 ^ k, without the sign -/
def B (k : Nat) (z : Int) : Prop := z.natAbs < 2 ^ k
/-- both numbers of a fraction below 2 ^ k -/
def HR (k : Nat) (x : Rat) : Prop := B k x.num ∧ B k x.den
theorem B.mono {j k : Nat} {z : Int} (h : B j z) (l : j ≤ k) : B k z := Nat.lt_of_lt_of_le h (Nat.pow_le_pow_right (by omega) l)
theorem HR.mono {j k : Nat} {z : Rat} (h : HR j z) (l : j ≤ k) : HR k z := ⟨h.1.mono l, h.2.mono l⟩
theorem B.mul {j k : Nat} {x y : Int} (h : B j x) (g : B k y) : B (j + k) (x * y) := by
  unfold B; rw [Int.natAbs_mul, Nat.pow_add]; exact Nat.mul_lt_mul'' h g
theorem B.add {k : Nat} {x y : Int} (h : B k x) (g : B k y) : B (k + 1) (x + y) := by
  unfold B at *; have := Int.natAbs_add_le x y; rw [Nat.pow_succ]; omega
theorem B.sub {k : Nat} {x y : Int} (h : B k x) (g : B k y) : B (k + 1) (x - y) := by
  unfold B at *; have := Int.natAbs_sub_le x y; rw [Nat.pow_succ]; omega
theorem B.neg {k : Nat} {x : Int} (h : B k x) : B k (-x) := by unfold B at *; rw [Int.natAbs_neg]; exact h
theorem B.dvd {k : Nat} {x y : Int} (h : B k x) (h0 : x ≠ 0) (d : y ∣ x) : B k y := Nat.lt_of_le_of_lt (Nat.le_of_dvd (Int.natAbs_pos.mpr h0) (Int.natAbs_dvd_natAbs.mpr d)) h
theorem B.le {k : Nat} {x y : Int} (h : B k x) (l : y.natAbs ≤ x.natAbs) : B k y := Nat.lt_of_le_of_lt l h
theorem B.log {k : Nat} {x : Int} (h : B k x) (h0 : 0 < k) : x.natAbs.log2 < k := by
  by_cases z : x.natAbs = 0
  · rw [z, Nat.log2_zero]; exact h0
  · exact (Nat.log2_lt z).mpr h
theorem divInt_le (n d : Int) (h : d ≠ 0) : (Rat.divInt n d).num.natAbs ≤ n.natAbs ∧ (Rat.divInt n d).den ≤ d.natAbs := by
  have hd := fracG_dvd n d
  have h0 := fracG_ne (n := n) h
  rw [← fracG_num h]
  have e := fracG_den (n := n) h
  obtain ⟨⟨k, hk⟩, ⟨l, hl⟩⟩ := hd
  have e1 : n.fdiv (fracG n d) = k := Int.fdiv_eq_of_eq_mul_left h0 (by rw [Int.mul_comm]; exact hk)
  have e2 : d.fdiv (fracG n d) = l := Int.fdiv_eq_of_eq_mul_left h0 (by rw [Int.mul_comm]; exact hl)
  have g1 : 1 ≤ (fracG n d).natAbs := Int.natAbs_pos.mpr h0
  constructor
  · rw [e1]
    conv => rhs; rw [hk]
    rw [Int.natAbs_mul]
    exact Nat.le_mul_of_pos_left _ g1
  · have e3 : ((Rat.divInt n d).den : Int) = l := by rw [← e, e2]
    have e4 : (Rat.divInt n d).den = l.natAbs := by omega
    rw [e4]
    conv => rhs; rw [hl]
    rw [Int.natAbs_mul]
    exact Nat.le_mul_of_pos_left _ g1
theorem HR.of {k : Nat} {n d : Int} (h : d ≠ 0) (hn : B k n) (hd : B k d) : HR k (Rat.divInt n d) := by
  obtain ⟨h1, h2⟩ := divInt_le n d h
  exact ⟨hn.le h1, Nat.lt_of_le_of_lt (by simpa using h2) hd⟩
theorem den_ne (x : Rat) : (x.den : Int) ≠ 0 := by have := x.den_nz; omega
theorem HR.mul {j k : Nat} {x y : Rat} (h : HR j x) (g : HR k y) : HR (j + k) (x * y) := by
  rw [← rat_mul]; exact .of (Int.mul_ne_zero (den_ne x) (den_ne y)) (h.1.mul g.1) (h.2.mul g.2)
theorem HR.add {j k : Nat} {x y : Rat} (h : HR j x) (g : HR k y) : HR (j + k + 1) (x + y) := by
  rw [← rat_add]
  refine .of (Int.mul_ne_zero (den_ne x) (den_ne y)) (.add (h.1.mul g.2) ?_) ((h.2.mul g.2).mono (by omega))
  have := g.1.mul h.2
  rwa [Nat.add_comm k j] at this
theorem HR.sub {j k : Nat} {x y : Rat} (h : HR j x) (g : HR k y) : HR (j + k + 1) (x - y) := by
  rw [← rat_sub]
  refine .of (Int.mul_ne_zero (den_ne x) (den_ne y)) (.sub (h.1.mul g.2) ?_) ((h.2.mul g.2).mono (by omega))
  have := g.1.mul h.2
  rwa [Nat.add_comm k j] at this
theorem HR.div {j k : Nat} {x y : Rat} (h : HR j x) (g : HR k y) (h0 : y ≠ 0) : HR (j + k) (x / y) := by
  rw [← rat_div]; exact .of (Int.mul_ne_zero (den_ne x) (fun z => h0 (Rat.num_eq_zero.mp z))) (h.1.mul g.2) (h.2.mul g.1)
theorem HR.neg {j : Nat} {x : Rat} (h : HR j x) : HR j (-x) := ⟨h.1.neg, h.2⟩
theorem HR.inv {j : Nat} {x : Rat} (h : HR j x) (h0 : x ≠ 0) : HR (j + 1) x⁻¹ := by
  have := HR.div (j := 1) (x := 1) ⟨(by show (1 : Nat) < 2 ^ 1; decide), (by show (1 : Nat) < 2 ^ 1; decide)⟩ h h0
  rw [Rat.div_def, Rat.one_mul] at this
  exact this.mono (by omega)
theorem HR.int {k : Nat} {z : Int} (h : B k z) (h0 : 0 < k) : HR k (z : Rat) := ⟨h, by
  show (1 : Nat) < 2 ^ k
  exact Nat.one_lt_two_pow (by omega)⟩
end Bm
namespace Bm
/-! ### moves -/
def gcd4 (m : M4) : Nat := ((Nat.gcd m.a.natAbs m.b.natAbs).gcd m.c.natAbs).gcd m.d.natAbs
def firstM (m : M4) : Int := if m.a ≠ 0 then m.a else if m.b ≠ 0 then m.b else if m.c ≠ 0 then m.c else m.d
def formG (m : M4) : Int := if firstM m > 0 then (gcd4 m : Int) else -(gcd4 m : Int)
def divM (m : M4) (g : Int) : M4 := ⟨m.a.fdiv g, m.b.fdiv g, m.c.fdiv g, m.d.fdiv g⟩
def formM (m : M4) : M4 := divM m (formG m)
def mulM (m n : M4) : M4 := ⟨m.a * n.a + m.b * n.c, m.a * n.b + m.b * n.d, m.c * n.a + m.d * n.c, m.c * n.b + m.d * n.d⟩
def adjM (m : M4) : M4 := ⟨m.d, -m.b, -m.c, m.a⟩
def sizeM (m : M4) : Int := m.a * m.d - m.b * m.c
def trM (m : M4) : Int := m.a + m.d
def afterM (m n : M4) : M4 := formM (mulM m n)
def backM (m : M4) : M4 := formM (adjM m)
def toldM (t m : M4) : M4 := afterM (backM t) (afterM m t)
def idM : M4 := ⟨1, 0, 0, 1⟩
structure IsMv (m : M4) : Prop where
  form : formM m = m
  size : sizeM m ≠ 0
def wholeM (m : M4) : Bool := sizeM m == 1 || sizeM m == -1
/-- a letter (k, s), a word -/
abbrev Wd := List (Int × Int)
def letM (ms : List M4) (l : Int × Int) : M4 := if l.2 = 1 then ms.getD l.1.toNat idM else backM (ms.getD l.1.toNat idM)
def wordM (ms : List M4) (w : Wd) : M4 := w.foldl (fun f l => afterM f (letM ms l)) idM

/-! ### balls -/
noncomputable def invF (n w : Int) : Int := open Classical in if h : ∃ u, 0 ≤ u ∧ u < w ∧ w ∣ n * u - 1 then Classical.choose h else 0
noncomputable def ballQ (p : Nat) (n : Int) (x : Rat) : Bq :=
  if n + (vN p x.den : Int) ≤ 0 then ⟨n, 0⟩
  else ⟨n, Rat.divInt ((x.num * invF ((x.den : Int) / (p : Int) ^ vN p x.den) ((p : Int) ^ (n + vN p x.den).toNat)) % (p : Int) ^ (n + vN p x.den).toNat) ((p : Int) ^ vN p x.den)⟩
def topQ (p : Nat) (β γ : Bq) : Int := if β.q - γ.q = 0 then min β.n γ.n else min (min β.n γ.n) (vQ p (β.q - γ.q))
def stepsQ (p : Nat) (β γ : Bq) : Int := β.n + γ.n - 2 * topQ p β γ
noncomputable def onRoadQ (p : Nat) (β γ : Bq) (k : Int) : Bq := if k ≤ β.n - topQ p β γ then ballQ p (β.n - k) β.q else ballQ p (topQ p β γ + k - (β.n - topQ p β γ)) γ.q
def hasMore (p : Nat) (x y : Rat) : Bool := if y = 0 then false else decide (x = 0) || decide (vQ p x > vQ p y)
/-- the ball of two columns, the second one with no fewer parts below -/
noncomputable def ballC (p : Nat) (u v : Rat × Rat) : Bq := ballQ p (vQ p ((u.1 - u.2 / v.2 * v.1) / v.2)) (v.1 / v.2)
def colA (p : Nat) (m : M4) (β : Bq) : Rat × Rat := ((m.a : Rat) * (p : Rat) ^ β.n, (m.c : Rat) * (p : Rat) ^ β.n)
def colB (m : M4) (β : Bq) : Rat × Rat := ((m.a : Rat) * β.q + (m.b : Rat), (m.c : Rat) * β.q + (m.d : Rat))
noncomputable def ledQ (p : Nat) (m : M4) (β : Bq) : Bq := if hasMore p (colB m β).2 (colA p m β).2 then ballC p (colB m β) (colA p m β) else ballC p (colA p m β) (colB m β)
def start0 : Bq := ⟨0, 0⟩
def stretchQ (p : Nat) (m : M4) : Int := if trM m = 0 then 0 else max 0 ((vI p (sizeM m) : Int) - 2 * (vI p (trM m) : Int))
noncomputable def restQ (p : Nat) (m : M4) (β : Bq) : Bq := onRoadQ p β (ledQ p m β) ((stepsQ p β (ledQ p m β) - stretchQ p m) / 2)
/-- whether a move keeps a ball: as the program looks, as the law looks -/
noncomputable def keepsP (p : Nat) (m : M4) : Bool := decide (stretchQ p m ≤ 0) && decide (ledQ p m (restQ p m start0) = restQ p m start0)
def keepsL (p : Nat) (m : M4) : Bool := decide (stretchQ p m = 0) && decide (vI p (sizeM m) % 2 = 0)
/-! ### the law's own look -/
def hasQ (p : Nat) (β : Bq) (x : Rat) : Bool := decide (x - β.q = 0) || decide (vQ p (x - β.q) ≥ β.n)
noncomputable def roadAt (p : Nat) (β γ : Bq) : Nat → Bq
  | 0 => β
  | i + 1 => if hasQ p (roadAt p β γ i) γ.q && decide ((roadAt p β γ i).n < γ.n) then ballQ p ((roadAt p β γ i).n + 1) γ.q else ballQ p ((roadAt p β γ i).n - 1) (roadAt p β γ i).q
noncomputable def gateL (p : Nat) (m : M4) : Bq := roadAt p start0 (ledQ p m start0) (((stepsQ p start0 (ledQ p m start0)).toNat + 1) / 2)
noncomputable def farL (p : Nat) (f : Bq) (m : M4) : Bq := if stepsQ p start0 (gateL p m) > stepsQ p start0 f then gateL p m else f
noncomputable def nearL (p : Nat) (ms : List M4) : Option Bq :=
  if ms.all (keepsL p) then (if ms.all (fun m => decide (ledQ p m (ms.foldl (farL p) start0) = ms.foldl (farL p) start0)) then some (ms.foldl (farL p) start0) else none) else none
def leastL (p : Nat) (s : Bq) : Int := max (s.q.den : Int) ((p : Int) ^ (max 0 (0 - s.n)).toNat)
def highL (p : Nat) (s : Bq) : Int := ((p : Rat) ^ s.n * (leastL p s : Rat)).num
def belowL (ps : List (Nat × Bq)) : Int := ps.foldl (fun b x => b * leastL x.1 x.2) 1
noncomputable def gridStep (below : Int) (fa : Int × Int) (x : Nat × Bq) : Int × Int :=
  (fa.1 + fa.2 * (((x.2.q.num * (below / (x.2.q.den : Int)) - fa.1) * invF fa.2 (highL x.1 x.2)) % highL x.1 x.2), fa.2 * highL x.1 x.2)
noncomputable def gridL (ps : List (Nat × Bq)) : M4 := formM ⟨(ps.foldl (gridStep (belowL ps)) (0, 1)).2, (ps.foldl (gridStep (belowL ps)) (0, 1)).1, 0, belowL ps⟩
def P97 : List Nat := [2, 3, 5, 7, 11, 13, 17, 19, 23, 29, 31, 37, 41, 43, 47, 53, 59, 61, 67, 71, 73, 79, 83, 89, 97]
def primesL (n : Int) : List Nat := P97.filter fun p => decide (n % (p : Int) = 0)
def badL (ms : List M4) : List Nat := P97.filter fun p => ms.any fun m => decide (sizeM m % (p : Int) = 0)
/-- the first i below n for which f does not hold -/
def firstNot (f : Nat → Bool) (n : Nat) : Option Nat := (List.range n).find? fun i => !f i
/-- the first later move with which the i-th keeps nothing -/
def innerAt (p : Nat) (ms : List M4) (i : Nat) : Option Nat := (List.range (ms.length - (i + 1))).find? fun j => !keepsL p (afterM (ms.getD i idM) (ms.getD (i + 1 + j) idM))
def outerAt (p : Nat) (ms : List M4) : Option Nat := (List.range ms.length).find? fun i => (innerAt p ms i).isSome
def barL (p : Nat) (ms : List M4) : Option Wd :=
  match (List.range ms.length).find? (fun k => !keepsL p (ms.getD k idM)) with
  | some k => some [((k : Int), 1)]
  | none => match outerAt p ms with
    | some i => (match innerAt p ms i with
      | some j => some [((i : Int), 1), (((i + 1 + j : Nat) : Int), 1)]
      | none => none)
    | none => none
inductive Wh where
  | whole (t : M4)
  | bars (p : Nat) (w : Option Wd)
noncomputable def wholeGo (ms : List M4) : List Nat → List (Nat × Bq) → Wh
  | [], ps => .whole (gridL ps)
  | p :: r, ps => match nearL p ms with
    | none => .bars p (barL p ms)
    | some s => wholeGo ms r (ps ++ [(p, s)])
noncomputable def wholeL (ms : List M4) : Wh := wholeGo ms (badL ms) []

/-! ### draws -/
structure Src where
  cells : List Int
  left : Int
  mixed : Int
  turn : Int
/-- cells are taken from the end until one is above 1 (or none is left) -/
def fillS : List Int → Int → List Int × Int
  | [], l => ([], l)
  | c :: r, l => if l < 2 then fillS r c else (c :: r, l)
def pickS (s : Src) (most : Int) : Int × Src :=
  if most < 2 then (0, s)
  else
    let f := fillS s.cells.reverse s.left
    if f.2 > 1 then (f.2 % most, ⟨f.1.reverse, f.2 / most, s.mixed, s.turn⟩)
    else
      let t := s.turn + 1
      let m1 := (s.mixed + t * 104729) % 998244353
      let m2 := (m1 * m1 + t * 17) % 2147483647
      ((m2 / 16) % most, ⟨f.1.reverse, f.2, s.mixed, t⟩)
def openS (script : List Int) : Src := ⟨(script.map fun c => (c.natAbs : Int)).reverse, 1, script.foldl (fun m c => (m * 69069 + c * 31 + 5) % 2147483629) 11, 0⟩
end Bm
namespace Bm
/-! ### powers of a prime as fractions -/
theorem pow_nat_num (p k : Nat) : ((p : Rat) ^ k).num = (p : Int) ^ k := by rw [Rat.num_pow]; rfl
theorem pow_nat_den (p k : Nat) : ((p : Rat) ^ k).den = 1 := by rw [Rat.den_pow]; show 1 ^ k = 1; rw [Nat.one_pow]
theorem powQ_pos {p : Nat} {n : Int} (h : 0 ≤ n) : ((p : Rat) ^ n).num = (p : Int) ^ n.toNat ∧ ((p : Rat) ^ n).den = 1 := by
  have e : n = (n.toNat : Int) := by omega
  rw [e, Rat.zpow_natCast]
  exact ⟨by rw [pow_nat_num, Int.toNat_natCast], pow_nat_den _ _⟩
theorem powQ_neg {p : Nat} {n : Int} (hp : p ≠ 0) (h : n < 0) : ((p : Rat) ^ n).num = 1 ∧ (((p : Rat) ^ n).den : Int) = (p : Int) ^ (-n).toNat := by
  have e : n = -((-n).toNat : Int) := by omega
  have h2 : ((p : Rat) ^ (-n).toNat).num ≠ 0 := by rw [pow_nat_num]; exact Int.pow_ne_zero (by omega)
  have h3 : (0 : Int) < (p : Int) ^ (-n).toNat := Int.pow_pos (by omega)
  rw [e, Rat.zpow_neg, Rat.zpow_natCast]
  constructor
  · rw [Rat.num_inv, pow_nat_num, pow_nat_den, Int.sign_eq_one_of_pos h3]; rfl
  · rw [Rat.den_inv, if_neg h2, pow_nat_num]
    have : (-(-((-n).toNat : Int))).toNat = (-n).toNat := by omega
    rw [this]
    omega
theorem p_ne {p : Nat} (h : IsP p) : (p : Rat) ≠ 0 := by
  have := h.two
  intro z
  have : ((p : Rat)).num = 0 := by rw [z]; rfl
  have e : ((p : Rat)).num = (p : Int) := rfl
  omega
/-! ### inverses -/
theorem invF_spec {n w : Int} (hw : 0 < w) (h : ∃ u, w ∣ n * u - 1) : 0 ≤ invF n w ∧ invF n w < w ∧ w ∣ n * invF n w - 1 := by
  have ex : ∃ u, 0 ≤ u ∧ u < w ∧ w ∣ n * u - 1 := by
    obtain ⟨u, hu⟩ := h
    refine ⟨u % w, Int.emod_nonneg _ (by omega), Int.emod_lt_of_pos _ hw, ?_⟩
    have e : n * (u % w) - 1 = n * u - 1 - w * (n * (u / w)) := by
      have := Int.emod_add_mul_ediv u w
      grind
    rw [e]
    exact Int.dvd_sub hu (Int.dvd_mul_right _ _)
  unfold invF
  rw [dif_pos ex]
  exact Classical.choose_spec ex
theorem bez (a b : Nat) : ∃ u v : Int, (a : Int) * u + (b : Int) * v = (Nat.gcd a b : Int) := by
  induction a, b using Nat.gcd.induction with
  | H0 b => exact ⟨0, 1, by rw [Nat.gcd_zero_left]; omega⟩
  | H1 a b h ih =>
    obtain ⟨u, v, e⟩ := ih
    refine ⟨v - (b / a : Nat) * u, u, ?_⟩
    rw [Nat.gcd_rec, ← e]
    have h2 : ((b % a : Nat) : Int) = (b : Int) - (a : Int) * ((b / a : Nat) : Int) := by
      have := Nat.mod_add_div b a
      have h3 : ((b % a : Nat) : Int) + (a : Int) * ((b / a : Nat) : Int) = (b : Int) := by
        rw [← Int.natCast_mul, ← Int.natCast_add, this]
      omega
    rw [h2]
    grind
theorem unit_of_cop {n w : Int} (h : Int.gcd n w = 1) : ∃ u, w ∣ n * u - 1 := by
  obtain ⟨u, v, e⟩ := bez n.natAbs w.natAbs
  have hg : Nat.gcd n.natAbs w.natAbs = 1 := h
  rw [hg] at e
  have en : (n.natAbs : Int) = n ∨ (n.natAbs : Int) = -n := by omega
  have ew : (w.natAbs : Int) = w ∨ (w.natAbs : Int) = -w := by omega
  rcases en with en | en <;> rcases ew with ew | ew <;> rw [en, ew] at e
  · exact ⟨u, -v, by grind⟩
  · exact ⟨u, v, by grind⟩
  · exact ⟨-u, -v, by grind⟩
  · exact ⟨-u, v, by grind⟩
theorem dvd_of_cop {a b c : Int} (hc : ∃ u, a ∣ b * u - 1) (h : a ∣ b * c) : a ∣ c := by
  obtain ⟨u, k, hk⟩ := hc
  obtain ⟨l, hl⟩ := h
  exact ⟨l * u - k * c, by grind⟩
theorem invF_uniq {n w u : Int} (hw : 0 < w) (h0 : 0 ≤ u) (h1 : u < w) (h : w ∣ n * u - 1) : u = invF n w := by
  obtain ⟨g0, g1, g2⟩ := invF_spec hw ⟨u, h⟩
  have d : w ∣ n * (u - invF n w) := by
    have e : n * (u - invF n w) = (n * u - 1) - (n * invF n w - 1) := by grind
    rw [e]; exact Int.dvd_sub h g2
  obtain ⟨k, hk⟩ := dvd_of_cop ⟨u, h⟩ d
  have hk0 : k = 0 := by
    rcases Int.lt_trichotomy k 0 with z | z | z
    · have : w * k ≤ w * (-1) := Int.mul_le_mul_of_nonneg_left (by omega) (by omega)
      omega
    · exact z
    · have : w * 1 ≤ w * k := Int.mul_le_mul_of_nonneg_left (by omega) (by omega)
      omega
  rw [hk0] at hk
  omega

/-! ### a fraction with its prime taken out of the lower number -/
theorem cop_pow {p : Nat} (h : IsP p) {u : Nat} (hu : ¬ p ∣ u) (k : Nat) : Nat.Coprime u (p ^ k) := (Nat.Coprime.pow_left k (h.cop hu)).symm
theorem den_split {p : Nat} (h : IsP p) (x : Rat) : ∃ u : Nat, x.den = p ^ vN p x.den * u ∧ ¬ p ∣ u ∧ u ≠ 0 := vN_split h.two x.den x.den_nz
theorem ppos {p : Nat} (h : IsP p) (k : Nat) : (0 : Int) < (p : Int) ^ k := Int.pow_pos (by have := h.two; omega)
theorem den_div {p : Nat} (h : IsP p) {x : Rat} {u : Nat} (e : x.den = p ^ vN p x.den * u) : (x.den : Int) / (p : Int) ^ vN p x.den = (u : Int) := by
  conv => lhs; lhs; rw [e]
  rw [Int.natCast_mul, Int.natCast_pow, Int.mul_ediv_cancel_left _ (by have := ppos h (vN p x.den); omega)]
theorem scale_low {p : Nat} (h : IsP p) (x : Rat) : (x * (p : Rat) ^ ((vN p x.den : Nat) : Int)).num = x.num ∧ ((x * (p : Rat) ^ ((vN p x.den : Nat) : Int)).den : Int) = (x.den : Int) / (p : Int) ^ vN p x.den := by
  obtain ⟨u, e, hu, u0⟩ := den_split h x
  have hk := ppos h (vN p x.den)
  have hu0 : (u : Int) ≠ 0 := by omega
  have e1 : x * (p : Rat) ^ ((vN p x.den : Nat) : Int) = Rat.divInt x.num u := by
    rw [Rat.zpow_natCast, ← rat_mul, pow_nat_num, pow_nat_den]
    rw [Rat.divInt_eq_divInt_iff (by have := den_ne x; omega) hu0]
    have e2 : (x.den : Int) = (p : Int) ^ vN p x.den * u := by
      conv => lhs; rw [e]
      rw [Int.natCast_mul, Int.natCast_pow]
    rw [e2]
    grind
  have hc : Nat.gcd u x.num.natAbs = 1 := by
    have := x.reduced
    rw [e] at this
    exact Nat.Coprime.symm (Nat.Coprime.coprime_mul_left_right this)
  rw [e1, den_div h e]
  constructor
  · rw [Rat.num_divInt, Int.sign_eq_one_of_pos (by omega), Int.one_mul, Int.gcd_eq_natAbs_gcd_natAbs]
    show x.num / ((Nat.gcd u x.num.natAbs : Nat) : Int) = _
    rw [hc]; simp
  · rw [Rat.den_divInt, if_neg hu0, Int.gcd_eq_natAbs_gcd_natAbs]
    show ((u / Nat.gcd u x.num.natAbs : Nat) : Int) = _
    rw [hc]; simp
/-- the unit part of the lower number is prime to any power of p -/
theorem unit_cop {p : Nat} (h : IsP p) (x : Rat) (k : Nat) : Int.gcd ((x.den : Int) / (p : Int) ^ vN p x.den) ((p : Int) ^ k) = 1 := by
  obtain ⟨u, e, hu, u0⟩ := den_split h x
  rw [den_div h e, Int.gcd_eq_natAbs_gcd_natAbs, Int.natAbs_pow]
  exact cop_pow h hu k
end Bm
namespace Bm
theorem vN_le {p : Nat} (h : IsP p) {n k : Nat} (hn : n ≠ 0) (hk : n < 2 ^ k) : vN p n < k := by
  have h1 : p ^ vN p n ∣ n := (pow_dvd_vN h hn).mpr (Nat.le_refl _)
  have h2 : p ^ vN p n ≤ n := Nat.le_of_dvd (by omega) h1
  have h3 : 2 ^ vN p n ≤ p ^ vN p n := Nat.pow_le_pow_left h.two _
  rcases Nat.lt_or_ge (vN p n) k with z | z
  · exact z
  · have : 2 ^ k ≤ 2 ^ vN p n := Nat.pow_le_pow_right (by omega) z
    omega
theorem pow_vN_le {p : Nat} (h : IsP p) {n : Nat} (hn : n ≠ 0) : p ^ vN p n ≤ n := Nat.le_of_dvd (by omega) ((pow_dvd_vN h hn).mpr (Nat.le_refl _))
theorem B_pow_den {p : Nat} (h : IsP p) {x : Rat} {k : Nat} (hx : HR k x) : B k ((p : Int) ^ vN p x.den) := by
  have h1 : B k (x.den : Int) := hx.2
  refine h1.le ?_
  rw [Int.natAbs_pow]
  exact pow_vN_le h x.den_nz
theorem invF_bnd {n w : Int} {k : Nat} (hw : 0 < w) (hb : B k w) (h : Int.gcd n w = 1) : B k (invF n w) := by
  obtain ⟨h1, h2, _⟩ := invF_spec hw (unit_of_cop h)
  exact hb.le (by omega)
theorem HR_pow {p : Nat} (h : IsP p) {n : Int} {k : Nat} (hk : 0 < k) (hb : B k ((p : Int) ^ n.natAbs)) : HR k ((p : Rat) ^ n) := by
  by_cases hn : 0 ≤ n
  · obtain ⟨e1, e2⟩ := powQ_pos (p := p) hn
    have e : n.natAbs = n.toNat := by omega
    refine ⟨by rw [e1, ← e]; exact hb, ?_⟩
    rw [e2]
    show (1 : Nat) < 2 ^ k
    exact Nat.one_lt_two_pow (by omega)
  · obtain ⟨e1, e2⟩ := powQ_neg (p := p) (n := n) (by have := h.two; omega) (by omega)
    have e : n.natAbs = (-n).toNat := by omega
    refine ⟨?_, by rw [e2, ← e]; exact hb⟩
    rw [e1]
    show (1 : Nat) < 2 ^ k
    exact Nat.one_lt_two_pow (by omega)
end Bm
namespace Bm
/-! ### moves: sizes, forms -/
structure MB (k : Nat) (m : M4) : Prop where
  a : B k m.a
  b : B k m.b
  c : B k m.c
  d : B k m.d
theorem MB.mono {j k : Nat} {m : M4} (h : MB j m) (l : j ≤ k) : MB k m := ⟨h.a.mono l, h.b.mono l, h.c.mono l, h.d.mono l⟩
theorem MB.mul {j k : Nat} {m n : M4} (h : MB j m) (g : MB k n) : MB (j + k + 1) (mulM m n) :=
  ⟨(h.a.mul g.a).add (h.b.mul g.c), (h.a.mul g.b).add (h.b.mul g.d), (h.c.mul g.a).add (h.d.mul g.c), (h.c.mul g.b).add (h.d.mul g.d)⟩
theorem MB.size {k : Nat} {m : M4} (h : MB k m) : B (k + k + 1) (sizeM m) := (h.a.mul h.d).sub (h.b.mul h.c)
theorem MB.tr {k : Nat} {m : M4} (h : MB k m) : B (k + 1) (trM m) := h.a.add h.d
theorem MB.adj {k : Nat} {m : M4} (h : MB k m) : MB k (adjM m) := ⟨h.d, h.b.neg, h.c.neg, h.a⟩
theorem size_mul (m n : M4) : sizeM (mulM m n) = sizeM m * sizeM n := by unfold sizeM mulM; grind
theorem size_adj (m : M4) : sizeM (adjM m) = sizeM m := by unfold sizeM adjM; grind
theorem first_ne {m : M4} (h : sizeM m ≠ 0) : firstM m ≠ 0 := by
  intro z
  unfold firstM at z
  apply h
  unfold sizeM
  by_cases ha : m.a ≠ 0
  · rw [if_pos ha] at z; exact absurd z ha
  · rw [if_neg ha] at z
    by_cases hb : m.b ≠ 0
    · rw [if_pos hb] at z; exact absurd z hb
    · have ha' : m.a = 0 := Decidable.not_not.mp ha
      have hb' : m.b = 0 := Decidable.not_not.mp hb
      rw [ha', hb']; simp
theorem gcd4_dvd (m : M4) : (gcd4 m : Int) ∣ m.a ∧ (gcd4 m : Int) ∣ m.b ∧ (gcd4 m : Int) ∣ m.c ∧ (gcd4 m : Int) ∣ m.d := by
  unfold gcd4
  have h1 := Nat.gcd_dvd_left ((Nat.gcd m.a.natAbs m.b.natAbs).gcd m.c.natAbs) m.d.natAbs
  have h2 := Nat.gcd_dvd_right ((Nat.gcd m.a.natAbs m.b.natAbs).gcd m.c.natAbs) m.d.natAbs
  have h3 := Nat.dvd_trans h1 (Nat.gcd_dvd_left (Nat.gcd m.a.natAbs m.b.natAbs) m.c.natAbs)
  have h4 := Nat.dvd_trans h1 (Nat.gcd_dvd_right (Nat.gcd m.a.natAbs m.b.natAbs) m.c.natAbs)
  exact ⟨Int.ofNat_dvd_left.mpr (Nat.dvd_trans h3 (Nat.gcd_dvd_left _ _)), Int.ofNat_dvd_left.mpr (Nat.dvd_trans h3 (Nat.gcd_dvd_right _ _)), Int.ofNat_dvd_left.mpr h4, Int.ofNat_dvd_left.mpr h2⟩
theorem dvd_gcd4 {m : M4} {g : Nat} (ha : (g : Int) ∣ m.a) (hb : (g : Int) ∣ m.b) (hc : (g : Int) ∣ m.c) (hd : (g : Int) ∣ m.d) : g ∣ gcd4 m := by
  unfold gcd4
  exact Nat.dvd_gcd (Nat.dvd_gcd (Nat.dvd_gcd (Int.ofNat_dvd_left.mp ha) (Int.ofNat_dvd_left.mp hb)) (Int.ofNat_dvd_left.mp hc)) (Int.ofNat_dvd_left.mp hd)
theorem first_in (m : M4) : firstM m = m.a ∨ firstM m = m.b ∨ firstM m = m.c ∨ firstM m = m.d := by
  unfold firstM
  split
  · exact .inl rfl
  · split
    · exact .inr (.inl rfl)
    · split
      · exact .inr (.inr (.inl rfl))
      · exact .inr (.inr (.inr rfl))
theorem gcd4_first (m : M4) : (gcd4 m : Int) ∣ firstM m := by
  obtain ⟨h1, h2, h3, h4⟩ := gcd4_dvd m
  rcases first_in m with e | e | e | e <;> rw [e] <;> assumption
theorem gcd4_ne {m : M4} (h : firstM m ≠ 0) : gcd4 m ≠ 0 := fun z => by
  have := gcd4_first m
  rw [z] at this
  exact h (Int.zero_dvd.mp this)
theorem formG_ne {m : M4} (h : firstM m ≠ 0) : formG m ≠ 0 := by
  have := gcd4_ne h
  unfold formG; split <;> omega
theorem MB.first {k : Nat} {m : M4} (h : MB k m) : B k (firstM m) := by
  rcases first_in m with e | e | e | e <;> rw [e]
  · exact h.a
  · exact h.b
  · exact h.c
  · exact h.d
theorem formG_dvd (m : M4) : formG m ∣ m.a ∧ formG m ∣ m.b ∧ formG m ∣ m.c ∧ formG m ∣ m.d := by
  obtain ⟨h1, h2, h3, h4⟩ := gcd4_dvd m
  unfold formG
  split
  · exact ⟨h1, h2, h3, h4⟩
  · exact ⟨Int.neg_dvd.mpr h1, Int.neg_dvd.mpr h2, Int.neg_dvd.mpr h3, Int.neg_dvd.mpr h4⟩
theorem formG_abs (m : M4) : (formG m).natAbs = gcd4 m := by unfold formG; split <;> omega
theorem formG_B {k : Nat} {m : M4} (h : MB k m) (h0 : firstM m ≠ 0) : B k (formG m) := by
  have h1 := gcd4_first m
  have := h.first.dvd h0 h1
  unfold B at *
  rw [formG_abs]
  omega
/-- the form, times its divisor, is the row -/
theorem form_mul {m : M4} (h : firstM m ≠ 0) : m.a = formG m * (formM m).a ∧ m.b = formG m * (formM m).b ∧ m.c = formG m * (formM m).c ∧ m.d = formG m * (formM m).d := by
  obtain ⟨h1, h2, h3, h4⟩ := formG_dvd m
  have h0 := formG_ne h
  have e : ∀ x, formG m ∣ x → x = formG m * x.fdiv (formG m) := fun x ⟨k, hk⟩ => by
    rw [Int.fdiv_eq_of_eq_mul_left h0 (show x = k * formG m by rw [Int.mul_comm]; exact hk)]; exact hk
  exact ⟨e _ h1, e _ h2, e _ h3, e _ h4⟩
theorem fdiv_le {x g : Int} (h0 : g ≠ 0) (h : g ∣ x) : (x.fdiv g).natAbs ≤ x.natAbs := by
  obtain ⟨k, hk⟩ := h
  rw [Int.fdiv_eq_of_eq_mul_left h0 (show x = k * g by rw [Int.mul_comm]; exact hk), hk, Int.natAbs_mul]
  exact Nat.le_mul_of_pos_left _ (Int.natAbs_pos.mpr h0)
theorem MB.form {k : Nat} {m : M4} (h : MB k m) (h0 : firstM m ≠ 0) : MB k (formM m) := by
  obtain ⟨h1, h2, h3, h4⟩ := formG_dvd m
  have g0 := formG_ne h0
  exact ⟨h.a.le (fdiv_le g0 h1), h.b.le (fdiv_le g0 h2), h.c.le (fdiv_le g0 h3), h.d.le (fdiv_le g0 h4)⟩
theorem size_form {m : M4} (h : firstM m ≠ 0) : sizeM m = formG m * formG m * sizeM (formM m) := by
  obtain ⟨h1, h2, h3, h4⟩ := form_mul h
  unfold sizeM
  rw [h1, h2, h3, h4]
  generalize formM m = n
  generalize formG m = g
  grind
theorem size_form_ne {m : M4} (h : sizeM m ≠ 0) : sizeM (formM m) ≠ 0 := fun z => h (by rw [size_form (first_ne h), z, Int.mul_zero])
theorem size_after_ne {m n : M4} (h : sizeM m ≠ 0) (g : sizeM n ≠ 0) : sizeM (afterM m n) ≠ 0 := size_form_ne (by rw [size_mul]; exact Int.mul_ne_zero h g)
theorem size_back_ne {m : M4} (h : sizeM m ≠ 0) : sizeM (backM m) ≠ 0 := size_form_ne (by rw [size_adj]; exact h)
theorem MB.after {j k : Nat} {m n : M4} (h : MB j m) (g : MB k n) (hm : sizeM m ≠ 0) (hn : sizeM n ≠ 0) : MB (j + k + 1) (afterM m n) :=
  (h.mul g).form (first_ne (by rw [size_mul]; exact Int.mul_ne_zero hm hn))
theorem MB.back {k : Nat} {m : M4} (h : MB k m) (hm : sizeM m ≠ 0) : MB k (backM m) := h.adj.form (first_ne (by rw [size_adj]; exact hm))
theorem B.pos {k : Nat} {z : Int} (h : B k z) (h0 : z ≠ 0) : 0 < k := by
  rcases Nat.eq_zero_or_pos k with e | e
  · subst e
    have : z.natAbs < 2 ^ 0 := h
    omega
  · exact e
end Bm
namespace Bm
/-! ### bounds of balls and of what is led -/
def PBd (p k : Nat) (n : Int) : Prop := B k ((p : Int) ^ n.natAbs)
theorem natAbs_ppow (p k : Nat) : ((p : Int) ^ k).natAbs = p ^ k := by rw [Int.natAbs_pow]; rfl
theorem PBd.of_le {p k : Nat} (h : IsP p) {m n : Int} (g : PBd p k n) (l : m.natAbs ≤ n.natAbs) : PBd p k m := by
  refine B.le g ?_
  rw [natAbs_ppow, natAbs_ppow]
  exact Nat.pow_le_pow_right (by have := h.two; omega) l
theorem PBd.mono {p j k : Nat} {n : Int} (h : PBd p j n) (l : j ≤ k) : PBd p k n := B.mono h l
theorem PBd.zero {p k : Nat} (h : 0 < k) : PBd p k 0 := by
  show (((p : Int) ^ 0).natAbs) < 2 ^ k
  rw [Int.pow_zero]
  exact Nat.one_lt_two_pow (by omega)
theorem PBd.lt {p k : Nat} (h : IsP p) {n : Int} (g : PBd p k n) : n.natAbs < k := by
  have h1 : p ^ n.natAbs < 2 ^ k := by rw [← natAbs_ppow]; exact g
  have h2 : 2 ^ n.natAbs ≤ p ^ n.natAbs := Nat.pow_le_pow_left h.two _
  rcases Nat.lt_or_ge n.natAbs k with z | z
  · exact z
  · have : 2 ^ k ≤ 2 ^ n.natAbs := Nat.pow_le_pow_right (by omega) z
    omega
theorem PBd.low {p k : Nat} (h : IsP p) {x : Rat} (hx : B k (x.den : Int)) : PBd p k (vN p x.den : Int) := by
  refine hx.le ?_
  rw [natAbs_ppow]
  show p ^ vN p x.den ≤ x.den
  exact pow_vN_le h x.den_nz
theorem vI_B {p k : Nat} (h : IsP p) {z : Int} (hz : B k z) (h0 : z ≠ 0) : PBd p k (vI p z : Int) := by
  refine hz.le ?_
  rw [natAbs_ppow]
  exact pow_vN_le h (Int.natAbs_pos.mpr h0 |> Nat.pos_iff_ne_zero.mp)
theorem vQ_B {p k : Nat} (h : IsP p) {x : Rat} (hx : HR k x) (h0 : x ≠ 0) : PBd p k (vQ p x) := by
  have h1 := vI_B h hx.1 (fun z => h0 (Rat.num_eq_zero.mp z))
  have h2 := PBd.low h hx.2
  unfold vQ
  by_cases hc : (vN p x.den : Int) ≤ vI p x.num
  · exact h1.of_le h (by omega)
  · exact h2.of_le h (by omega)
theorem PBd.sum {p j k : Nat} (h : IsP p) {m n : Int} (hm : PBd p j m) (hn : PBd p k n) : B (j + k) ((p : Int) ^ (m + n).toNat) := by
  refine (B.mul hm hn).le ?_
  rw [← Int.pow_add, natAbs_ppow, natAbs_ppow]
  exact Nat.pow_le_pow_right (by have := h.two; omega) (by omega)
theorem PBd.HR {p k : Nat} (h : IsP p) {n : Int} (hn : PBd p k n) (h0 : 0 < k) : HR k ((p : Rat) ^ n) := HR_pow h h0 hn
structure BB (p k l : Nat) (β : Bq) : Prop where
  n : PBd p k β.n
  den : B l (β.q.den : Int)
  num : B (k + l) β.q.num
theorem BB.hr {p k l : Nat} {β : Bq} (h : BB p k l β) : HR (k + l) β.q := ⟨h.num, h.den.mono (by omega)⟩
theorem BB.start {p : Nat} : BB p 1 1 start0 := ⟨PBd.zero (by decide), by show (1 : Nat) < 2 ^ 1; decide, by show (0 : Nat) < 2 ^ 2; decide⟩
theorem B.pos1 {k : Nat} {x : Rat} (h : B k (x.den : Int)) : 0 < k := by
  refine h.pos ?_
  have := x.den_nz
  omega
/-- what a ball's making asks -/
structure BallOk (p : Nat) (n : Int) (x : Rat) : Prop where
  pr : IsP p
  n40 : -(2 ^ 40) < n ∧ n < 2 ^ 40
  hx : HR 4400 x
  hw : n + (vN p x.den : Int) ≤ 0 ∨ B 8500 ((p : Int) ^ (n + (vN p x.den : Int)).toNat)
theorem ballOk_of {p k l : Nat} (h : IsP p) {n : Int} {x : Rat} (hn : PBd p k n) (hd : B l (x.den : Int)) (hx : HR 4400 x) (hl : k + l ≤ 8000) : BallOk p n x where
  pr := h
  n40 := by have := hn.lt h; omega
  hx := hx
  hw := .inr ((hn.sum h (PBd.low h hd)).mono (by omega))
theorem divInt_B {k l : Nat} {n d : Int} (h : d ≠ 0) (hn : B k n) (hd : B l d) : B k (Rat.divInt n d).num ∧ B l ((Rat.divInt n d).den : Int) := by
  obtain ⟨h1, h2⟩ := divInt_le n d h
  exact ⟨hn.le h1, Nat.lt_of_le_of_lt (by simpa using h2) hd⟩
theorem ball_BB {p k l : Nat} (h : IsP p) {n : Int} {x : Rat} (hn : PBd p k n) (hd : B l (x.den : Int)) : BB p k l (ballQ p n x) := by
  have l0 := hd.pos1
  unfold ballQ
  by_cases hc : n + (vN p x.den : Int) ≤ 0
  · rw [if_pos hc]
    exact ⟨hn, by show (1 : Nat) < 2 ^ l; exact Nat.one_lt_two_pow (by omega), by show (0 : Nat) < 2 ^ (k + l); exact Nat.pow_pos (by decide)⟩
  · rw [if_neg hc]
    have hs := hn.sum h (PBd.low h hd)
    have hp := ppos h (n + (vN p x.den : Int)).toNat
    have hp2 := ppos h (vN p x.den)
    have hlow := PBd.low h hd
    have hb := divInt_B (k := k + l) (l := l) (n := (x.num * invF ((x.den : Int) / (p : Int) ^ vN p x.den) ((p : Int) ^ (n + (vN p x.den : Int)).toNat)) % (p : Int) ^ (n + (vN p x.den : Int)).toNat) (d := (p : Int) ^ vN p x.den) (by omega) (hs.le (by
      have h1 := Int.emod_nonneg (x.num * invF ((x.den : Int) / (p : Int) ^ vN p x.den) ((p : Int) ^ (n + (vN p x.den : Int)).toNat)) (show (p : Int) ^ (n + (vN p x.den : Int)).toNat ≠ 0 by omega)
      have h2 := Int.emod_lt_of_pos (x.num * invF ((x.den : Int) / (p : Int) ^ vN p x.den) ((p : Int) ^ (n + (vN p x.den : Int)).toNat)) hp
      omega)) hlow
    exact ⟨hn, hb.2, hb.1⟩
theorem ball_n (p : Nat) (n : Int) (x : Rat) : (ballQ p n x).n = n := by unfold ballQ; split <;> rfl
theorem top_le (p : Nat) (β γ : Bq) : topQ p β γ ≤ β.n ∧ topQ p β γ ≤ γ.n := by unfold topQ; split <;> omega
theorem vN_le_v {p : Nat} (x : Rat) : -(vN p x.den : Int) ≤ vQ p x := by unfold vQ; omega
theorem rat_inv_ne {x : Rat} (h : x ≠ 0) : x⁻¹ ≠ 0 := fun z => h (by rw [← Rat.inv_inv x, z, Rat.inv_zero])
theorem p_posQ {p : Nat} (h : IsP p) : (0 : Rat) < (p : Rat) := by
  have := h.two
  exact_mod_cast (show 0 < p by omega)
theorem ppow_ne {p : Nat} (h : IsP p) (n : Int) : (p : Rat) ^ n ≠ 0 := fun z => by
  have := Rat.zpow_pos (n := n) (p_posQ h)
  rw [z] at this
  exact absurd this (by decide)
/-! ### columns -/
theorem left_eq {u v : Rat × Rat} (h : v.2 ≠ 0) : (u.1 - u.2 / v.2 * v.1) / v.2 = (u.1 * v.2 - u.2 * v.1) / (v.2 * v.2) := by
  have : v.2 * v.2 ≠ 0 := fun z => (Rat.mul_eq_zero.mp z).elim h h
  grind
structure ColOk (p C D : Nat) (u v : Rat × Rat) : Prop where
  u1 : HR C u.1
  u2 : HR C u.2
  v1 : HR C v.1
  v2 : HR C v.2
  dt : HR D (u.1 * v.2 - u.2 * v.1)
  ne : u.1 * v.2 - u.2 * v.1 ≠ 0
theorem HR.neg' {k : Nat} {x : Rat} (h : HR k x) : HR k (-x) := h.neg
theorem ColOk.swap {p C D : Nat} {u v : Rat × Rat} (h : ColOk p C D u v) : ColOk p C D v u where
  u1 := h.v1
  u2 := h.v2
  v1 := h.u1
  v2 := h.u2
  dt := by
    have e : v.1 * u.2 - v.2 * u.1 = -(u.1 * v.2 - u.2 * v.1) := by grind
    rw [e]; exact h.dt.neg
  ne := fun z => h.ne (by grind)
theorem col_left {p C D : Nat} (h : IsP p) {u v : Rat × Rat} (c : ColOk p C D u v) (h0 : v.2 ≠ 0) : (u.1 - u.2 / v.2 * v.1) / v.2 ≠ 0 ∧ PBd p (D + (C + C)) (vQ p ((u.1 - u.2 / v.2 * v.1) / v.2)) := by
  have hv : v.2 * v.2 ≠ 0 := fun z => (Rat.mul_eq_zero.mp z).elim h0 h0
  rw [left_eq h0]
  have hne : (u.1 * v.2 - u.2 * v.1) / (v.2 * v.2) ≠ 0 := fun z => by
    rw [Rat.div_def] at z
    rcases Rat.mul_eq_zero.mp z with z | z
    · exact c.ne z
    · exact rat_inv_ne hv z
  exact ⟨hne, vQ_B h (c.dt.div (c.v2.mul c.v2) hv) hne⟩
theorem more_ne {p C D : Nat} {u v : Rat × Rat} (c : ColOk p C D u v) : (hasMore p v.2 u.2 = true → u.2 ≠ 0) ∧ (hasMore p v.2 u.2 = false → v.2 ≠ 0) := by
  unfold hasMore
  by_cases hu : u.2 = 0
  · rw [if_pos hu]
    refine ⟨fun z => (by cases z), fun _ hv => c.ne ?_⟩
    rw [hu, hv]; grind
  · rw [if_neg hu]
    refine ⟨fun _ => hu, fun z hv => ?_⟩
    rw [hv] at z; simp at z
theorem ballC_ok {p C D : Nat} (h : IsP p) {u v : Rat × Rat} (c : ColOk p C D u v) (h0 : v.2 ≠ 0) (hl : D + 4 * C ≤ 8000) (hC : C ≤ 2000) : BallOk p (vQ p ((u.1 - u.2 / v.2 * v.1) / v.2)) (v.1 / v.2) :=
  ballOk_of h (col_left h c h0).2 (c.v1.div c.v2 h0).2 ((c.v1.div c.v2 h0).mono (by omega)) (by omega)
theorem ballC_BB {p C D : Nat} (h : IsP p) {u v : Rat × Rat} (c : ColOk p C D u v) (h0 : v.2 ≠ 0) : BB p (D + 2 * C) (2 * C) (ballC p u v) := by
  have e1 : D + 2 * C = D + (C + C) := by omega
  have e2 : 2 * C = C + C := by omega
  rw [e1, e2]
  exact ball_BB h (col_left h c h0).2 (c.v1.div c.v2 h0).2
theorem int_mul_HR {a k : Nat} {z : Int} {x : Rat} (hz : B a z) (hx : HR k x) : HR (a + k) ((z : Rat) * x) := by
  have e : (z : Rat) * x = Rat.divInt (z * x.num) x.den := by
    have := rat_mul (z : Rat) x
    have h1 : ((z : Rat)).num = z := rfl
    have h2 : ((z : Rat)).den = 1 := rfl
    rw [h1, h2] at this
    rw [← this]
    simp
  rw [e]
  exact .of (den_ne x) (hz.mul hx.1) (hx.2.mono (by omega))
theorem lin_HR {a k : Nat} {z w : Int} {x : Rat} (hz : B a z) (hw : B a w) (hx : HR k x) : HR (a + k + 1) ((z : Rat) * x + (w : Rat)) := by
  have e : (z : Rat) * x + (w : Rat) = Rat.divInt (z * x.num + w * x.den) x.den := by
    have h1 : ((w : Rat)) = Rat.divInt (w * x.den) x.den := by
      refine (Rat.num_divInt_den (w : Rat)).symm.trans ?_
      rw [Rat.divInt_eq_divInt_iff (den_ne _) (den_ne x)]
      have h1 : ((w : Rat)).num = w := rfl
      have h2 : (((w : Rat)).den : Int) = 1 := rfl
      rw [h1, h2]; grind
    have h2 : (z : Rat) * x = Rat.divInt (z * x.num) x.den := by
      have := rat_mul (z : Rat) x
      have h1 : ((z : Rat)).num = z := rfl
      have h2 : ((z : Rat)).den = 1 := rfl
      rw [h1, h2] at this
      rw [← this]
      simp
    rw [h1, h2, Rat.divInt_add_divInt _ _ (den_ne x) (den_ne x), Rat.divInt_eq_divInt_iff (Int.mul_ne_zero (den_ne x) (den_ne x)) (den_ne x)]
    grind
  rw [e]
  exact .of (den_ne x) ((hz.mul hx.1).add (hw.mul hx.2)) (hx.2.mono (by omega))
theorem col_ok {p a k l : Nat} (h : IsP p) {m : M4} {β : Bq} (hm : MB a m) (sm : sizeM m ≠ 0) (hb : BB p k l β) : ColOk p (a + (k + l) + 1) (2 * a + 1 + k) (colA p m β) (colB m β) := by
  have l0 := hb.den.pos1
  have k0 : 0 < k := by have := hb.n.lt h; omega
  have hp := hb.n.HR h k0
  have e : (colA p m β).1 * (colB m β).2 - (colA p m β).2 * (colB m β).1 = ((sizeM m : Int) : Rat) * (p : Rat) ^ β.n := by
    have e1 : ((sizeM m : Int) : Rat) = (m.a : Rat) * (m.d : Rat) - (m.b : Rat) * (m.c : Rat) := by
      unfold sizeM; rw [Rat.intCast_sub, Rat.intCast_mul, Rat.intCast_mul]
    rw [e1]
    unfold colA colB
    grind
  refine ⟨(int_mul_HR hm.a hp).mono (by omega), (int_mul_HR hm.c hp).mono (by omega), lin_HR hm.a hm.b hb.hr, lin_HR hm.c hm.d hb.hr, ?_, ?_⟩
  · rw [e]
    exact (int_mul_HR hm.size hp).mono (by omega)
  · rw [e]
    intro z
    rcases Rat.mul_eq_zero.mp z with z | z
    · exact sm (by exact_mod_cast z)
    · exact ppow_ne h _ z
theorem led_BB {p a k l : Nat} (h : IsP p) {m : M4} {β : Bq} (hm : MB a m) (sm : sizeM m ≠ 0) (hb : BB p k l β) : BB p (2 * a + 1 + k + 2 * (a + (k + l) + 1)) (2 * (a + (k + l) + 1)) (ledQ p m β) := by
  have c := col_ok h hm sm hb
  obtain ⟨n1, n2⟩ := more_ne c
  unfold ledQ
  cases hc : hasMore p (colB m β).2 (colA p m β).2 with
  | true => rw [if_pos rfl]; exact ballC_BB h c.swap (n1 hc)
  | false => rw [if_neg Bool.false_ne_true]; exact ballC_BB h c (n2 hc)
end Bm
namespace Bm
theorem top_B {p k l k' l' : Nat} (h : IsP p) {β γ : Bq} (hb : BB p k l β) (hc : BB p k' l' γ) : PBd p (k + l + (k' + l') + 1) (topQ p β γ) := by
  have l0 := hb.den.pos1
  unfold topQ
  split
  · by_cases z : β.n ≤ γ.n
    · rw [show min β.n γ.n = β.n by omega]; exact hb.n.mono (by omega)
    · rw [show min β.n γ.n = γ.n by omega]; exact hc.n.mono (by omega)
  · rename_i hd
    have hv := vQ_B h (hb.hr.sub hc.hr) hd
    by_cases z : vQ p (β.q - γ.q) ≤ min β.n γ.n
    · rw [show min (min β.n γ.n) (vQ p (β.q - γ.q)) = vQ p (β.q - γ.q) by omega]; exact hv.mono (by omega)
    · rw [show min (min β.n γ.n) (vQ p (β.q - γ.q)) = min β.n γ.n by omega]
      by_cases z : β.n ≤ γ.n
      · rw [show min β.n γ.n = β.n by omega]; exact hb.n.mono (by omega)
      · rw [show min β.n γ.n = γ.n by omega]; exact hc.n.mono (by omega)
/-- about the start: no farther than the ball itself -/
theorem top0_B {p k l : Nat} (h : IsP p) {γ : Bq} (hc : BB p k l γ) (hl : l ≤ k) : PBd p k (topQ p start0 γ) ∧ topQ p start0 γ ≤ 0 := by
  have hlow : PBd p k (vN p γ.q.den : Int) := (PBd.low h hc.den).mono hl
  have k0 : 0 < k := by have := hc.n.lt h; omega
  have e0 : (start0).n = 0 := rfl
  unfold topQ
  rw [e0]
  split
  · refine ⟨?_, by omega⟩
    by_cases z : 0 ≤ γ.n
    · rw [show min 0 γ.n = 0 by omega]; exact PBd.zero k0
    · rw [show min 0 γ.n = γ.n by omega]; exact hc.n
  · have hv : -(vN p γ.q.den : Int) ≤ vQ p (start0.q - γ.q) := by
      have e : start0.q - γ.q = -γ.q := by show (0 : Rat) - γ.q = _; grind
      rw [e]
      have := vN_le_v (p := p) (-γ.q)
      have e2 : (-γ.q).den = γ.q.den := rfl
      rw [e2] at this
      exact this
    refine ⟨?_, by omega⟩
    by_cases z : vQ p (start0.q - γ.q) ≤ min 0 γ.n
    · rw [show min (min 0 γ.n) (vQ p (start0.q - γ.q)) = vQ p (start0.q - γ.q) by omega]
      exact hlow.of_le h (by omega)
    · rw [show min (min 0 γ.n) (vQ p (start0.q - γ.q)) = min 0 γ.n by omega]
      by_cases z : 0 ≤ γ.n
      · rw [show min 0 γ.n = 0 by omega]; exact PBd.zero k0
      · rw [show min 0 γ.n = γ.n by omega]; exact hc.n
theorem stretch_B {p a : Nat} (h : IsP p) {m : M4} (hm : MB a m) (sm : sizeM m ≠ 0) : 0 ≤ stretchQ p m ∧ PBd p (a + a + 1) (stretchQ p m) := by
  have hv := vI_B h hm.size sm
  unfold stretchQ
  split
  · exact ⟨Int.le_refl _, PBd.zero (by omega)⟩
  · exact ⟨by omega, hv.of_le h (by omega)⟩
/-- the turns told to the road, from the start -/
structure RestOk (p a : Nat) (m : M4) (i : Int) : Prop where
  small : i ≤ start0.n - topQ p start0 (ledQ p m start0) → PBd p (4 * a + 8) (start0.n - i)
  big : ¬ i ≤ start0.n - topQ p start0 (ledQ p m start0) → PBd p (4 * a + 8) (topQ p start0 (ledQ p m start0) + i - (start0.n - topQ p start0 (ledQ p m start0)))
theorem led0_BB {p a : Nat} (h : IsP p) {m : M4} (hm : MB a m) (sm : sizeM m ≠ 0) : BB p (4 * a + 8) (2 * a + 6) (ledQ p m start0) := by
  have := led_BB h hm sm (BB.start (p := p))
  have e1 : 2 * a + 1 + 1 + 2 * (a + (1 + 1) + 1) = 4 * a + 8 := by omega
  have e2 : 2 * (a + (1 + 1) + 1) = 2 * a + 6 := by omega
  rw [e1, e2] at this
  exact this
theorem restOk {p a : Nat} (h : IsP p) {m : M4} (hm : MB a m) (sm : sizeM m ≠ 0) : RestOk p a m ((stepsQ p start0 (ledQ p m start0) - stretchQ p m) / 2) := by
  have hc := led0_BB h hm sm
  obtain ⟨t1, t2⟩ := top0_B h hc (by omega)
  obtain ⟨t3, t4⟩ := top_le p start0 (ledQ p m start0)
  obtain ⟨s1, s2⟩ := stretch_B h hm sm
  have e0 : (start0).n = 0 := rfl
  unfold stepsQ
  constructor
  · intro hi
    by_cases z : 0 ≤ (start0.n + (ledQ p m start0).n - 2 * topQ p start0 (ledQ p m start0) - stretchQ p m) / 2
    · exact t1.of_le h (by omega)
    · exact (s2.mono (show a + a + 1 ≤ 4 * a + 8 by omega)).of_le h (by omega)
  · intro hi
    by_cases z : 0 ≤ topQ p start0 (ledQ p m start0) + (start0.n + (ledQ p m start0).n - 2 * topQ p start0 (ledQ p m start0) - stretchQ p m) / 2 - (start0.n - topQ p start0 (ledQ p m start0))
    · exact hc.n.of_le h (by omega)
    · exact t1.of_le h (by omega)
theorem rest_BB {p a : Nat} (h : IsP p) {m : M4} (hm : MB a m) (sm : sizeM m ≠ 0) : BB p (4 * a + 8) (2 * a + 6) (restQ p m start0) := by
  have r := restOk h hm sm
  unfold restQ onRoadQ
  split
  · rename_i hi
    exact ball_BB h (r.small hi) (show B (2 * a + 6) 1 from (show (1 : Nat) < 2 ^ (2 * a + 6) from Nat.one_lt_two_pow (by omega)))
  · rename_i hi
    exact ball_BB h (r.big hi) (led0_BB h hm sm).den
end Bm
namespace Bm
/-! ### roads of the law, from the start -/
theorem road_n (p : Nat) (γ : Bq) (i : Nat) : (roadAt p start0 γ i).n.natAbs ≤ i := by
  induction i with
  | zero => show (0 : Int).natAbs ≤ 0; decide
  | succ i ih =>
    rw [roadAt]
    split
    · rw [ball_n]; omega
    · rw [ball_n]; omega
theorem road_den {p k l : Nat} (h : IsP p) {γ : Bq} (hc : BB p k l γ) (i : Nat) : B l ((roadAt p start0 γ i).q.den : Int) := by
  have l0 := hc.den.pos1
  induction i with
  | zero => show (1 : Nat) < 2 ^ l; exact Nat.one_lt_two_pow (by omega)
  | succ i ih =>
    have pb : ∀ n : Int, PBd p (7 * n.natAbs + 1) n := fun n => by
      show ((p : Int) ^ n.natAbs).natAbs < 2 ^ (7 * n.natAbs + 1)
      rw [natAbs_ppow]
      have h1 : p ^ n.natAbs ≤ (2 ^ 7) ^ n.natAbs := Nat.pow_le_pow_left (by have := h.small; omega) _
      rw [← Nat.pow_mul] at h1
      have h2 : 2 ^ (7 * n.natAbs) < 2 ^ (7 * n.natAbs + 1) := Nat.pow_lt_pow_right (by decide) (by omega)
      omega
    rw [roadAt]
    split
    · exact (ball_BB h (pb _) hc.den).den
    · exact (ball_BB h (pb _) ih).den
theorem steps_B {p k l : Nat} (h : IsP p) {γ : Bq} (hc : BB p k l γ) (hl : l ≤ k) : 0 ≤ stepsQ p start0 γ ∧ B (3 * k) ((p : Int) ^ (stepsQ p start0 γ).toNat) ∧ (stepsQ p start0 γ).toNat < 3 * k := by
  obtain ⟨t1, t2⟩ := top0_B h hc hl
  obtain ⟨t3, t4⟩ := top_le p start0 γ
  have e0 : start0.n = 0 := rfl
  have s0 : 0 ≤ stepsQ p start0 γ := by unfold stepsQ; omega
  have b3 : B (3 * k) ((p : Int) ^ (stepsQ p start0 γ).toNat) := by
    have m1 := B.mul (B.mul hc.n t1) t1
    rw [← Int.pow_add, ← Int.pow_add] at m1
    refine (m1.le ?_).mono (by omega)
    rw [natAbs_ppow, natAbs_ppow]
    refine Nat.pow_le_pow_right (by have := h.two; omega) ?_
    unfold stepsQ
    omega
  refine ⟨s0, b3, ?_⟩
  have : PBd p (3 * k) (stepsQ p start0 γ) := by
    have e : (stepsQ p start0 γ).natAbs = (stepsQ p start0 γ).toNat := by omega
    show B (3 * k) ((p : Int) ^ (stepsQ p start0 γ).natAbs)
    rw [e]; exact b3
  have := this.lt h
  omega
theorem road_BB {p k l : Nat} (h : IsP p) {γ : Bq} (hc : BB p k l γ) (hl : l ≤ k) {i : Nat} (hi : i ≤ (stepsQ p start0 γ).toNat + 1) : BB p (3 * k + 7) l (roadAt p start0 γ i) := by
  obtain ⟨s0, b3, _⟩ := steps_B h hc hl
  have l0 := hc.den.pos1
  have hn := road_n p γ i
  have pn : PBd p (3 * k + 7) (roadAt p start0 γ i).n := by
    have b4 : B (3 * k + 7) ((p : Int) ^ (stepsQ p start0 γ).toNat * p) := b3.mul (show B 7 (p : Int) from (by have := h.small; unfold B; omega))
    refine b4.le ?_
    rw [← Int.pow_succ, natAbs_ppow, natAbs_ppow]
    exact Nat.pow_le_pow_right (by have := h.two; omega) (by omega)
  have hd := road_den h hc i
  refine ⟨pn, hd, ?_⟩
  cases i with
  | zero => show (0 : Nat) < 2 ^ (3 * k + 7 + l); exact Nat.pow_pos (by decide)
  | succ i =>
    rw [roadAt] at pn ⊢
    split
    · rename_i hcnd
      rw [if_pos hcnd, ball_n] at pn
      exact (ball_BB h pn hc.den).num
    · rename_i hcnd
      rw [if_neg hcnd, ball_n] at pn
      exact (ball_BB h pn (road_den h hc i)).num
theorem start_BB {p k l : Nat} (hk : 0 < k) (hl : 0 < l) : BB p k l start0 := ⟨PBd.zero hk, by show (1 : Nat) < 2 ^ l; exact Nat.one_lt_two_pow (by omega), by show (0 : Nat) < 2 ^ (k + l); exact Nat.pow_pos (by decide)⟩
/-- the gate of a move, and the farthest of them -/
theorem gate_BB {p a : Nat} (h : IsP p) {m : M4} (hm : MB a m) (sm : sizeM m ≠ 0) : BB p (12 * a + 31) (2 * a + 6) (gateL p m) := by
  have hc := led0_BB h hm sm
  unfold gateL
  have := road_BB h hc (show 2 * a + 6 ≤ 4 * a + 8 by omega) (i := ((stepsQ p start0 (ledQ p m start0)).toNat + 1) / 2) (by omega)
  rw [show 3 * (4 * a + 8) + 7 = 12 * a + 31 by omega] at this
  exact this
theorem far_BB {p a : Nat} (h : IsP p) {ms : List M4} (hm : ∀ m ∈ ms, MB a m ∧ sizeM m ≠ 0) : ∀ {f : Bq}, BB p (12 * a + 31) (2 * a + 6) f → BB p (12 * a + 31) (2 * a + 6) (ms.foldl (farL p) f) := by
  induction ms with
  | nil => intro f hf; exact hf
  | cons m ms ih =>
    intro f hf
    refine ih (fun x hx => hm x (List.mem_cons_of_mem _ hx)) ?_
    unfold farL
    split
    · obtain ⟨h1, h2⟩ := hm m (List.mem_cons_self ..)
      exact gate_BB h h1 h2
    · exact hf
end Bm
namespace Bm
/-! ### the law's grid -/
structure SpotOk (p : Nat) (s : Bq) : Prop where
  pr : IsP p
  bb : BB p 60 60 s
  den : (s.q.den : Int) = (p : Int) ^ vN p s.q.den
theorem pow_max {p : Nat} (h : IsP p) (a b : Nat) : max ((p : Int) ^ a) ((p : Int) ^ b) = (p : Int) ^ max a b := by
  have mono : ∀ {a b : Nat}, a ≤ b → (p : Int) ^ a ≤ (p : Int) ^ b := fun {a b} l => by
    rw [← Int.natCast_pow, ← Int.natCast_pow]
    exact Int.ofNat_le.mpr (Nat.pow_le_pow_right (by have := h.two; omega) l)
  rcases Nat.le_total a b with l | l
  · have := mono l
    rw [Nat.max_eq_right l]; omega
  · have := mono l
    rw [Nat.max_eq_left l]; omega
def lowE (p : Nat) (s : Bq) : Nat := max (vN p s.q.den) (max 0 (0 - s.n)).toNat
theorem least_pow {p : Nat} {s : Bq} (h : SpotOk p s) : leastL p s = (p : Int) ^ lowE p s := by
  unfold leastL lowE
  rw [h.den, pow_max h.pr]
theorem lowE_n (p : Nat) (s : Bq) : 0 ≤ s.n + (lowE p s : Int) := by unfold lowE; omega
theorem high_pow {p : Nat} {s : Bq} (h : SpotOk p s) : highL p s = (p : Int) ^ (s.n + (lowE p s : Int)).toNat := by
  unfold highL
  rw [least_pow h]
  have e : (p : Rat) ^ s.n * (((p : Int) ^ lowE p s : Int) : Rat) = (p : Rat) ^ (s.n + (lowE p s : Int)) := by
    rw [Rat.zpow_add (p_ne h.pr), Rat.zpow_natCast, Rat.intCast_pow]; rfl
  rw [e]
  exact (powQ_pos (lowE_n p s)).1
theorem least_B {p : Nat} {s : Bq} (h : SpotOk p s) : B 60 (leastL p s) := by
  rw [least_pow h]
  unfold lowE
  rcases Nat.le_total (vN p s.q.den) (max 0 (0 - s.n)).toNat with l | l
  · rw [Nat.max_eq_right l]
    refine h.bb.n.le ?_
    rw [natAbs_ppow, natAbs_ppow]
    exact Nat.pow_le_pow_right (by have := h.pr.two; omega) (by omega)
  · rw [Nat.max_eq_left l, ← h.den]
    exact h.bb.den
theorem high_B {p : Nat} {s : Bq} (h : SpotOk p s) : B 120 (highL p s) := by
  rw [high_pow h]
  have h1 : PBd p 60 (lowE p s : Int) := by have := least_B h; rw [least_pow h] at this; exact this
  exact h.bb.n.sum h.pr h1
theorem ppow_pos {p : Nat} (h : IsP p) (k : Nat) : 0 < (p : Int) ^ k := ppos h k
theorem prime_pow_dvd {p q : Nat} (hp : IsP p) (hq : IsP q) {k : Nat} (h : (p : Int) ∣ (q : Int) ^ k) : p = q := by
  induction k with
  | zero =>
    rw [Int.pow_zero] at h
    have := Int.le_of_dvd (by decide) h
    have := hp.two
    omega
  | succ k ih =>
    rw [Int.pow_succ] at h
    rcases hp.mulI h with z | z
    · exact ih z
    · have h1 : p ∣ q := by exact_mod_cast z
      rcases hq.pr p h1 with e | e
      · have := hp.two; omega
      · exact e
theorem gcd_of_not_dvd {p : Nat} (h : IsP p) {a : Int} (ha : ¬ (p : Int) ∣ a) (k : Nat) : Int.gcd a ((p : Int) ^ k) = 1 := by
  rw [Int.gcd_eq_natAbs_gcd_natAbs, natAbs_ppow]
  exact cop_pow h (fun z => ha (Int.ofNat_dvd_left.mpr z)) k
structure GridOk (ps : List (Nat × Bq)) : Prop where
  ok : ∀ x ∈ ps, SpotOk x.1 x.2
  nd : (ps.map (·.1)).Nodup
  len : ps.length ≤ 25
noncomputable def belowP (ps : List (Nat × Bq)) (i : Nat) : Int := belowL (ps.take i)
noncomputable def gridP (ps : List (Nat × Bq)) (i : Nat) : Int × Int := (ps.take i).foldl (gridStep (belowL ps)) (0, 1)
theorem belowP_succ {ps : List (Nat × Bq)} {i : Nat} (h : i < ps.length) : belowP ps (i + 1) = belowP ps i * leastL (ps[i]).1 (ps[i]).2 := by
  unfold belowP belowL
  rw [List.take_succ_eq_append_getElem h, List.foldl_append]; rfl
theorem gridP_succ {ps : List (Nat × Bq)} {i : Nat} (h : i < ps.length) : gridP ps (i + 1) = gridStep (belowL ps) (gridP ps i) ps[i] := by
  unfold gridP
  rw [List.take_succ_eq_append_getElem h, List.foldl_append]; rfl
theorem belowP_ok {ps : List (Nat × Bq)} (g : GridOk ps) : ∀ {i : Nat}, i ≤ ps.length → B (60 * i + 1) (belowP ps i) ∧ 0 < belowP ps i
  | 0, _ => by
    unfold belowP
    rw [List.take_zero]
    exact ⟨by show (1 : Nat) < 2 ^ 1; decide, by show (0 : Int) < 1; decide⟩
  | i + 1, hi => by
    obtain ⟨h1, h2⟩ := belowP_ok g (i := i) (by omega)
    have hs := g.ok _ (List.getElem_mem (show i < ps.length by omega))
    rw [belowP_succ (by omega)]
    refine ⟨(h1.mul (least_B hs)).mono (by omega), Int.mul_pos h2 ?_⟩
    rw [least_pow hs]; exact ppow_pos hs.pr _
structure GridI (ps : List (Nat × Bq)) (i : Nat) : Prop where
  f0 : 0 ≤ (gridP ps i).1
  f1 : (gridP ps i).1 < (gridP ps i).2
  b : B (120 * i + 1) (gridP ps i).2
  nd : ∀ j, i ≤ j → (h : j < ps.length) → ¬ ((ps[j]).1 : Int) ∣ (gridP ps i).2
theorem GridI.pos {ps : List (Nat × Bq)} {i : Nat} (h : GridI ps i) : 0 < (gridP ps i).2 := by have := h.f0; have := h.f1; omega
theorem gridI {ps : List (Nat × Bq)} (g : GridOk ps) : ∀ {i : Nat}, i ≤ ps.length → GridI ps i
  | 0, _ => by
    have e : gridP ps 0 = (0, 1) := by unfold gridP; rw [List.take_zero]; rfl
    refine ⟨by rw [e]; decide, by rw [e]; decide, by rw [e]; show (1 : Nat) < 2 ^ 1; decide, fun j _ hj z => ?_⟩
    rw [e] at z
    have hs := g.ok _ (List.getElem_mem hj)
    have := Int.le_of_dvd (by decide) z
    have := hs.pr.two
    omega
  | i + 1, hi => by
    have hI := gridI g (i := i) (by omega)
    have hil : i < ps.length := by omega
    have hs := g.ok _ (List.getElem_mem hil)
    have hh := high_pow hs
    have hb := high_B hs
    have hpos : 0 < highL (ps[i]).1 (ps[i]).2 := by rw [hh]; exact ppow_pos hs.pr _
    have p0 := hI.pos
    have e2 : (gridP ps (i + 1)).2 = (gridP ps i).2 * highL (ps[i]).1 (ps[i]).2 := by rw [gridP_succ hil]; rfl
    have e1 : (gridP ps (i + 1)).1 = (gridP ps i).1 + (gridP ps i).2 * ((((ps[i]).2.q.num * (belowL ps / ((ps[i]).2.q.den : Int)) - (gridP ps i).1) * invF (gridP ps i).2 (highL (ps[i]).1 (ps[i]).2)) % highL (ps[i]).1 (ps[i]).2) := by rw [gridP_succ hil]; rfl
    have r0 := Int.emod_nonneg (((ps[i]).2.q.num * (belowL ps / ((ps[i]).2.q.den : Int)) - (gridP ps i).1) * invF (gridP ps i).2 (highL (ps[i]).1 (ps[i]).2)) (show highL (ps[i]).1 (ps[i]).2 ≠ 0 by omega)
    have r1 := Int.emod_lt_of_pos (((ps[i]).2.q.num * (belowL ps / ((ps[i]).2.q.den : Int)) - (gridP ps i).1) * invF (gridP ps i).2 (highL (ps[i]).1 (ps[i]).2)) hpos
    have f0 := hI.f0
    have f1 := hI.f1
    generalize (((ps[i]).2.q.num * (belowL ps / ((ps[i]).2.q.den : Int)) - (gridP ps i).1) * invF (gridP ps i).2 (highL (ps[i]).1 (ps[i]).2)) % highL (ps[i]).1 (ps[i]).2 = r at *
    generalize hF : (gridP ps i).1 = F at *
    generalize hA : (gridP ps i).2 = A at *
    generalize hH : highL (ps[i]).1 (ps[i]).2 = Hh at *
    have m1 : A * r + A ≤ A * Hh := by
      have : A * (r + 1) ≤ A * Hh := Int.mul_le_mul_of_nonneg_left (by omega) (by omega)
      grind
    have m0 : 0 ≤ A * r := Int.mul_nonneg (by omega) r0
    refine ⟨by rw [e1]; omega, by rw [e1, e2]; omega, ?_, fun j hj hjl z => ?_⟩
    · rw [e2]
      have hb' := hI.b
      rw [hA] at hb'
      exact (hb'.mul hb).mono (by omega)
    · rw [e2] at z
      have hsj := g.ok _ (List.getElem_mem hjl)
      rcases hsj.pr.mulI z with z | z
      · have := hI.nd j (by omega) hjl
        rw [hA] at this
        exact this z
      · rw [hh] at z
        have e := prime_pow_dvd hsj.pr hs.pr z
        have := List.nodup_iff_pairwise_ne.mp g.nd
        rw [List.pairwise_iff_getElem] at this
        have q := this i j (by simpa using hil) (by simpa using hjl) (by omega)
        rw [List.getElem_map, List.getElem_map] at q
        exact q e.symm
theorem grid_cop {ps : List (Nat × Bq)} (g : GridOk ps) {i : Nat} (hi : i < ps.length) : Int.gcd (gridP ps i).2 (highL (ps[i]).1 (ps[i]).2) = 1 := by
  have hs := g.ok _ (List.getElem_mem hi)
  rw [high_pow hs]
  exact gcd_of_not_dvd hs.pr ((gridI g (Nat.le_of_lt hi)).nd i (Nat.le_refl _) hi) _
theorem gridP_all (ps : List (Nat × Bq)) : gridP ps ps.length = ps.foldl (gridStep (belowL ps)) (0, 1) := by unfold gridP; rw [List.take_length]
theorem belowP_all (ps : List (Nat × Bq)) : belowP ps ps.length = belowL ps := by unfold belowP; rw [List.take_length]
theorem B_zero (k : Nat) : B k 0 := Nat.pow_pos (by decide)
/-- the grid before its form -/
noncomputable def rawG (ps : List (Nat × Bq)) : M4 := ⟨(gridP ps ps.length).2, (gridP ps ps.length).1, 0, belowL ps⟩
theorem gridL_eq (ps : List (Nat × Bq)) : gridL ps = formM (rawG ps) := by unfold gridL rawG; rw [gridP_all]
theorem rawG_ok {ps : List (Nat × Bq)} (g : GridOk ps) : MB 3001 (rawG ps) ∧ sizeM (rawG ps) ≠ 0 := by
  have hI := gridI g (Nat.le_refl ps.length)
  obtain ⟨b1, b2⟩ := belowP_ok g (Nat.le_refl ps.length)
  rw [belowP_all] at b1 b2
  have hl := g.len
  have f0 := hI.f0
  have f1 := hI.f1
  refine ⟨⟨hI.b.mono (by omega), (hI.b.le (show (gridP ps ps.length).1.natAbs ≤ (gridP ps ps.length).2.natAbs by omega)).mono (by omega), B_zero 3001, b1.mono (by omega)⟩, ?_⟩
  show (gridP ps ps.length).2 * belowL ps - (gridP ps ps.length).1 * 0 ≠ 0
  rw [Int.mul_zero, Int.sub_zero]
  exact Int.mul_ne_zero (by have := hI.pos; omega) (by omega)
/-! ### what the law's whole comes to -/
noncomputable def spotOf (ms : List M4) (p : Nat) : Bq := (nearL p ms).getD start0
theorem wholeGo_all (ms : List M4) : ∀ (L : List Nat) (ps : List (Nat × Bq)), (∀ p ∈ L, (nearL p ms).isSome = true) → wholeGo ms L ps = .whole (gridL (ps ++ L.map fun p => (p, spotOf ms p)))
  | [], ps, _ => by rw [wholeGo, List.map_nil, List.append_nil]
  | p :: L, ps, h => by
    obtain ⟨s, hs⟩ := Option.isSome_iff_exists.mp (h p (List.mem_cons_self ..))
    have e : spotOf ms p = s := by unfold spotOf; rw [hs]; rfl
    rw [wholeGo, hs]
    show wholeGo ms L (ps ++ [(p, s)]) = _
    rw [wholeGo_all ms L _ fun q hq => h q (List.mem_cons_of_mem _ hq), List.map_cons, e, List.append_assoc]; rfl
theorem wholeGo_at (ms : List M4) : ∀ (L1 : List Nat) (p : Nat) (L2 : List Nat) (ps : List (Nat × Bq)), (∀ q ∈ L1, (nearL q ms).isSome = true) → nearL p ms = none → wholeGo ms (L1 ++ p :: L2) ps = .bars p (barL p ms)
  | [], p, L2, ps, _, h => by rw [List.nil_append, wholeGo, h]
  | q :: L1, p, L2, ps, h1, h => by
    obtain ⟨s, hs⟩ := Option.isSome_iff_exists.mp (h1 q (List.mem_cons_self ..))
    rw [List.cons_append, wholeGo, hs]
    exact wholeGo_at ms L1 p L2 _ (fun r hr => h1 r (List.mem_cons_of_mem _ hr)) h
end Bm
namespace Bm
/-! ### fractions by a prime: x is p^n times a fraction whose lower number p does not divide -/
def Dv (p : Nat) (n : Int) (x : Rat) : Prop := ∃ a b : Int, ¬ (p : Int) ∣ b ∧ x * (b : Rat) = (p : Rat) ^ n * (a : Rat)
theorem mul_den (x : Rat) : x * ((x.den : Nat) : Rat) = (x.num : Rat) := by
  rw [← rat_mul]
  have e1 : (((x.den : Nat) : Rat)).num = (x.den : Int) := rfl
  have e2 : (((x.den : Nat) : Rat)).den = 1 := rfl
  rw [e1, e2]
  refine Eq.trans ?_ (Rat.num_divInt_den (x.num : Rat))
  have e3 : ((x.num : Rat)).num = x.num := rfl
  have e4 : ((x.num : Rat)).den = 1 := rfl
  rw [e3, e4, Rat.divInt_eq_divInt_iff (Int.mul_ne_zero (den_ne x) (by decide)) (by decide)]
  grind
section
variable {p : Nat}
theorem nd_ne {b : Int} (h : ¬ (p : Int) ∣ b) : (b : Rat) ≠ 0 := fun z => h (by
  have : b = 0 := Rat.intCast_eq_zero_iff.mp z
  rw [this]; exact Int.dvd_zero _)
theorem nd_one (hp : IsP p) : ¬ (p : Int) ∣ 1 := fun z => by
  have := Int.le_of_dvd (by decide) z
  have := hp.two
  omega
theorem nd_mul (hp : IsP p) {b c : Int} (h : ¬ (p : Int) ∣ b) (g : ¬ (p : Int) ∣ c) : ¬ (p : Int) ∣ b * c := fun z => (hp.mulI z).elim h g
theorem Dv.zero (hp : IsP p) (n : Int) : Dv p n 0 := ⟨0, 1, nd_one hp, by rw [Rat.zero_mul, Rat.intCast_zero, Rat.mul_zero]⟩
theorem Dv.int (hp : IsP p) (z : Int) : Dv p 0 (z : Rat) := ⟨z, 1, nd_one hp, by rw [Rat.zpow_zero, Rat.intCast_one]; grind⟩
theorem Dv.pow (hp : IsP p) (n : Int) : Dv p n ((p : Rat) ^ n) := ⟨1, 1, nd_one hp, rfl⟩
theorem Dv.add (hp : IsP p) {n : Int} {x y : Rat} (h : Dv p n x) (g : Dv p n y) : Dv p n (x + y) := by
  obtain ⟨a, b, h1, h2⟩ := h
  obtain ⟨c, d, g1, g2⟩ := g
  refine ⟨a * d + c * b, b * d, nd_mul hp h1 g1, ?_⟩
  rw [Rat.intCast_mul, Rat.intCast_add, Rat.intCast_mul, Rat.intCast_mul]
  grind
theorem Dv.neg {n : Int} {x : Rat} (h : Dv p n x) : Dv p n (-x) := by
  obtain ⟨a, b, h1, h2⟩ := h
  exact ⟨-a, b, h1, by rw [Rat.intCast_neg]; grind⟩
theorem Dv.sub (hp : IsP p) {n : Int} {x y : Rat} (h : Dv p n x) (g : Dv p n y) : Dv p n (x - y) := by
  rw [Rat.sub_eq_add_neg]; exact h.add hp g.neg
theorem Dv.mul (hp : IsP p) {m n : Int} {x y : Rat} (h : Dv p m x) (g : Dv p n y) : Dv p (m + n) (x * y) := by
  obtain ⟨a, b, h1, h2⟩ := h
  obtain ⟨c, d, g1, g2⟩ := g
  refine ⟨a * c, b * d, nd_mul hp h1 g1, ?_⟩
  rw [Rat.intCast_mul, Rat.intCast_mul, Rat.zpow_add (p_ne hp)]
  grind
theorem pow_split (hp : IsP p) {m n : Int} (l : m ≤ n) : (p : Rat) ^ n = (p : Rat) ^ m * (((p : Int) ^ (n - m).toNat : Int) : Rat) := by
  have e : n = m + ((n - m).toNat : Int) := by omega
  conv => lhs; rw [e]
  rw [Rat.zpow_add (p_ne hp), Rat.zpow_natCast, Rat.intCast_pow]; rfl
theorem Dv.mono (hp : IsP p) {m n : Int} {x : Rat} (h : Dv p n x) (l : m ≤ n) : Dv p m x := by
  obtain ⟨a, b, h1, h2⟩ := h
  refine ⟨(p : Int) ^ (n - m).toNat * a, b, h1, ?_⟩
  rw [Rat.intCast_mul, h2, pow_split hp l]
  grind
theorem Dv.cast {m n : Int} {x : Rat} (h : Dv p n x) (e : m = n) : Dv p m x := e ▸ h
theorem Dv.eq {n : Int} {x y : Rat} (h : Dv p n x) (e : y = x) : Dv p n y := e ▸ h
/-- the valuation told as a form -/
theorem v_form (hp : IsP p) {x : Rat} (hx : x ≠ 0) : ∃ a b : Int, ¬ (p : Int) ∣ a ∧ ¬ (p : Int) ∣ b ∧ x * (b : Rat) = (p : Rat) ^ (vQ p x) * (a : Rat) := by
  have hn : x.num ≠ 0 := fun z => hx (Rat.num_eq_zero.mp z)
  obtain ⟨u, e1, h1, h2⟩ := vN_split hp.two x.num.natAbs (Int.natAbs_pos.mpr hn |> Nat.pos_iff_ne_zero.mp)
  obtain ⟨w, e3, h3, h4⟩ := vN_split hp.two x.den x.den_nz
  refine ⟨x.num.sign * u, w, fun z => ?_, fun z => h3 (Int.ofNat_dvd.mp z), ?_⟩
  · have : (p : Int) ∣ ((u : Nat) : Int) := by
      rw [← Int.dvd_natAbs, Int.natAbs_mul] at z
      have e : x.num.sign.natAbs = 1 := by
        rcases Int.lt_trichotomy x.num 0 with q | q | q
        · rw [Int.sign_eq_neg_one_of_neg q]; rfl
        · exact absurd q hn
        · rw [Int.sign_eq_one_of_pos q]; rfl
      rw [e, Nat.one_mul] at z
      exact z
    exact h1 (Int.ofNat_dvd.mp this)
  · have en : x.num = (p : Int) ^ vI p x.num * (x.num.sign * (u : Int)) := by
      have q : x.num = x.num.sign * (x.num.natAbs : Int) := (Int.sign_mul_natAbs x.num).symm
      conv => lhs; rw [q, e1]
      rw [Int.natCast_mul, Int.natCast_pow]
      show _ = (p : Int) ^ vN p x.num.natAbs * _
      grind
    have ed : ((x.den : Nat) : Rat) = (p : Rat) ^ vN p x.den * (w : Rat) := by
      conv => lhs; rw [e3]
      rw [Rat.natCast_mul, Rat.natCast_pow]
    have ex : x * ((x.den : Nat) : Rat) = (x.num : Rat) := mul_den x
    have pe : (p : Rat) ^ (vI p x.num : Int) = (p : Rat) ^ vQ p x * (p : Rat) ^ (vN p x.den : Int) := by
      rw [← Rat.zpow_add (p_ne hp)]
      congr 1
      unfold vQ; omega
    rw [ed, en, Rat.intCast_mul, Rat.intCast_pow] at ex
    rw [Rat.zpow_natCast, Rat.zpow_natCast] at pe
    have p0 : (p : Rat) ^ vN p x.den ≠ 0 := by
      have := ppow_ne hp (vN p x.den : Int)
      rwa [Rat.zpow_natCast] at this
    have e5 : (((p : Int) : Rat)) ^ vI p x.num = (p : Rat) ^ vI p x.num := rfl
    rw [e5, pe] at ex
    have e6 : (((w : Nat) : Int) : Rat) = (w : Rat) := rfl
    rw [e6]
    grind
theorem nd_dvd_cancel (hp : IsP p) {a b a' b' : Int} {x : Rat} {n m : Int} (hx : x ≠ 0) (ha : ¬ (p : Int) ∣ a) (hb : ¬ (p : Int) ∣ b) (hb' : ¬ (p : Int) ∣ b') (h : x * (b : Rat) = (p : Rat) ^ m * (a : Rat)) (h' : x * (b' : Rat) = (p : Rat) ^ n * (a' : Rat)) : n ≤ m := by
  rcases Int.lt_or_le m n with l | l
  · exfalso
    have e : (a : Rat) * (b' : Rat) = (((p : Int) ^ (n - m).toNat : Int) : Rat) * (a' : Rat) * (b : Rat) := by
      rw [pow_split hp (Int.le_of_lt l)] at h'
      have p0 := ppow_ne hp m
      have c1 : (p : Rat) ^ m * ((a : Rat) * (b' : Rat)) = (p : Rat) ^ m * ((((p : Int) ^ (n - m).toNat : Int) : Rat) * (a' : Rat) * (b : Rat)) := by grind
      grind
    have e2 : a * b' = (p : Int) ^ (n - m).toNat * a' * b := by
      have : ((a * b' : Int) : Rat) = (((p : Int) ^ (n - m).toNat * a' * b : Int) : Rat) := by
        rw [Rat.intCast_mul, Rat.intCast_mul, Rat.intCast_mul]; exact e
      exact Rat.intCast_inj.mp this
    have d : (p : Int) ∣ a * b' := by
      rw [e2, Int.mul_assoc]
      have : (n - m).toNat = (n - m).toNat - 1 + 1 := by omega
      rw [this, Int.pow_succ]
      exact Int.dvd_trans (Int.dvd_mul_left _ _) (Int.dvd_mul_right _ _)
    exact nd_mul hp ha hb' d
  · exact l
theorem Dv.le (hp : IsP p) {n : Int} {x : Rat} (h : Dv p n x) (hx : x ≠ 0) : n ≤ vQ p x := by
  obtain ⟨a, b, h1, h2⟩ := h
  obtain ⟨c, d, g1, g2, g3⟩ := v_form hp hx
  exact nd_dvd_cancel hp hx g1 g2 h1 g3 h2
theorem Dv.of_v (hp : IsP p) {x : Rat} (hx : x ≠ 0) : Dv p (vQ p x) x := by
  obtain ⟨a, b, _, h2, h3⟩ := v_form hp hx
  exact ⟨a, b, h2, h3⟩
theorem Dv.of_le (hp : IsP p) {n : Int} {x : Rat} (h : x = 0 ∨ n ≤ vQ p x) : Dv p n x := by
  rcases h with rfl | h
  · exact Dv.zero hp n
  · by_cases hx : x = 0
    · rw [hx]; exact Dv.zero hp n
    · exact (Dv.of_v hp hx).mono hp h
theorem v_eq (hp : IsP p) {x : Rat} {n : Int} {a b : Int} (ha : ¬ (p : Int) ∣ a) (hb : ¬ (p : Int) ∣ b) (h : x * (b : Rat) = (p : Rat) ^ n * (a : Rat)) : x ≠ 0 ∧ vQ p x = n := by
  have hx : x ≠ 0 := by
    intro z
    rw [z, Rat.zero_mul] at h
    rcases Rat.mul_eq_zero.mp h.symm with q | q
    · exact ppow_ne hp _ q
    · exact nd_ne ha q
  obtain ⟨c, d, g1, g2, g3⟩ := v_form hp hx
  have l1 := nd_dvd_cancel hp hx ha hb g2 h g3
  have l2 := nd_dvd_cancel hp hx g1 g2 hb g3 h
  exact ⟨hx, by omega⟩
theorem v_mul (hp : IsP p) {x y : Rat} (hx : x ≠ 0) (hy : y ≠ 0) : vQ p (x * y) = vQ p x + vQ p y := by
  obtain ⟨a, b, h1, h2, h3⟩ := v_form hp hx
  obtain ⟨c, d, g1, g2, g3⟩ := v_form hp hy
  refine (v_eq hp (nd_mul hp h1 g1) (nd_mul hp h2 g2) ?_).2
  rw [Rat.intCast_mul, Rat.intCast_mul, Rat.zpow_add (p_ne hp)]
  grind
theorem v_pow (hp : IsP p) (n : Int) : vQ p ((p : Rat) ^ n) = n := (v_eq hp (nd_one hp) (nd_one hp) rfl).2
theorem v_inv (hp : IsP p) {x : Rat} (hx : x ≠ 0) : vQ p x⁻¹ = -vQ p x := by
  have h := v_mul hp hx (rat_inv_ne hx)
  rw [Rat.mul_inv_cancel x hx] at h
  have : vQ p 1 = 0 := by
    have := v_pow hp 0
    rwa [Rat.zpow_zero] at this
  omega
theorem v_div (hp : IsP p) {x y : Rat} (hx : x ≠ 0) (hy : y ≠ 0) : vQ p (x / y) = vQ p x - vQ p y := by
  rw [Rat.div_def, v_mul hp hx (rat_inv_ne hy), v_inv hp hy]; omega
theorem v_neg (x : Rat) : vQ p (-x) = vQ p x := by
  unfold vQ vI
  have e1 : (-x).num = -x.num := rfl
  have e2 : (-x).den = x.den := rfl
  rw [e1, e2, Int.natAbs_neg]
theorem v_int (p : Nat) (z : Int) : vQ p (z : Rat) = (vI p z : Int) := by
  unfold vQ
  have e1 : ((z : Rat)).num = z := rfl
  have e2 : ((z : Rat)).den = 1 := rfl
  rw [e1, e2, vN_one]; omega
theorem Dv.dvd (hp : IsP p) {k : Nat} {z : Int} (h : Dv p (k : Int) (z : Rat)) : (p : Int) ^ k ∣ z := by
  by_cases hz : z = 0
  · rw [hz]; exact Int.dvd_zero _
  · have hz' : (z : Rat) ≠ 0 := fun q => hz (Rat.intCast_eq_zero_iff.mp q)
    have := h.le hp hz'
    rw [v_int] at this
    have h2 : p ^ k ∣ z.natAbs := (pow_dvd_vN hp (Int.natAbs_pos.mpr hz |> Nat.pos_iff_ne_zero.mp)).mpr (by unfold vI at this; omega)
    rw [← Int.dvd_natAbs]
    exact_mod_cast h2
theorem Dv.of_dvd (hp : IsP p) {k : Nat} {z : Int} (h : (p : Int) ^ k ∣ z) : Dv p (k : Int) (z : Rat) := by
  obtain ⟨w, rfl⟩ := h
  refine ⟨w, 1, nd_one hp, ?_⟩
  rw [Rat.intCast_mul, Rat.zpow_natCast, Rat.intCast_pow]
  have : (((p : Int) : Rat)) = (p : Rat) := rfl
  rw [this, Rat.intCast_one]; grind
end
end Bm
namespace Bm
/-! ### balls: the number told is the one in its range that is near by p^n -/
def Can (p : Nat) (n : Int) (c : Rat) : Prop := ∃ (k : Nat) (z : Int), 0 ≤ n + k ∧ c * (p : Rat) ^ (k : Int) = (z : Rat) ∧ 0 ≤ z ∧ z < (p : Int) ^ (n + k).toNat
section
variable {p : Nat}
theorem Can.up {n : Int} {c : Rat} (hp : IsP p) {k : Nat} {z : Int} (h : 0 ≤ n + k ∧ c * (p : Rat) ^ (k : Int) = (z : Rat) ∧ 0 ≤ z ∧ z < (p : Int) ^ (n + k).toNat) (j : Nat) :
    0 ≤ n + ((k + j : Nat) : Int) ∧ c * (p : Rat) ^ ((k + j : Nat) : Int) = ((z * (p : Int) ^ j : Int) : Rat) ∧ 0 ≤ z * (p : Int) ^ j ∧ z * (p : Int) ^ j < (p : Int) ^ (n + ((k + j : Nat) : Int)).toNat := by
  obtain ⟨h1, h2, h3, h4⟩ := h
  have pj := ppow_pos hp j
  refine ⟨by omega, ?_, Int.mul_nonneg h3 (by omega), ?_⟩
  · rw [show ((k + j : Nat) : Int) = (k : Int) + (j : Int) by omega, Rat.zpow_add (p_ne hp), Rat.intCast_mul, ← h2, Rat.zpow_natCast (p : Rat) j, Rat.intCast_pow]
    have : (((p : Int) : Rat)) = (p : Rat) := rfl
    rw [this]; grind
  · have e : (n + ((k + j : Nat) : Int)).toNat = (n + (k : Int)).toNat + j := by omega
    rw [e, Int.pow_add]
    exact Int.mul_lt_mul_of_pos_right h4 pj
theorem can_uniq (hp : IsP p) {n : Int} {c c' : Rat} (h : Can p n c) (g : Can p n c') (d : Dv p n (c - c')) : c = c' := by
  obtain ⟨k, z, h⟩ := h
  obtain ⟨k', z', g⟩ := g
  obtain ⟨h1, h2, h3, h4⟩ := Can.up hp h k'
  obtain ⟨g1, g2, g3, g4⟩ := Can.up hp g k
  have ek : ((k' + k : Nat) : Int) = ((k + k' : Nat) : Int) := by omega
  rw [ek] at g1 g2 g4
  generalize k + k' = K at *
  generalize z * (p : Int) ^ k' = Z at *
  generalize z' * (p : Int) ^ k = Z' at *
  have dd : Dv p (((n + (K : Int)).toNat : Nat) : Int) ((Z - Z' : Int) : Rat) := by
    have := d.mul hp (Dv.pow hp (K : Int))
    refine (this.cast (by omega)).eq ?_
    rw [Rat.intCast_sub, ← h2, ← g2]; grind
  obtain ⟨t, ht⟩ := dd.dvd hp
  have hW := ppow_pos hp (n + (K : Int)).toNat
  generalize (p : Int) ^ (n + (K : Int)).toNat = W at *
  have t0 : t = 0 := by
    rcases Int.lt_trichotomy t 0 with q | q | q
    · have : W * t ≤ W * (-1) := Int.mul_le_mul_of_nonneg_left (by omega) (by omega)
      omega
    · exact q
    · have : W * 1 ≤ W * t := Int.mul_le_mul_of_nonneg_left (by omega) (by omega)
      omega
  rw [t0, Int.mul_zero] at ht
  have ez : Z = Z' := by omega
  rw [ez] at h2
  have p0 := ppow_ne hp (K : Int)
  have : c * (p : Rat) ^ (K : Int) = c' * (p : Rat) ^ (K : Int) := h2.trans g2.symm
  grind
theorem divInt_mul {z : Int} {k : Nat} (hp : IsP p) : Rat.divInt z ((p : Int) ^ k) * (p : Rat) ^ (k : Int) = (z : Rat) := by
  have e : (p : Rat) ^ (k : Int) = Rat.divInt ((p : Int) ^ k) 1 := by
    have : (p : Rat) ^ (k : Int) = (((p : Int) ^ k : Int) : Rat) := by rw [Rat.zpow_natCast, Rat.intCast_pow]; rfl
    rw [this]
    exact (Rat.num_divInt_den _).symm
  have hk := ppow_pos hp k
  rw [e, Rat.divInt_mul_divInt]
  refine Eq.trans ?_ (Rat.num_divInt_den (z : Rat))
  have e3 : ((z : Rat)).num = z := rfl
  have e4 : ((z : Rat)).den = 1 := rfl
  rw [e3, e4, Rat.divInt_eq_divInt_iff (Int.mul_ne_zero (by omega) (by decide)) (by decide)]
  grind
theorem ball_spec (hp : IsP p) (n : Int) (x : Rat) : Dv p n ((ballQ p n x).q - x) ∧ Can p n (ballQ p n x).q := by
  unfold ballQ
  by_cases hc : n + (vN p x.den : Int) ≤ 0
  · rw [if_pos hc]
    refine ⟨?_, (-n).toNat, 0, by omega, ?_, Int.le_refl _, ppow_pos hp _⟩
    · show Dv p n (0 - x)
      have : Dv p n x := Dv.of_le hp (.inr (by have := vN_le_v (p := p) x; omega))
      exact (Dv.zero hp n).sub hp this
    · show (0 : Rat) * _ = ((0 : Int) : Rat)
      rw [Rat.zero_mul, Rat.intCast_zero]
  · rw [if_neg hc]
    obtain ⟨u, hu1, hu2, hu3⟩ := den_split hp x
    have hud := den_div hp hu1
    have hW := ppow_pos hp (n + (vN p x.den : Int)).toNat
    have hcop := unit_cop hp x (n + (vN p x.den : Int)).toNat
    obtain ⟨i0, i1, i2⟩ := invF_spec hW (unit_of_cop hcop)
    rw [hud] at i2 ⊢
    rw [hud] at i0 i1
    generalize invF (u : Int) ((p : Int) ^ (n + (vN p x.den : Int)).toNat) = iv at *
    have r0 := Int.emod_nonneg (x.num * iv) (show (p : Int) ^ (n + (vN p x.den : Int)).toNat ≠ 0 by omega)
    have r1 := Int.emod_lt_of_pos (x.num * iv) hW
    have r2 : (p : Int) ^ (n + (vN p x.den : Int)).toNat ∣ x.num * iv % (p : Int) ^ (n + (vN p x.den : Int)).toNat * (u : Int) - x.num := by
      obtain ⟨t, ht⟩ := i2
      have hm := Int.emod_add_mul_ediv (x.num * iv) ((p : Int) ^ (n + (vN p x.den : Int)).toNat)
      refine ⟨x.num * t - x.num * iv / (p : Int) ^ (n + (vN p x.den : Int)).toNat * (u : Int), ?_⟩
      grind
    generalize x.num * iv % (p : Int) ^ (n + (vN p x.den : Int)).toNat = r at *
    have hmul := divInt_mul (p := p) (z := r) (k := vN p x.den) hp
    constructor
    · show Dv p n (Rat.divInt r ((p : Int) ^ vN p x.den) - x)
      generalize Rat.divInt r ((p : Int) ^ vN p x.den) = c at *
      obtain ⟨t, ht⟩ := r2
      refine ⟨t, (u : Int), fun z => hu2 (Int.ofNat_dvd.mp z), ?_⟩
      have hx := mul_den x
      have hden : ((x.den : Nat) : Rat) = (p : Rat) ^ (vN p x.den : Int) * ((u : Int) : Rat) := by
        conv => lhs; rw [hu1]
        rw [Rat.natCast_mul, Rat.natCast_pow, Rat.zpow_natCast]; rfl
      rw [hden] at hx
      have hW2 : (((p : Int) ^ (n + (vN p x.den : Int)).toNat : Int) : Rat) = (p : Rat) ^ n * (p : Rat) ^ (vN p x.den : Int) := by
        rw [← Rat.zpow_add (p_ne hp)]
        conv => rhs; rw [show n + (vN p x.den : Int) = ((n + (vN p x.den : Int)).toNat : Int) by omega]
        rw [Rat.zpow_natCast, Rat.intCast_pow]; rfl
      have hq : ((r * (u : Int) - x.num : Int) : Rat) = (((p : Int) ^ (n + (vN p x.den : Int)).toNat * t : Int) : Rat) := by rw [ht]
      rw [Rat.intCast_sub, Rat.intCast_mul, Rat.intCast_mul, hW2, ← hx, ← hmul] at hq
      have p0 := ppow_ne hp (vN p x.den : Int)
      generalize (p : Rat) ^ (vN p x.den : Int) = q at *
      grind
    · exact ⟨vN p x.den, r, by omega, hmul, r0, r1⟩
theorem ball_congr (hp : IsP p) {n : Int} {x y : Rat} (h : Dv p n (x - y)) : ballQ p n x = ballQ p n y := by
  obtain ⟨h1, h2⟩ := ball_spec hp n x
  obtain ⟨g1, g2⟩ := ball_spec hp n y
  have e : (ballQ p n x).q = (ballQ p n y).q := can_uniq hp h2 g2 (((h1.add hp h).sub hp g1).eq (by grind))
  have en : (ballQ p n x).n = (ballQ p n y).n := by rw [ball_n, ball_n]
  generalize ballQ p n x = β at *
  generalize ballQ p n y = γ at *
  obtain ⟨a, b⟩ := β
  obtain ⟨c, d⟩ := γ
  simp only at e en
  rw [e, en]
/-- a ball in its form -/
def CanB (p : Nat) (β : Bq) : Prop := Can p β.n β.q
theorem canB_ball (hp : IsP p) (n : Int) (x : Rat) : CanB p (ballQ p n x) := by
  show Can p (ballQ p n x).n _
  rw [ball_n]; exact (ball_spec hp n x).2
theorem ball_self (hp : IsP p) {β : Bq} (h : CanB p β) : ballQ p β.n β.q = β := by
  obtain ⟨h1, h2⟩ := ball_spec hp β.n β.q
  have e := can_uniq hp h2 h h1
  have en := ball_n p β.n β.q
  generalize ballQ p β.n β.q = γ at *
  obtain ⟨a, b⟩ := β
  obtain ⟨c, d⟩ := γ
  simp only at e en
  rw [e, en]
theorem canB_start (hp : IsP p) : CanB p start0 := ⟨0, 0, by decide, by show (0 : Rat) * _ = ((0 : Int) : Rat); rw [Rat.zero_mul, Rat.intCast_zero], Int.le_refl _, ppow_pos hp _⟩
theorem ball_near (hp : IsP p) (n : Int) (x : Rat) : Dv p n ((ballQ p n x).q - x) := (ball_spec hp n x).1
end
end Bm
namespace Bm
section
variable {p : Nat}
theorem Dv.div (hp : IsP p) {n k : Int} {x y : Rat} (h : Dv p n x) (hy : y ≠ 0) (hv : vQ p y ≤ k) : Dv p (n - k) (x / y) := by
  have h1 := Dv.of_v hp (rat_inv_ne hy)
  rw [v_inv hp hy] at h1
  rw [Rat.div_def]
  exact (h.mul hp h1).mono hp (by omega)
theorem Dv.scale (hp : IsP p) {n k : Int} {x : Rat} (h : Dv p (n + k) (x * (p : Rat) ^ k)) : Dv p n x := by
  have h1 := h.div hp (ppow_ne hp k) (Int.le_of_eq (v_pow hp k))
  refine (h1.cast (by omega)).eq ?_
  have := ppow_ne hp k
  rw [Rat.div_def, Rat.mul_assoc, Rat.mul_inv_cancel _ this, Rat.mul_one]
/-- the move, told in the ball's own columns, is p^e times a move that p knows to be whole -/
structure FixC (p : Nat) (m : M4) (n : Int) (q : Rat) (e : Int) : Prop where
  a11 : Dv p e ((m.a : Rat) - q * (m.c : Rat))
  a12 : Dv p (e + n) ((m.a : Rat) * q + (m.b : Rat) - q * ((m.c : Rat) * q + (m.d : Rat)))
  a21 : Dv p (e - n) (m.c : Rat)
  a22 : Dv p e ((m.c : Rat) * q + (m.d : Rat))
  sz : (vI p (sizeM m) : Int) = 2 * e
theorem FixC.congr (hp : IsP p) {m : M4} {n : Int} {q x : Rat} {e : Int} (h : FixC p m n x e) (d : Dv p n (q - x)) : FixC p m n q e := by
  have dc := d.mul hp h.a21
  refine ⟨?_, ?_, h.a21, ?_, h.sz⟩
  · exact (h.a11.sub hp (dc.cast (by omega))).eq (by grind)
  · have d1 := d.mul hp h.a11
    have d2 := d.mul hp h.a22
    have d3 := d.mul hp dc
    exact (((h.a12.add hp (d1.cast (by omega))).sub hp (d2.cast (by omega))).sub hp (d3.cast (by omega))).eq (by grind)
  · exact (h.a22.add hp (dc.cast (by omega))).eq (by grind)
theorem size_Q (m : M4) : ((sizeM m : Int) : Rat) = (m.a : Rat) * (m.d : Rat) - (m.b : Rat) * (m.c : Rat) := by
  unfold sizeM; rw [Rat.intCast_sub, Rat.intCast_mul, Rat.intCast_mul]
theorem v_or {x : Rat} {k : Int} (hp : IsP p) (h : x = 0 ∨ k ≤ vQ p x) : Dv p k x := Dv.of_le hp h
/-- two columns and what is told of them -/
theorem size_ne_Q {m : M4} (h : sizeM m ≠ 0) : ((sizeM m : Int) : Rat) ≠ 0 := fun z => h (Rat.intCast_eq_zero_iff.mp z)
theorem more_true {x y : Rat} (h : hasMore p x y = true) : y ≠ 0 ∧ (x = 0 ∨ vQ p y < vQ p x) := by
  unfold hasMore at h
  by_cases hy : y = 0
  · rw [if_pos hy] at h; cases h
  · rw [if_neg hy] at h
    refine ⟨hy, ?_⟩
    rcases Bool.or_eq_true_iff.mp h with z | z
    · exact .inl (of_decide_eq_true z)
    · exact .inr (of_decide_eq_true z)
theorem more_false {x y : Rat} (h : hasMore p x y = false) (hne : ¬ (x = 0 ∧ y = 0)) : x ≠ 0 ∧ (y = 0 ∨ vQ p x ≤ vQ p y) := by
  unfold hasMore at h
  by_cases hy : y = 0
  · exact ⟨fun z => hne ⟨z, hy⟩, .inl hy⟩
  · rw [if_neg hy] at h
    obtain ⟨h1, h2⟩ := Bool.or_eq_false_iff.mp h
    have g1 := of_decide_eq_false h1
    have g2 := of_decide_eq_false h2
    exact ⟨g1, .inr (by omega)⟩
theorem fix_led (hp : IsP p) {m : M4} {β : Bq} {e : Int} (sm : sizeM m ≠ 0) (hb : CanB p β) (h : FixC p m β.n β.q e) : ledQ p m β = β := by
  obtain ⟨n, q⟩ := β
  replace h : FixC p m n q e := h
  have hS := size_ne_Q sm
  have hpn := ppow_ne hp n
  have vS : vQ p ((sizeM m : Int) : Rat) = 2 * e := by rw [v_int]; exact h.sz
  have hSQ := size_Q m
  have a21 : Dv p e ((m.c : Rat) * (p : Rat) ^ n) := (h.a21.mul hp (Dv.pow hp n)).cast (by omega)
  -- one of the two lower numbers is told by e exactly
  have key : ¬ (Dv p (e + 1) ((m.c : Rat) * (p : Rat) ^ n) ∧ Dv p (e + 1) ((m.c : Rat) * q + (m.d : Rat))) := fun ⟨k1, k2⟩ => by
    have d1 := (h.a11.mul hp (Dv.pow hp n)).mul hp k2
    have d2 := k1.mul hp h.a12
    have d3 : Dv p (2 * e + n + 1) (((sizeM m : Int) : Rat) * (p : Rat) ^ n) := ((d1.cast (by omega)).sub hp (d2.cast (show 2 * e + n + 1 = _ by omega))).eq (by rw [hSQ]; grind)
    have := d3.le hp (fun z => (Rat.mul_eq_zero.mp z).elim hS hpn)
    rw [v_mul hp hS hpn, v_pow hp, vS] at this
    omega
  have hSn : ((sizeM m : Int) : Rat) * (p : Rat) ^ n ≠ 0 := fun z => (Rat.mul_eq_zero.mp z).elim hS hpn
  have vSn : vQ p (((sizeM m : Int) : Rat) * (p : Rat) ^ n) = 2 * e + n := by rw [v_mul hp hS hpn, v_pow hp, vS]
  unfold ledQ
  cases hc : hasMore p (colB m ⟨n, q⟩).2 (colA p m ⟨n, q⟩).2 with
  | true =>
    rw [if_pos rfl]
    obtain ⟨h0, h1⟩ := more_true hc
    have h0' : (m.c : Rat) * (p : Rat) ^ n ≠ 0 := h0
    have h1' : (m.c : Rat) * q + (m.d : Rat) = 0 ∨ vQ p ((m.c : Rat) * (p : Rat) ^ n) < vQ p ((m.c : Rat) * q + (m.d : Rat)) := h1
    have ve : vQ p ((m.c : Rat) * (p : Rat) ^ n) = e := by
      have l := a21.le hp h0'
      rcases Int.lt_or_eq_of_le l with z | z
      · exact absurd ⟨Dv.of_le hp (.inr (by omega)), Dv.of_le hp (h1'.imp id fun w => by omega)⟩ key
      · exact z.symm
    unfold ballC
    have hu2 : (colA p m ⟨n, q⟩).2 ≠ 0 := h0
    rw [left_eq hu2]
    show ballQ p (vQ p ((((m.a : Rat) * q + (m.b : Rat)) * ((m.c : Rat) * (p : Rat) ^ n) - ((m.c : Rat) * q + (m.d : Rat)) * ((m.a : Rat) * (p : Rat) ^ n)) / (((m.c : Rat) * (p : Rat) ^ n) * ((m.c : Rat) * (p : Rat) ^ n)))) (((m.a : Rat) * (p : Rat) ^ n) / ((m.c : Rat) * (p : Rat) ^ n)) = ⟨n, q⟩
    have e1 : ((m.a : Rat) * q + (m.b : Rat)) * ((m.c : Rat) * (p : Rat) ^ n) - ((m.c : Rat) * q + (m.d : Rat)) * ((m.a : Rat) * (p : Rat) ^ n) = -(((sizeM m : Int) : Rat) * (p : Rat) ^ n) := by rw [hSQ]; grind
    have hsq : ((m.c : Rat) * (p : Rat) ^ n) * ((m.c : Rat) * (p : Rat) ^ n) ≠ 0 := fun z => (Rat.mul_eq_zero.mp z).elim h0' h0'
    have hneg : -(((sizeM m : Int) : Rat) * (p : Rat) ^ n) ≠ 0 := fun z => hSn (by grind)
    have e2 : vQ p (-(((sizeM m : Int) : Rat) * (p : Rat) ^ n) / (((m.c : Rat) * (p : Rat) ^ n) * ((m.c : Rat) * (p : Rat) ^ n))) = n := by
      rw [v_div hp hneg hsq, v_neg, vSn, v_mul hp h0' h0', ve]; omega
    rw [e1, e2]
    refine (ball_congr hp ?_).trans (ball_self hp hb)
    have d := (h.a11.mul hp (Dv.pow hp n)).div hp h0' (Int.le_of_eq ve)
    refine (d.cast (by omega)).eq ?_
    grind
  | false =>
    rw [if_neg Bool.false_ne_true]
    have hne : ¬ ((colB m ⟨n, q⟩).2 = 0 ∧ (colA p m ⟨n, q⟩).2 = 0) := fun ⟨z1, z2⟩ => key ⟨by rw [show (m.c : Rat) * (p : Rat) ^ n = 0 from z2]; exact Dv.zero hp _, by rw [show (m.c : Rat) * q + (m.d : Rat) = 0 from z1]; exact Dv.zero hp _⟩
    obtain ⟨h0, h1⟩ := more_false hc hne
    have h0' : (m.c : Rat) * q + (m.d : Rat) ≠ 0 := h0
    have h1' : (m.c : Rat) * (p : Rat) ^ n = 0 ∨ vQ p ((m.c : Rat) * q + (m.d : Rat)) ≤ vQ p ((m.c : Rat) * (p : Rat) ^ n) := h1
    have ve : vQ p ((m.c : Rat) * q + (m.d : Rat)) = e := by
      have l := h.a22.le hp h0'
      rcases Int.lt_or_eq_of_le l with z | z
      · exact absurd ⟨Dv.of_le hp (h1'.imp id fun w => by omega), Dv.of_le hp (.inr (by omega))⟩ key
      · exact z.symm
    unfold ballC
    have hv2 : (colB m ⟨n, q⟩).2 ≠ 0 := h0
    rw [left_eq hv2]
    show ballQ p (vQ p ((((m.a : Rat) * (p : Rat) ^ n) * ((m.c : Rat) * q + (m.d : Rat)) - ((m.c : Rat) * (p : Rat) ^ n) * ((m.a : Rat) * q + (m.b : Rat))) / (((m.c : Rat) * q + (m.d : Rat)) * ((m.c : Rat) * q + (m.d : Rat))))) (((m.a : Rat) * q + (m.b : Rat)) / ((m.c : Rat) * q + (m.d : Rat))) = ⟨n, q⟩
    have e1 : ((m.a : Rat) * (p : Rat) ^ n) * ((m.c : Rat) * q + (m.d : Rat)) - ((m.c : Rat) * (p : Rat) ^ n) * ((m.a : Rat) * q + (m.b : Rat)) = ((sizeM m : Int) : Rat) * (p : Rat) ^ n := by rw [hSQ]; grind
    have hsq : ((m.c : Rat) * q + (m.d : Rat)) * ((m.c : Rat) * q + (m.d : Rat)) ≠ 0 := fun z => (Rat.mul_eq_zero.mp z).elim h0' h0'
    have e2 : vQ p (((sizeM m : Int) : Rat) * (p : Rat) ^ n / (((m.c : Rat) * q + (m.d : Rat)) * ((m.c : Rat) * q + (m.d : Rat)))) = n := by
      rw [v_div hp hSn hsq, vSn, v_mul hp h0' h0', ve]; omega
    rw [e1, e2]
    refine (ball_congr hp ?_).trans (ball_self hp hb)
    have d := h.a12.div hp h0' (Int.le_of_eq ve)
    refine (d.cast (by omega)).eq ?_
    grind
theorem led_fix (hp : IsP p) {m : M4} {β : Bq} (sm : sizeM m ≠ 0) (hl : ledQ p m β = β) : ∃ e, FixC p m β.n β.q e := by
  obtain ⟨n, q⟩ := β
  show ∃ e, FixC p m n q e
  have hS := size_ne_Q sm
  have hpn := ppow_ne hp n
  have hSQ := size_Q m
  have hSn : ((sizeM m : Int) : Rat) * (p : Rat) ^ n ≠ 0 := fun z => (Rat.mul_eq_zero.mp z).elim hS hpn
  have vSn : vQ p (((sizeM m : Int) : Rat) * (p : Rat) ^ n) = (vI p (sizeM m) : Int) + n := by rw [v_mul hp hS hpn, v_pow hp, v_int]
  have dSn := Dv.of_v hp hSn
  rw [vSn] at dSn
  unfold ledQ at hl
  cases hc : hasMore p (colB m ⟨n, q⟩).2 (colA p m ⟨n, q⟩).2 with
  | true =>
    rw [hc, if_pos rfl] at hl
    obtain ⟨h0, h1⟩ := more_true hc
    have h0' : (m.c : Rat) * (p : Rat) ^ n ≠ 0 := h0
    have h1' : (m.c : Rat) * q + (m.d : Rat) = 0 ∨ vQ p ((m.c : Rat) * (p : Rat) ^ n) < vQ p ((m.c : Rat) * q + (m.d : Rat)) := h1
    unfold ballC at hl
    have hu2 : (colA p m ⟨n, q⟩).2 ≠ 0 := h0
    rw [left_eq hu2] at hl
    have hl' : ballQ p (vQ p ((((m.a : Rat) * q + (m.b : Rat)) * ((m.c : Rat) * (p : Rat) ^ n) - ((m.c : Rat) * q + (m.d : Rat)) * ((m.a : Rat) * (p : Rat) ^ n)) / (((m.c : Rat) * (p : Rat) ^ n) * ((m.c : Rat) * (p : Rat) ^ n)))) (((m.a : Rat) * (p : Rat) ^ n) / ((m.c : Rat) * (p : Rat) ^ n)) = ⟨n, q⟩ := hl
    have e1 : ((m.a : Rat) * q + (m.b : Rat)) * ((m.c : Rat) * (p : Rat) ^ n) - ((m.c : Rat) * q + (m.d : Rat)) * ((m.a : Rat) * (p : Rat) ^ n) = -(((sizeM m : Int) : Rat) * (p : Rat) ^ n) := by rw [hSQ]; grind
    have hsq : ((m.c : Rat) * (p : Rat) ^ n) * ((m.c : Rat) * (p : Rat) ^ n) ≠ 0 := fun z => (Rat.mul_eq_zero.mp z).elim h0' h0'
    have hneg : -(((sizeM m : Int) : Rat) * (p : Rat) ^ n) ≠ 0 := fun z => hSn (by grind)
    rw [e1, v_div hp hneg hsq, v_neg, vSn, v_mul hp h0' h0'] at hl'
    generalize hve : vQ p ((m.c : Rat) * (p : Rat) ^ n) = e at *
    have hn : (vI p (sizeM m) : Int) + n - (e + e) = n := by
      have := congrArg Bq.n hl'
      rwa [ball_n] at this
    rw [hn] at hl'
    have near := ball_near hp n (((m.a : Rat) * (p : Rat) ^ n) / ((m.c : Rat) * (p : Rat) ^ n))
    rw [hl'] at near
    have near' : Dv p n (q - ((m.a : Rat) * (p : Rat) ^ n) / ((m.c : Rat) * (p : Rat) ^ n)) := near
    have du2 : Dv p e ((m.c : Rat) * (p : Rat) ^ n) := Dv.of_le hp (.inr (by omega))
    have dv2 : Dv p e ((m.c : Rat) * q + (m.d : Rat)) := Dv.of_le hp (h1'.imp id fun w => by omega)
    refine ⟨e, ?_, ?_, ?_, dv2, by omega⟩
    · refine Dv.scale hp (k := n) (((du2.mul hp near').neg).cast (by omega) |>.eq ?_)
      grind
    · have d1 := (dv2.mul hp near').neg
      have d2 := (dSn.div hp h0' (Int.le_of_eq hve)).cast (show e + n = _ by omega)
      refine ((d1.cast (by omega)).sub hp d2).eq ?_
      rw [hSQ]
      grind
    · exact Dv.scale hp (k := n) (du2.cast (by omega))
  | false =>
    rw [hc, if_neg Bool.false_ne_true] at hl
    have hne : ¬ ((colB m ⟨n, q⟩).2 = 0 ∧ (colA p m ⟨n, q⟩).2 = 0) := fun ⟨z1, z2⟩ => hSn (by
      have z1' : (m.c : Rat) * q + (m.d : Rat) = 0 := z1
      have z2' : (m.c : Rat) * (p : Rat) ^ n = 0 := z2
      rw [hSQ]
      have : (m.c : Rat) = 0 := (Rat.mul_eq_zero.mp z2').resolve_right hpn
      grind)
    obtain ⟨h0, h1⟩ := more_false hc hne
    have h0' : (m.c : Rat) * q + (m.d : Rat) ≠ 0 := h0
    have h1' : (m.c : Rat) * (p : Rat) ^ n = 0 ∨ vQ p ((m.c : Rat) * q + (m.d : Rat)) ≤ vQ p ((m.c : Rat) * (p : Rat) ^ n) := h1
    unfold ballC at hl
    have hv2 : (colB m ⟨n, q⟩).2 ≠ 0 := h0
    rw [left_eq hv2] at hl
    have hl' : ballQ p (vQ p ((((m.a : Rat) * (p : Rat) ^ n) * ((m.c : Rat) * q + (m.d : Rat)) - ((m.c : Rat) * (p : Rat) ^ n) * ((m.a : Rat) * q + (m.b : Rat))) / (((m.c : Rat) * q + (m.d : Rat)) * ((m.c : Rat) * q + (m.d : Rat))))) (((m.a : Rat) * q + (m.b : Rat)) / ((m.c : Rat) * q + (m.d : Rat))) = ⟨n, q⟩ := hl
    have e1 : ((m.a : Rat) * (p : Rat) ^ n) * ((m.c : Rat) * q + (m.d : Rat)) - ((m.c : Rat) * (p : Rat) ^ n) * ((m.a : Rat) * q + (m.b : Rat)) = ((sizeM m : Int) : Rat) * (p : Rat) ^ n := by rw [hSQ]; grind
    have hsq : ((m.c : Rat) * q + (m.d : Rat)) * ((m.c : Rat) * q + (m.d : Rat)) ≠ 0 := fun z => (Rat.mul_eq_zero.mp z).elim h0' h0'
    rw [e1, v_div hp hSn hsq, vSn, v_mul hp h0' h0'] at hl'
    generalize hve : vQ p ((m.c : Rat) * q + (m.d : Rat)) = e at *
    have hn : (vI p (sizeM m) : Int) + n - (e + e) = n := by
      have := congrArg Bq.n hl'
      rwa [ball_n] at this
    rw [hn] at hl'
    have near := ball_near hp n (((m.a : Rat) * q + (m.b : Rat)) / ((m.c : Rat) * q + (m.d : Rat)))
    rw [hl'] at near
    have near' : Dv p n (q - ((m.a : Rat) * q + (m.b : Rat)) / ((m.c : Rat) * q + (m.d : Rat))) := near
    have dv2 : Dv p e ((m.c : Rat) * q + (m.d : Rat)) := Dv.of_le hp (.inr (by omega))
    have du2 : Dv p e ((m.c : Rat) * (p : Rat) ^ n) := Dv.of_le hp (h1'.imp id fun w => by omega)
    refine ⟨e, ?_, ?_, ?_, dv2, by omega⟩
    · have d1 := (du2.mul hp near').neg
      have d2 := (dSn.div hp h0' (Int.le_of_eq hve)).cast (show e + n = _ by omega)
      refine Dv.scale hp (k := n) ((d2.add hp (d1.cast (by omega))).eq ?_)
      rw [hSQ]
      grind
    · refine ((dv2.mul hp near').neg.cast (by omega)).eq ?_
      grind
    · exact Dv.scale hp (k := n) (du2.cast (by omega))
end
end Bm
namespace Bm
section
variable {p : Nat}
def Prim (p : Nat) (m : M4) : Prop := ¬ ((p : Int) ∣ m.a ∧ (p : Int) ∣ m.b ∧ (p : Int) ∣ m.c ∧ (p : Int) ∣ m.d)
theorem prim_of (hp : IsP p) {m : M4} (h : gcd4 m = 1) : Prim p m := fun ⟨h1, h2, h3, h4⟩ => by
  have := dvd_gcd4 h1 h2 h3 h4
  rw [h] at this
  have := Nat.le_of_dvd (by decide) this
  have := hp.two
  omega
theorem v0 {z : Int} (h : ¬ (p : Int) ∣ z) : vI p z = 0 := by
  unfold vI
  exact vN_no fun w => h (Int.ofNat_dvd_left.mpr w)
theorem nd_Q {z : Int} (h : ¬ (p : Int) ∣ z) : (z : Rat) ≠ 0 ∧ vQ p (z : Rat) = 0 := ⟨nd_ne h, by rw [v_int, v0 h]; rfl⟩
theorem dv1 (hp : IsP p) {z : Int} {k : Int} (h : Dv p k (z : Rat)) (hk : 1 ≤ k) : (p : Int) ∣ z := by
  have h1 : Dv p ((1 : Nat) : Int) (z : Rat) := h.mono hp (by omega)
  have := h1.dvd hp
  rwa [Int.pow_one] at this
theorem dv1' (hp : IsP p) {z : Int} (h : (p : Int) ∣ z) : Dv p 1 (z : Rat) := Dv.of_dvd (k := 1) hp (by rw [Int.pow_one]; exact h)
/-- what leads from the start -/
structure Lead (p : Nat) (m : M4) (γ : Nat) (x : Rat) : Prop where
  n : (ledQ p m start0).n = (vI p (sizeM m) : Int) - 2 * γ
  q : Dv p ((vI p (sizeM m) : Int) - 2 * γ) ((ledQ p m start0).q - x)
  c : Dv p γ (m.c : Rat)
  d : Dv p γ (m.d : Rat)
  alt : ((m.c : Rat) ≠ 0 ∧ vQ p (m.c : Rat) = γ ∧ x = (m.a : Rat) / (m.c : Rat) ∧ Dv p (γ + 1) (m.d : Rat)) ∨ ((m.d : Rat) ≠ 0 ∧ vQ p (m.d : Rat) = γ ∧ x = (m.b : Rat) / (m.d : Rat))
theorem lead (hp : IsP p) {m : M4} (sm : sizeM m ≠ 0) : ∃ γ x, Lead p m γ x := by
  have hS := size_ne_Q sm
  have hSQ := size_Q m
  have eA : colA p m start0 = ((m.a : Rat), (m.c : Rat)) := by
    unfold colA
    show ((m.a : Rat) * (p : Rat) ^ (0 : Int), (m.c : Rat) * (p : Rat) ^ (0 : Int)) = _
    rw [Rat.zpow_zero, Rat.mul_one, Rat.mul_one]
  have eB : colB m start0 = ((m.b : Rat), (m.d : Rat)) := by
    unfold colB
    show ((m.a : Rat) * 0 + (m.b : Rat), (m.c : Rat) * 0 + (m.d : Rat)) = _
    rw [Rat.mul_zero, Rat.mul_zero, Rat.zero_add, Rat.zero_add]
  have eL : ledQ p m start0 = if hasMore p (m.d : Rat) (m.c : Rat) then ballC p ((m.b : Rat), (m.d : Rat)) ((m.a : Rat), (m.c : Rat)) else ballC p ((m.a : Rat), (m.c : Rat)) ((m.b : Rat), (m.d : Rat)) := by
    unfold ledQ; rw [eA, eB]
  cases hc : hasMore p (m.d : Rat) (m.c : Rat) with
  | true =>
    obtain ⟨h0, h1⟩ := more_true hc
    rw [hc, if_pos rfl] at eL
    have hv : vQ p (m.c : Rat) = ((vI p m.c : Nat) : Int) := v_int p m.c
    have e2 : vQ p (((m.b : Rat) - (m.d : Rat) / (m.c : Rat) * (m.a : Rat)) / (m.c : Rat)) = (vI p (sizeM m) : Int) - 2 * (vI p m.c : Nat) := by
      have := left_eq (u := ((m.b : Rat), (m.d : Rat))) (v := ((m.a : Rat), (m.c : Rat))) h0
      simp only at this
      rw [this]
      have e1 : (m.b : Rat) * (m.c : Rat) - (m.d : Rat) * (m.a : Rat) = -((sizeM m : Int) : Rat) := by rw [hSQ]; grind
      have hsq : (m.c : Rat) * (m.c : Rat) ≠ 0 := fun z => (Rat.mul_eq_zero.mp z).elim h0 h0
      have hneg : -((sizeM m : Int) : Rat) ≠ 0 := fun z => hS (by grind)
      rw [e1, v_div hp hneg hsq, v_neg, v_mul hp h0 h0, v_int, hv]; omega
    have eL' : ledQ p m start0 = ballQ p ((vI p (sizeM m) : Int) - 2 * (vI p m.c : Nat)) ((m.a : Rat) / (m.c : Rat)) := by rw [eL, ← e2]; rfl
    refine ⟨vI p m.c, (m.a : Rat) / (m.c : Rat), by rw [eL', ball_n], by rw [eL']; exact ball_near hp _ _, Dv.of_le hp (.inr (Int.le_of_eq hv.symm)), Dv.of_le hp (h1.imp id fun w => by omega), .inl ⟨h0, hv, rfl, Dv.of_le hp (h1.imp id fun w => by omega)⟩⟩
  | false =>
    have hne : ¬ ((m.d : Rat) = 0 ∧ (m.c : Rat) = 0) := fun ⟨z1, z2⟩ => hS (by rw [hSQ, z1, z2]; grind)
    obtain ⟨h0, h1⟩ := more_false hc hne
    rw [hc, if_neg Bool.false_ne_true] at eL
    have hv : vQ p (m.d : Rat) = ((vI p m.d : Nat) : Int) := v_int p m.d
    have e2 : vQ p (((m.a : Rat) - (m.c : Rat) / (m.d : Rat) * (m.b : Rat)) / (m.d : Rat)) = (vI p (sizeM m) : Int) - 2 * (vI p m.d : Nat) := by
      have := left_eq (u := ((m.a : Rat), (m.c : Rat))) (v := ((m.b : Rat), (m.d : Rat))) h0
      simp only at this
      rw [this]
      have e1 : (m.a : Rat) * (m.d : Rat) - (m.c : Rat) * (m.b : Rat) = ((sizeM m : Int) : Rat) := by rw [hSQ]; grind
      have hsq : (m.d : Rat) * (m.d : Rat) ≠ 0 := fun z => (Rat.mul_eq_zero.mp z).elim h0 h0
      rw [e1, v_div hp hS hsq, v_mul hp h0 h0, v_int, hv]; omega
    have eL' : ledQ p m start0 = ballQ p ((vI p (sizeM m) : Int) - 2 * (vI p m.d : Nat)) ((m.b : Rat) / (m.d : Rat)) := by rw [eL, ← e2]; rfl
    refine ⟨vI p m.d, (m.b : Rat) / (m.d : Rat), by rw [eL', ball_n], by rw [eL']; exact ball_near hp _ _, Dv.of_le hp (h1.imp id fun w => by omega), Dv.of_le hp (.inr (Int.le_of_eq hv.symm)), .inr ⟨h0, hv, rfl⟩⟩
theorem Lead.s_ge (hp : IsP p) {m : M4} {γ : Nat} {x : Rat} (sm : sizeM m ≠ 0) (h : Lead p m γ x) : (γ : Int) ≤ (vI p (sizeM m) : Int) := by
  have d : Dv p γ ((sizeM m : Int) : Rat) := by
    rw [size_Q]
    exact (((Dv.int hp m.a).mul hp h.d).cast (by omega)).sub hp (((Dv.int hp m.b).mul hp h.c).cast (by omega))
  have := d.le hp (size_ne_Q sm)
  rwa [v_int] at this
theorem Lead.x_dv (hp : IsP p) {m : M4} {γ : Nat} {x : Rat} (h : Lead p m γ x) : Dv p (-(γ : Int)) x := by
  rcases h.alt with ⟨h0, hv, rfl, _⟩ | ⟨h0, hv, rfl⟩
  · exact ((Dv.int hp m.a).div hp h0 (Int.le_of_eq hv)).cast (by omega)
  · exact ((Dv.int hp m.b).div hp h0 (Int.le_of_eq hv)).cast (by omega)
/-- no deeper than told, or the number is as far down as can be -/
theorem Lead.three (hp : IsP p) {m : M4} {γ : Nat} {x : Rat} (sm : sizeM m ≠ 0) (pm : Prim p m) (h : Lead p m γ x) : γ = 0 ∨ (vI p (sizeM m) : Int) = γ ∨ (x ≠ 0 ∧ vQ p x = -(γ : Int)) := by
  by_cases g0 : γ = 0
  · exact .inl g0
  by_cases gs : (vI p (sizeM m) : Int) = γ
  · exact .inr (.inl gs)
  refine .inr (.inr ?_)
  have sge := h.s_ge hp sm
  have pc := dv1 hp h.c (by omega)
  have pd := dv1 hp h.d (by omega)
  have dS : Dv p ((γ : Int) + 1) ((sizeM m : Int) : Rat) := Dv.of_le hp (.inr (by rw [v_int]; omega))
  rcases h.alt with ⟨h0, hv, rfl, d1⟩ | ⟨h0, hv, rfl⟩
  · have na : ¬ (p : Int) ∣ m.a := fun pa => by
      have nb : ¬ (p : Int) ∣ m.b := fun pb => pm ⟨pa, pb, pc, pd⟩
      obtain ⟨b0, vb⟩ := nd_Q nb
      have e : Dv p ((γ : Int) + 1) ((m.b : Rat) * (m.c : Rat)) := by
        refine (((((Dv.int hp m.a).mul hp d1).cast (by omega)).sub hp dS)).eq ?_
        rw [size_Q]; grind
      have := e.le hp (fun z => (Rat.mul_eq_zero.mp z).elim b0 h0)
      rw [v_mul hp b0 h0, vb, hv] at this
      omega
    obtain ⟨a0, va⟩ := nd_Q na
    refine ⟨fun z => ?_, by rw [v_div hp a0 h0, va, hv]; omega⟩
    rw [Rat.div_def] at z
    exact (Rat.mul_eq_zero.mp z).elim a0 (rat_inv_ne h0)
  · have nb : ¬ (p : Int) ∣ m.b := fun pb => by
      have na : ¬ (p : Int) ∣ m.a := fun pa => pm ⟨pa, pb, pc, pd⟩
      obtain ⟨a0, va⟩ := nd_Q na
      have e : Dv p ((γ : Int) + 1) ((m.a : Rat) * (m.d : Rat)) := by
        refine ((((dv1' hp pb).mul hp h.c).cast (show (γ : Int) + 1 = _ by omega)).add hp dS).eq ?_
        rw [size_Q]; grind
      have := e.le hp (fun z => (Rat.mul_eq_zero.mp z).elim a0 h0)
      rw [v_mul hp a0 h0, va, hv] at this
      omega
    obtain ⟨b0, vb⟩ := nd_Q nb
    refine ⟨fun z => ?_, by rw [v_div hp b0 h0, vb, hv]; omega⟩
    rw [Rat.div_def] at z
    exact (Rat.mul_eq_zero.mp z).elim b0 (rat_inv_ne h0)
theorem Lead.top (hp : IsP p) {m : M4} {γ : Nat} {x : Rat} (sm : sizeM m ≠ 0) (pm : Prim p m) (h : Lead p m γ x) : topQ p start0 (ledQ p m start0) = -(γ : Int) := by
  have sge := h.s_ge hp sm
  have hx := h.x_dv hp
  have h3 := h.three hp sm pm
  have hn := h.n
  have hq := h.q
  have e0 : start0.n = 0 := rfl
  have eq0 : start0.q - (ledQ p m start0).q = -(ledQ p m start0).q := by show (0 : Rat) - _ = _; grind
  have dL : Dv p (-(γ : Int)) (ledQ p m start0).q := ((hq.mono hp (show -(γ : Int) ≤ _ by omega)).add hp hx).eq (by grind)
  unfold topQ
  rw [eq0, e0, hn]
  generalize (ledQ p m start0).q = q at *
  split
  · rename_i z
    have zq : q = 0 := by grind
    rcases h3 with g | g | ⟨x0, vx⟩
    · omega
    · omega
    · have : Dv p ((vI p (sizeM m) : Int) - 2 * γ) x := by
        rw [zq] at hq
        exact hq.neg.eq (by grind)
      have := this.le hp x0
      omega
  · rename_i z
    have zq : q ≠ 0 := fun w => z (by rw [w]; grind)
    rw [v_neg]
    have l1 := dL.le hp zq
    rcases h3 with g | g | ⟨x0, vx⟩
    · omega
    · omega
    · by_cases hs : (vI p (sizeM m) : Int) - 2 * γ = -(γ : Int)
      · omega
      · have l2 : vQ p q ≤ -(γ : Int) := by
          rcases Int.lt_or_le (-(γ : Int)) (vQ p q) with w | w
          · exfalso
            have d1 : Dv p (-(γ : Int) + 1) q := Dv.of_le hp (.inr (by omega))
            have d2 : Dv p (-(γ : Int) + 1) x := (d1.sub hp (hq.mono hp (by omega))).eq (by grind)
            have := d2.le hp x0
            omega
          · exact w
        omega
theorem Lead.steps (hp : IsP p) {m : M4} {γ : Nat} {x : Rat} (sm : sizeM m ≠ 0) (pm : Prim p m) (h : Lead p m γ x) : stepsQ p start0 (ledQ p m start0) = (vI p (sizeM m) : Int) := by
  unfold stepsQ
  rw [h.top hp sm pm, h.n]
  have : start0.n = 0 := rfl
  omega
theorem steps0 (hp : IsP p) {m : M4} (sm : sizeM m ≠ 0) (pm : Prim p m) : stepsQ p start0 (ledQ p m start0) = (vI p (sizeM m) : Int) := by
  obtain ⟨γ, x, h⟩ := lead hp sm
  exact h.steps hp sm pm
/-- the ball half way -/
noncomputable def midQ (p : Nat) (m : M4) (e : Nat) : Bq := onRoadQ p start0 (ledQ p m start0) e
theorem Lead.mid (hp : IsP p) {m : M4} {γ : Nat} {x : Rat} (sm : sizeM m ≠ 0) (pm : Prim p m) (h : Lead p m γ x) (e : Nat) : midQ p m e = if e ≤ γ then ballQ p (-(e : Int)) 0 else ballQ p ((e : Int) - 2 * γ) (ledQ p m start0).q := by
  unfold midQ onRoadQ
  rw [h.top hp sm pm]
  have e0 : start0.n = 0 := rfl
  rw [e0]
  by_cases l : e ≤ γ
  · rw [if_pos (by omega), if_pos l, show (0 : Int) - (e : Int) = -(e : Int) by omega]; rfl
  · rw [if_neg (by omega), if_neg l, show -(γ : Int) + (e : Int) - (0 - -(γ : Int)) = (e : Int) - 2 * γ by omega]
theorem mid_fixC (hp : IsP p) {m : M4} {e : Nat} (sm : sizeM m ≠ 0) (pm : Prim p m) (hs : (vI p (sizeM m) : Int) = 2 * e) (ht : Dv p e (((trM m : Int)) : Rat)) : FixC p m (midQ p m e).n (midQ p m e).q e := by
  obtain ⟨γ, x, h⟩ := lead hp sm
  have hSQ := size_Q m
  have hS := size_ne_Q sm
  have dS : Dv p (2 * e) ((sizeM m : Int) : Rat) := Dv.of_le hp (.inr (by rw [v_int]; omega))
  have htr : Dv p e ((m.a : Rat) + (m.d : Rat)) := ht.eq (by unfold trM; rw [Rat.intCast_add])
  rw [h.mid hp sm pm]
  by_cases l : e ≤ γ
  · rw [if_pos l, ball_n]
    have dd : Dv p e (m.d : Rat) := h.d.mono hp (by omega)
    have da : Dv p e (m.a : Rat) := (htr.sub hp dd).eq (by grind)
    refine FixC.congr hp (x := 0) ⟨da.eq (by grind), ?_, ?_, dd.eq (by grind), hs⟩ (ball_near hp _ _)
    · exact ((Dv.int hp m.b).cast (by omega)).eq (by grind)
    · by_cases e0 : e = 0
      · subst e0; exact (Dv.int hp m.c).cast (by omega)
      · have nb : ¬ (p : Int) ∣ m.b := fun pb => pm ⟨dv1 hp da (by omega), pb, dv1 hp h.c (by omega), dv1 hp h.d (by omega)⟩
        obtain ⟨b0, vb⟩ := nd_Q nb
        have dbc : Dv p (2 * e) ((m.b : Rat) * (m.c : Rat)) := ((((da.mul hp dd).cast (by omega)).sub hp dS)).eq (by rw [hSQ]; grind)
        exact ((dbc.div hp b0 (Int.le_of_eq vb)).cast (by omega)).eq (by grind)
  · rw [if_neg l, ball_n]
    have sge := h.s_ge hp sm
    have hx := h.x_dv hp
    have near : Dv p ((e : Int) - 2 * γ) ((ballQ p ((e : Int) - 2 * γ) (ledQ p m start0).q).q - x) := by
      have d1 := ball_near hp ((e : Int) - 2 * γ) (ledQ p m start0).q
      exact (d1.add hp (h.q.mono hp (by omega))).eq (by grind)
    refine FixC.congr hp (x := x) ?_ near
    rcases h.alt with ⟨h0, hv, hxe, d1⟩ | ⟨h0, hv, hxe⟩
    · -- the depth is 0
      have g0 : γ = 0 := by
        rcases h.three hp sm pm with g | g | ⟨x0, vx⟩
        · exact g
        · omega
        · by_cases z : γ = 0
          · exact z
          · exfalso
            have dd : Dv p 1 (m.d : Rat) := h.d.mono hp (by omega)
            have da : Dv p 1 (m.a : Rat) := ((htr.mono hp (by omega)).sub hp dd).eq (by grind)
            have hxm : x * (m.c : Rat) = (m.a : Rat) := by rw [hxe]; grind
            have a0 : (m.a : Rat) ≠ 0 := fun w => (Rat.mul_eq_zero.mp (hxm.trans w)).elim x0 h0
            have := da.le hp a0
            rw [← hxm, v_mul hp x0 h0, vx, hv] at this
            omega
      subst g0
      have hxm : x * (m.c : Rat) = (m.a : Rat) := by rw [hxe]; grind
      refine ⟨(Dv.zero hp _).eq (by grind), ?_, (Dv.int hp m.c).cast (by omega), htr.eq (by grind), hs⟩
      refine ((dS.div hp h0 (Int.le_of_eq hv)).neg.cast (by omega)).eq ?_
      rw [hSQ]
      grind
    · have hxm : x * (m.d : Rat) = (m.b : Rat) := by rw [hxe]; grind
      have dSd := dS.div hp h0 (Int.le_of_eq hv)
      have e11 : (m.a : Rat) - x * (m.c : Rat) = ((sizeM m : Int) : Rat) / (m.d : Rat) := by rw [hSQ]; grind
      have d11 : Dv p (2 * (e : Int) - γ) ((m.a : Rat) - x * (m.c : Rat)) := dSd.eq e11
      refine ⟨d11.mono hp (by omega), ?_, ?_, ?_, hs⟩
      · refine ((hx.mul hp d11).cast (by omega)).eq ?_
        grind
      · by_cases z : γ = 0
        · subst z; exact (Dv.int hp m.c).cast (by omega)
        · have vx : x ≠ 0 ∧ vQ p x = -(γ : Int) := by
            rcases h.three hp sm pm with g | g | g
            · exact absurd g z
            · omega
            · exact g
          have b0 : (m.b : Rat) ≠ 0 := fun w => (Rat.mul_eq_zero.mp (hxm.trans w)).elim vx.1 h0
          have vb : vQ p (m.b : Rat) = 0 := by rw [← hxm, v_mul hp vx.1 h0, vx.2, hv]; omega
          have da : Dv p γ (m.a : Rat) := ((htr.mono hp (by omega)).sub hp h.d).eq (by grind)
          have dbc : Dv p (2 * γ) ((m.b : Rat) * (m.c : Rat)) := ((((da.mul hp h.d).cast (by omega)).sub hp (dS.mono hp (by omega)))).eq (by rw [hSQ]; grind)
          exact ((dbc.div hp b0 (Int.le_of_eq vb)).cast (by omega)).eq (by grind)
      · refine (htr.sub hp (d11.mono hp (by omega))).eq ?_
        grind
theorem canB_mid (hp : IsP p) (m : M4) (e : Nat) : CanB p (midQ p m e) := by
  unfold midQ onRoadQ
  split
  · exact canB_ball hp _ _
  · exact canB_ball hp _ _
/-- stretch 0, told by the sum -/
theorem stretch0 (hp : IsP p) {m : M4} {e : Nat} (hs : (vI p (sizeM m) : Int) = 2 * e) (h : stretchQ p m = 0) : Dv p e (((trM m : Int)) : Rat) := by
  unfold stretchQ at h
  by_cases ht : trM m = 0
  · rw [ht, Rat.intCast_zero]; exact Dv.zero hp _
  · rw [if_neg ht] at h
    refine Dv.of_le hp (.inr ?_)
    rw [v_int]; omega
theorem stretch_nonneg (p : Nat) (m : M4) : 0 ≤ stretchQ p m := by unfold stretchQ; split <;> omega
theorem rest_mid (hp : IsP p) {m : M4} {e : Nat} (sm : sizeM m ≠ 0) (pm : Prim p m) (hs : (vI p (sizeM m) : Int) = 2 * e) (h : stretchQ p m = 0) : restQ p m start0 = midQ p m e := by
  unfold restQ midQ
  rw [steps0 hp sm pm, h, hs, show (2 * (e : Int) - 0) / 2 = (e : Int) by omega]
theorem keeps_eq (hp : IsP p) {m : M4} (hg : gcd4 m = 1) (sm : sizeM m ≠ 0) : keepsP p m = keepsL p m := by
  have pm := prim_of hp hg
  unfold keepsP keepsL
  by_cases hs : stretchQ p m = 0
  · rw [decide_eq_true (show stretchQ p m ≤ 0 by omega), decide_eq_true hs, Bool.true_and, Bool.true_and]
    refine decide_eq_decide.mpr ⟨fun hl => ?_, fun he => ?_⟩
    · obtain ⟨e, hf⟩ := led_fix hp sm hl
      have := hf.sz
      omega
    · have hs2 : (vI p (sizeM m) : Int) = 2 * ((vI p (sizeM m) / 2 : Nat) : Int) := by omega
      rw [rest_mid hp sm pm hs2 hs]
      exact fix_led hp sm (canB_mid hp m _) (mid_fixC hp sm pm hs2 (stretch0 hp hs2 hs))
  · have := stretch_nonneg p m
    rw [decide_eq_false hs, decide_eq_false (show ¬ stretchQ p m ≤ 0 by omega), Bool.false_and, Bool.false_and]
end
end Bm
namespace Bm
section
variable {p : Nat}
theorem ball_at0 (hp : IsP p) (n : Int) : ballQ p n 0 = ⟨n, 0⟩ := by
  have e := can_uniq hp (ball_spec hp n 0).2 (c' := 0) ⟨(-n).toNat, 0, by omega, by rw [Rat.zero_mul, Rat.intCast_zero], Int.le_refl _, ppow_pos hp _⟩ ((ball_spec hp n 0).1)
  have en := ball_n p n 0
  generalize ballQ p n 0 = β at *
  obtain ⟨a, b⟩ := β
  simp only at e en
  rw [e, en]
theorem hasQ_iff (hp : IsP p) {β : Bq} {x : Rat} : hasQ p β x = true ↔ Dv p β.n (x - β.q) := by
  unfold hasQ
  constructor
  · intro h
    rcases Bool.or_eq_true_iff.mp h with z | z
    · exact Dv.of_le hp (.inl (of_decide_eq_true z))
    · exact Dv.of_le hp (.inr (of_decide_eq_true z))
  · intro h
    by_cases z : x - β.q = 0
    · rw [decide_eq_true z]; rfl
    · have := h.le hp z
      rw [decide_eq_true (show vQ p (x - β.q) ≥ β.n from this), Bool.or_true]
/-- the law's road, turn by turn, is the program's -/
theorem road_eq (hp : IsP p) {γ : Bq} : ∀ {i : Nat}, (i : Int) ≤ stepsQ p start0 γ → roadAt p start0 γ i = onRoadQ p start0 γ i := by
  have e0 : start0.n = 0 := rfl
  have q0 : start0.q = 0 := rfl
  have t1 := top_le p start0 γ
  have dT : Dv p (topQ p start0 γ) γ.q := by
    refine Dv.of_le hp ?_
    by_cases z : γ.q = 0
    · exact .inl z
    · refine .inr ?_
      have z2 : ¬ start0.q - γ.q = 0 := fun w => z (by rw [q0] at w; grind)
      have e1 : start0.q - γ.q = -γ.q := by rw [q0]; grind
      unfold topQ
      rw [if_neg z2, e1, v_neg]
      omega
  have tmin : ∀ k : Int, k ≤ 0 → k < γ.n → Dv p k γ.q → k ≤ topQ p start0 γ := fun k h1 h2 h3 => by
    unfold topQ
    rw [e0]
    split
    · omega
    · rename_i z
      have e1 : start0.q - γ.q = -γ.q := by rw [q0]; grind
      have z2 : γ.q ≠ 0 := fun w => z (by rw [e1, w]; grind)
      rw [e1, v_neg]
      have := h3.le hp z2
      omega
  have main : ∀ i : Nat, (i : Int) ≤ stepsQ p start0 γ → roadAt p start0 γ i = (if (i : Int) ≤ -(topQ p start0 γ) then ballQ p (-(i : Int)) 0 else ballQ p ((i : Int) + 2 * topQ p start0 γ) γ.q) := by
    intro i
    induction i with
    | zero =>
      intro _
      rw [if_pos (by omega), ball_at0 hp]; rfl
    | succ i ih =>
      intro hi
      have hst : stepsQ p start0 γ = γ.n - 2 * topQ p start0 γ := by unfold stepsQ; rw [e0]; omega
      rw [roadAt, ih (by omega)]
      by_cases l : (i : Int) ≤ -(topQ p start0 γ)
      · rw [if_pos l, ball_at0 hp]
        by_cases l2 : (i : Int) = -(topQ p start0 γ)
        · -- the turn
          have hn : (⟨-(i : Int), 0⟩ : Bq).n < γ.n := by show -(i : Int) < γ.n; omega
          have hh : hasQ p ⟨-(i : Int), 0⟩ γ.q = true := (hasQ_iff hp).mpr (by
            show Dv p (-(i : Int)) (γ.q - 0)
            exact (dT.cast (by omega)).eq (by grind))
          rw [hh, decide_eq_true hn, if_pos (show (true && true) = true from rfl), if_neg (by omega)]
          show ballQ p (-(i : Int) + 1) γ.q = _
          rw [show -(i : Int) + 1 = ((i + 1 : Nat) : Int) + 2 * topQ p start0 γ by omega]
        · have hno : (hasQ p ⟨-(i : Int), 0⟩ γ.q && decide ((⟨-(i : Int), 0⟩ : Bq).n < γ.n)) = false := by
            cases hh : hasQ p ⟨-(i : Int), 0⟩ γ.q with
            | false => rfl
            | true =>
              have d1 : Dv p (-(i : Int)) γ.q := ((hasQ_iff hp).mp hh).eq (by show γ.q = γ.q - 0; grind)
              rw [Bool.true_and]
              refine decide_eq_false fun w => ?_
              have w' : -(i : Int) < γ.n := w
              have := tmin (-(i : Int)) (by omega) w' d1
              omega
          rw [hno, if_neg Bool.false_ne_true, if_pos (by omega)]
          show ballQ p (-(i : Int) - 1) 0 = _
          rw [show -(i : Int) - 1 = -((i + 1 : Nat) : Int) by omega]
      · rw [if_neg l, ball_n]
        have hh : hasQ p (ballQ p ((i : Int) + 2 * topQ p start0 γ) γ.q) γ.q = true := (hasQ_iff hp).mpr (by
          rw [ball_n]
          exact (ball_near hp ((i : Int) + 2 * topQ p start0 γ) γ.q).neg.eq (by grind))
        rw [hh, decide_eq_true (show (i : Int) + 2 * topQ p start0 γ < γ.n by omega), if_pos (show (true && true) = true from rfl), if_neg (by omega), show (i : Int) + 2 * topQ p start0 γ + 1 = ((i + 1 : Nat) : Int) + 2 * topQ p start0 γ by omega]
  intro i hi
  rw [main i hi]
  unfold onRoadQ
  rw [e0, q0]
  by_cases l : (i : Int) ≤ -(topQ p start0 γ)
  · rw [if_pos l, if_pos (by omega), show (0 : Int) - (i : Int) = -(i : Int) by omega]
  · rw [if_neg l, if_neg (by omega), show topQ p start0 γ + (i : Int) - (0 - topQ p start0 γ) = (i : Int) + 2 * topQ p start0 γ by omega]
theorem gate_mid (hp : IsP p) {m : M4} {e : Nat} (sm : sizeM m ≠ 0) (pm : Prim p m) (hs : (vI p (sizeM m) : Int) = 2 * e) : gateL p m = midQ p m e := by
  unfold gateL midQ
  have st := steps0 hp sm pm
  have e1 : ((stepsQ p start0 (ledQ p m start0)).toNat + 1) / 2 = e := by rw [st]; omega
  rw [e1]
  exact road_eq hp (by rw [st]; omega)
/-- the top about the start, of a ball near x -/
theorem top_gen (hp : IsP p) {N : Int} {q x : Rat} {γ : Nat} (hN : -(γ : Int) ≤ N) (hq : Dv p N (q - x)) (hx : Dv p (-(γ : Int)) x) (h3 : γ = 0 ∨ N = -(γ : Int) ∨ (x ≠ 0 ∧ vQ p x = -(γ : Int))) : topQ p start0 ⟨N, q⟩ = -(γ : Int) := by
  have e0 : start0.n = 0 := rfl
  have eq0 : start0.q - q = -q := by show (0 : Rat) - _ = _; grind
  have dL : Dv p (-(γ : Int)) q := ((hq.mono hp hN).add hp hx).eq (by grind)
  unfold topQ
  show (if start0.q - q = 0 then min start0.n N else min (min start0.n N) (vQ p (start0.q - q))) = _
  rw [eq0, e0]
  split
  · rename_i z
    have zq : q = 0 := by grind
    rcases h3 with g | g | ⟨x0, vx⟩
    · omega
    · omega
    · have : Dv p N x := by
        rw [zq] at hq
        exact hq.neg.eq (by grind)
      have := this.le hp x0
      omega
  · rename_i z
    have zq : q ≠ 0 := fun w => z (by rw [w]; grind)
    rw [v_neg]
    have l1 := dL.le hp zq
    rcases h3 with g | g | ⟨x0, vx⟩
    · omega
    · omega
    · by_cases hs : N = -(γ : Int)
      · omega
      · have l2 : vQ p q ≤ -(γ : Int) := by
          rcases Int.lt_or_le (-(γ : Int)) (vQ p q) with w | w
          · exfalso
            have d1 : Dv p (-(γ : Int) + 1) q := Dv.of_le hp (.inr (by omega))
            have d2 : Dv p (-(γ : Int) + 1) x := (d1.sub hp (hq.mono hp (by omega))).eq (by grind)
            have := d2.le hp x0
            omega
          · exact w
        omega
/-- where the ball half way stands -/
inductive Kind (p : Nat) (E : Nat) : Bq → Prop
  | a : Kind p E ⟨-(E : Int), 0⟩
  | b (q : Rat) (hE : 0 < E) (h : Dv p 0 q) : Kind p E ⟨E, q⟩
  | c (q : Rat) (γ : Nat) (h0 : 0 < γ) (hE : γ < E) (hq : q ≠ 0) (h : vQ p q = -(γ : Int)) : Kind p E ⟨(E : Int) - 2 * γ, q⟩
theorem bq_eta (β : Bq) : β = ⟨β.n, β.q⟩ := rfl
theorem mid_kind (hp : IsP p) {m : M4} {E : Nat} (sm : sizeM m ≠ 0) (pm : Prim p m) (hs : (vI p (sizeM m) : Int) = 2 * E) : Kind p E (midQ p m E) ∧ stepsQ p start0 (midQ p m E) = E := by
  obtain ⟨γ, x, h⟩ := lead hp sm
  have e0 : start0.n = 0 := rfl
  rw [h.mid hp sm pm]
  by_cases l : E ≤ γ
  · rw [if_pos l, ball_at0 hp]
    refine ⟨.a, ?_⟩
    unfold stepsQ topQ
    have eq0 : start0.q - (⟨-(E : Int), 0⟩ : Bq).q = 0 := by show (0 : Rat) - 0 = 0; grind
    rw [if_pos eq0, e0]
    show 0 + -(E : Int) - 2 * min 0 (-(E : Int)) = E
    omega
  · rw [if_neg l]
    have hx := h.x_dv hp
    have near : Dv p ((E : Int) - 2 * γ) ((ballQ p ((E : Int) - 2 * γ) (ledQ p m start0).q).q - x) := by
      have d1 := ball_near hp ((E : Int) - 2 * γ) (ledQ p m start0).q
      exact (d1.add hp (h.q.mono hp (by omega))).eq (by grind)
    have h3 : γ = 0 ∨ (E : Int) - 2 * γ = -(γ : Int) ∨ (x ≠ 0 ∧ vQ p x = -(γ : Int)) := by
      rcases h.three hp sm pm with g | g | g
      · exact .inl g
      · omega
      · exact .inr (.inr g)
    have en := ball_n p ((E : Int) - 2 * γ) (ledQ p m start0).q
    rw [bq_eta (ballQ p ((E : Int) - 2 * γ) (ledQ p m start0).q), en]
    generalize (ballQ p ((E : Int) - 2 * γ) (ledQ p m start0).q).q = q at *
    have tp := top_gen hp (N := (E : Int) - 2 * γ) (by omega) near hx h3
    constructor
    · by_cases g0 : γ = 0
      · subst g0
        have : Kind p E ⟨E, q⟩ := .b q (by omega) (((near.mono hp (show (0 : Int) ≤ _ by omega)).add hp (hx.cast (by omega))).eq (by grind))
        rwa [show (E : Int) - 2 * ((0 : Nat) : Int) = E by omega]
      · rcases h3 with g | g | ⟨x0, vx⟩
        · exact absurd g g0
        · omega
        · have dq : Dv p (-(γ : Int)) q := ((near.mono hp (by omega)).add hp hx).eq (by grind)
          have nq : ¬ Dv p (-(γ : Int) + 1) q := fun d1 => by
            have d2 : Dv p (-(γ : Int) + 1) x := (d1.sub hp (near.mono hp (by omega))).eq (by grind)
            have := d2.le hp x0
            omega
          have q0 : q ≠ 0 := fun z => nq (by rw [z]; exact Dv.zero hp _)
          refine .c q γ (by omega) (by omega) q0 ?_
          have l1 := dq.le hp q0
          rcases Int.lt_or_eq_of_le l1 with w | w
          · exact absurd (Dv.of_le hp (.inr (by omega))) nq
          · exact w.symm
    · unfold stepsQ
      rw [tp, e0]
      show 0 + ((E : Int) - 2 * γ) - 2 * -(γ : Int) = E
      omega
/-! ### two moves that each keep something -/
/-- A, B told in columns of the ball -/
theorem core (hp : IsP p) {E e : Nat} {A11 A12 A21 A22 a b c d : Rat} (he : e ≤ E) (hA1 : Dv p E A11) (hA2 : Dv p E A22) (hA3 : Dv p (2 * E) A21) (hA0 : A12 ≠ 0) (hAv : vQ p A12 = 0)
    (ha : Dv p 0 a) (hb : Dv p 0 b) (hd : Dv p 0 d) (hdet : Dv p (2 * e) (a * d - b * c)) (htr : Dv p e (a + d)) (hT : Dv p (E + e) (A11 * a + A12 * c + A21 * b + A22 * d)) : Dv p e a ∧ Dv p e d ∧ Dv p (E + e) c := by
  have step : ∀ r : Nat, r ≤ e → Dv p r a → Dv p r d → Dv p (E + r) c := fun r hr h1 h2 => by
    have d1 := (hA1.mul hp h1)
    have d2 := (hA3.mul hp hb)
    have d3 := (hA2.mul hp h2)
    have dc : Dv p (E + r) (A12 * c) := ((((hT.mono hp (by omega)).sub hp d1).sub hp (d2.mono hp (by omega))).sub hp d3).eq (by grind)
    exact ((dc.div hp hA0 (Int.le_of_eq hAv)).cast (by omega)).eq (by grind)
  have main : ∀ r : Nat, r ≤ e → Dv p r a ∧ Dv p r d := by
    intro r
    induction r with
    | zero => exact fun _ => ⟨ha.cast (by omega), hd.cast (by omega)⟩
    | succ r ih =>
      intro hr
      obtain ⟨h1, h2⟩ := ih (by omega)
      have hc := step r (by omega) h1 h2
      have dad : Dv p (2 * r + 1) (a * d) := ((hdet.mono hp (by omega)).add hp ((hb.mul hp hc).mono hp (by omega))).eq (by grind)
      have htr' : Dv p ((r + 1 : Nat) : Int) (a + d) := htr.mono hp (by omega)
      have one : Dv p ((r + 1 : Nat) : Int) a ∨ Dv p ((r + 1 : Nat) : Int) d := by
        by_cases a0 : a = 0
        · exact .inl (by rw [a0]; exact Dv.zero hp _)
        by_cases d0 : d = 0
        · exact .inr (by rw [d0]; exact Dv.zero hp _)
        have l := dad.le hp (fun z => (Rat.mul_eq_zero.mp z).elim a0 d0)
        rw [v_mul hp a0 d0] at l
        have l1 := h1.le hp a0
        have l2 := h2.le hp d0
        by_cases w : ((r + 1 : Nat) : Int) ≤ vQ p a
        · exact .inl (Dv.of_le hp (.inr w))
        · exact .inr (Dv.of_le hp (.inr (by omega)))
      rcases one with g | g
      · exact ⟨g, (htr'.sub hp g).eq (by grind)⟩
      · exact ⟨(htr'.sub hp g).eq (by grind), g⟩
  obtain ⟨h1, h2⟩ := main e (Nat.le_refl _)
  exact ⟨h1, h2, step e (Nat.le_refl _) h1 h2⟩
/-- what a move keeps, told by numbers -/
structure KM (p : Nat) (m : M4) (e : Nat) : Prop where
  ne : sizeM m ≠ 0
  pr : Prim p m
  sz : (vI p (sizeM m) : Int) = 2 * e
  tr : Dv p e (((trM m : Int)) : Rat)
theorem trQ (m : M4) : (((trM m : Int)) : Rat) = (m.a : Rat) + (m.d : Rat) := by unfold trM; rw [Rat.intCast_add]
theorem serre (hp : IsP p) {m k : M4} {E e : Nat} (hm : KM p m E) (hk : KM p k e) (he : e ≤ E) (hT : Dv p (E + e) ((m.a : Rat) * k.a + m.b * k.c + m.c * k.b + m.d * k.d)) : FixC p k (midQ p m E).n (midQ p m E).q e := by
  have hf := mid_fixC hp hm.ne hm.pr hm.sz hm.tr
  have hkd := (mid_kind hp hm.ne hm.pr hm.sz).1
  have dSk : Dv p (2 * e) ((sizeM k : Int) : Rat) := Dv.of_le hp (.inr (by rw [v_int]; have := hk.sz; omega))
  have hSk := size_Q k
  have htm := hm.tr.eq (trQ m).symm
  have htk := hk.tr.eq (trQ k).symm
  generalize midQ p m E = f at *
  cases hkd with
  | a =>
    replace hf : FixC p m (-(E : Int)) 0 E := hf
    show FixC p k (-(E : Int)) 0 e
    by_cases E0 : E = 0
    · have e0 : e = 0 := by omega
      subst E0 e0
      exact ⟨(((Dv.int hp k.a).cast (by omega))).eq (by grind), ((Dv.int hp k.b).cast (by omega)).eq (by grind), (Dv.int hp k.c).cast (by omega), ((Dv.int hp k.d).cast (by omega)).eq (by grind), hk.sz⟩
    · have dA : Dv p E (m.a : Rat) := hf.a11.eq (by grind)
      have dD : Dv p E (m.d : Rat) := hf.a22.eq (by grind)
      have dC : Dv p (2 * E) (m.c : Rat) := hf.a21.cast (by omega)
      have nb : ¬ (p : Int) ∣ m.b := fun pb => hm.pr ⟨dv1 hp dA (by omega), pb, dv1 hp dC (by omega), dv1 hp dD (by omega)⟩
      obtain ⟨b0, vb⟩ := nd_Q nb
      obtain ⟨r1, r2, r3⟩ := core hp (A12 := (m.b : Rat)) he dA dD dC b0 vb (Dv.int hp k.a) (Dv.int hp k.b) (Dv.int hp k.d) (dSk.eq hSk.symm) htk hT
      exact ⟨r1.eq (by grind), ((Dv.int hp k.b).mono hp (by omega)).eq (by grind), r3.cast (by omega), r2.eq (by grind), hk.sz⟩
  | b q hE h0 =>
    replace hf : FixC p m E q E := hf
    show FixC p k E q e
    have i1 := fun z : Int => Dv.int hp z
    have nc : ¬ (p : Int) ∣ m.c := fun pc => by
      have dc := dv1' hp pc
      have dqc : Dv p 1 (q * (m.c : Rat)) := (h0.mul hp dc).cast (by omega)
      have da : Dv p 1 (m.a : Rat) := ((hf.a11.mono hp (by omega)).add hp dqc).eq (by grind)
      have dd : Dv p 1 (m.d : Rat) := ((hf.a22.mono hp (by omega)).sub hp dqc).eq (by grind)
      have db : Dv p 1 (m.b : Rat) := (((hf.a12.mono hp (by omega)).sub hp ((h0.mul hp da).cast (by omega))).add hp ((h0.mul hp (hf.a22.mono hp (show (1 : Int) ≤ _ by omega))).cast (by omega))).eq (by grind)
      exact hm.pr ⟨dv1 hp da (by omega), dv1 hp db (by omega), pc, dv1 hp dd (by omega)⟩
    obtain ⟨c0, vc⟩ := nd_Q nc
    have dka : Dv p 0 ((k.c : Rat) * q + (k.d : Rat)) := (((i1 k.c).mul hp h0).cast (by omega)).add hp (i1 k.d)
    have dkd : Dv p 0 ((k.a : Rat) - q * (k.c : Rat)) := (i1 k.a).sub hp ((h0.mul hp (i1 k.c)).cast (by omega))
    obtain ⟨r1, r2, r3⟩ := core hp (A11 := (m.c : Rat) * q + (m.d : Rat)) (A12 := (m.c : Rat)) (A21 := (m.a : Rat) * q + (m.b : Rat) - q * ((m.c : Rat) * q + (m.d : Rat))) (A22 := (m.a : Rat) - q * (m.c : Rat))
      (a := (k.c : Rat) * q + (k.d : Rat)) (b := (k.c : Rat)) (c := (k.a : Rat) * q + (k.b : Rat) - q * ((k.c : Rat) * q + (k.d : Rat))) (d := (k.a : Rat) - q * (k.c : Rat)) he hf.a22 hf.a11 (hf.a12.cast (by omega)) c0 vc dka (i1 k.c) dkd (dSk.eq (by rw [hSk]; grind)) (htk.eq (by grind)) (hT.eq (by grind))
    exact ⟨r2, r3.cast (by omega), (i1 k.c).mono hp (by omega), r1, hk.sz⟩
  | c q γ g0 gE q0 hv =>
    replace hf : FixC p m ((E : Int) - 2 * γ) q E := hf
    show FixC p k ((E : Int) - 2 * γ) q e
    have i1 := fun z : Int => Dv.int hp z
    have hpg := ppow_ne hp (γ : Int)
    have dq : Dv p (-(γ : Int)) q := Dv.of_le hp (.inr (by omega))
    have dqi : Dv p γ (1 / q) := by
      have h1 : Dv p 0 (1 : Rat) := (i1 1).eq (by rw [Rat.intCast_one])
      exact (h1.div hp q0 (Int.le_of_eq hv)).cast (by omega)
    -- u = p^γ q
    have u0 : (p : Rat) ^ (γ : Int) * q ≠ 0 := fun z => (Rat.mul_eq_zero.mp z).elim hpg q0
    have vu : vQ p ((p : Rat) ^ (γ : Int) * q) = 0 := by rw [v_mul hp hpg q0, v_pow hp, hv]; omega
    have du : Dv p 0 ((p : Rat) ^ (γ : Int) * q) := Dv.of_le hp (.inr (by omega))
    have bq : ∀ z : M4, Dv p γ ((z.b : Rat) * (1 / q)) := fun z => ((i1 z.b).mul hp dqi).cast (by omega)
    have e21 : ∀ z : M4, (p : Rat) ^ (γ : Int) * ((z.c : Rat) * q + (z.d : Rat) - (z.a : Rat) - (z.b : Rat) * (1 / q)) = -((p : Rat) ^ (γ : Int) * (1 / q) * ((z.a : Rat) * q + (z.b : Rat) - q * ((z.c : Rat) * q + (z.d : Rat)))) := fun z => by
      have : q * (1 / q) = 1 := by grind
      grind
    have dA21 : Dv p (2 * E) ((p : Rat) ^ (γ : Int) * ((m.c : Rat) * q + (m.d : Rat) - (m.a : Rat) - (m.b : Rat) * (1 / q))) := by
      have d1 := ((((Dv.pow hp (γ : Int)).mul hp dqi).mul hp hf.a12).neg)
      exact (d1.cast (by omega)).eq (e21 m)
    have dA11 : Dv p E ((m.a : Rat) + (m.b : Rat) * (1 / q)) := by
      have d1 := (hf.a12.mul hp dqi).mono hp (show (E : Int) ≤ _ by omega)
      refine (d1.add hp hf.a22).eq ?_
      have : q * (1 / q) = 1 := by grind
      grind
    have dA22 : Dv p E ((m.d : Rat) - (m.b : Rat) * (1 / q)) := (htm.sub hp dA11).eq (by grind)
    have nb : ¬ (p : Int) ∣ m.b := fun pb => by
      have dd : Dv p 1 (m.d : Rat) := ((dA22.mono hp (by omega)).add hp ((bq m).mono hp (by omega))).eq (by grind)
      have da : Dv p 1 (m.a : Rat) := ((dA11.mono hp (by omega)).sub hp ((bq m).mono hp (by omega))).eq (by grind)
      have dcq : Dv p 1 ((m.c : Rat) * q) := ((hf.a22.mono hp (by omega)).sub hp dd).eq (by grind)
      have dc : Dv p 1 (m.c : Rat) := ((dcq.mul hp dqi).mono hp (by omega)).eq (by grind)
      exact hm.pr ⟨dv1 hp da (by omega), pb, dv1 hp dc (by omega), dv1 hp dd (by omega)⟩
    obtain ⟨b0, vb⟩ := nd_Q nb
    have w0 : (m.b : Rat) / ((p : Rat) ^ (γ : Int) * q) ≠ 0 := fun z => by
      rw [Rat.div_def] at z
      exact (Rat.mul_eq_zero.mp z).elim b0 (rat_inv_ne u0)
    have vw : vQ p ((m.b : Rat) / ((p : Rat) ^ (γ : Int) * q)) = 0 := by rw [v_div hp b0 u0, vb, vu]; rfl
    have k1 : Dv p 0 ((k.a : Rat) + (k.b : Rat) * (1 / q)) := (i1 k.a).add hp ((bq k).mono hp (by omega))
    have k2 : Dv p 0 ((k.b : Rat) / ((p : Rat) ^ (γ : Int) * q)) := ((i1 k.b).div hp u0 (Int.le_of_eq vu)).cast (by omega)
    have k3 : Dv p 0 ((k.d : Rat) - (k.b : Rat) * (1 / q)) := (i1 k.d).sub hp ((bq k).mono hp (by omega))
    obtain ⟨r1, r2, r3⟩ := core hp (A11 := (m.a : Rat) + (m.b : Rat) * (1 / q)) (A12 := (m.b : Rat) / ((p : Rat) ^ (γ : Int) * q)) (A21 := (p : Rat) ^ (γ : Int) * ((m.c : Rat) * q + (m.d : Rat) - (m.a : Rat) - (m.b : Rat) * (1 / q))) (A22 := (m.d : Rat) - (m.b : Rat) * (1 / q))
      (a := (k.a : Rat) + (k.b : Rat) * (1 / q)) (b := (k.b : Rat) / ((p : Rat) ^ (γ : Int) * q)) (c := (p : Rat) ^ (γ : Int) * ((k.c : Rat) * q + (k.d : Rat) - (k.a : Rat) - (k.b : Rat) * (1 / q))) (d := (k.d : Rat) - (k.b : Rat) * (1 / q)) he dA11 dA22 dA21 w0 vw k1 k2 k3 (dSk.eq (by rw [hSk]; grind)) (htk.eq (by grind)) (hT.eq (by grind))
    have d22 : Dv p e ((k.c : Rat) * q + (k.d : Rat)) := by
      have d1 : Dv p e ((k.c : Rat) * q + (k.d : Rat) - (k.a : Rat) - (k.b : Rat) * (1 / q)) := (((r3.cast (show ((E : Int) + e - γ) + γ = _ by omega)).eq (by grind)).scale hp (k := γ)).mono hp (by omega)
      exact (d1.add hp r1).eq (by grind)
    refine ⟨?_, ?_, ?_, d22, hk.sz⟩
    · exact (htk.sub hp d22).eq (by grind)
    · have d1 : Dv p ((E : Int) + e - γ) ((k.c : Rat) * q + (k.d : Rat) - (k.a : Rat) - (k.b : Rat) * (1 / q)) := ((r3.cast (show ((E : Int) + e - γ) + γ = _ by omega)).eq (by grind)).scale hp (k := γ)
      refine ((dq.mul hp d1).neg.cast (by omega)).eq ?_
      have : q * (1 / q) = 1 := by grind
      grind
    · -- the lower left number
      by_cases l : γ ≤ e
      · have dd : Dv p γ (k.d : Rat) := ((r2.mono hp (by omega)).add hp (bq k)).eq (by grind)
        have dcq : Dv p γ ((k.c : Rat) * q) := ((d22.mono hp (by omega)).sub hp dd).eq (by grind)
        exact ((dcq.mul hp dqi).mono hp (by omega)).eq (by grind)
      · have dd : Dv p e (k.d : Rat) := (r2.add hp ((bq k).mono hp (by omega))).eq (by grind)
        have dcq : Dv p e ((k.c : Rat) * q) := (d22.sub hp dd).eq (by grind)
        exact ((dcq.mul hp dqi).mono hp (by omega)).eq (by grind)
end
end Bm
namespace Bm
section
variable {p : Nat}
/-! ### nothing barred: the farthest gate is kept by all -/
theorem keepsL_get (hp : IsP p) {m : M4} (h : keepsL p m = true) : ∃ e : Nat, (vI p (sizeM m) : Int) = 2 * e ∧ Dv p e (((trM m : Int)) : Rat) := by
  unfold keepsL at h
  rw [Bool.and_eq_true] at h
  have h1 := of_decide_eq_true h.1
  have h2 := of_decide_eq_true h.2
  have hs : (vI p (sizeM m) : Int) = 2 * ((vI p (sizeM m) / 2 : Nat) : Int) := by omega
  exact ⟨vI p (sizeM m) / 2, hs, stretch0 hp hs h1⟩
theorem km_of (hp : IsP p) {m : M4} (hg : gcd4 m = 1) (sm : sizeM m ≠ 0) (h : keepsL p m = true) : ∃ e, KM p m e := by
  obtain ⟨e, h1, h2⟩ := keepsL_get hp h
  exact ⟨e, sm, prim_of hp hg, h1, h2⟩
theorem KM.uniq {m : M4} {e f : Nat} (h : KM p m e) (g : KM p m f) : e = f := by
  have := h.sz; have := g.sz; omega
theorem vI_mul (hp : IsP p) {x y : Int} (hx : x ≠ 0) (hy : y ≠ 0) : vI p (x * y) = vI p x + vI p y := by
  have h := v_mul hp (x := (x : Rat)) (y := (y : Rat)) (fun z => hx (Rat.intCast_eq_zero_iff.mp z)) (fun z => hy (Rat.intCast_eq_zero_iff.mp z))
  rw [← Rat.intCast_mul, v_int, v_int, v_int] at h
  omega
theorem prod_tr (hp : IsP p) {m k : M4} {E e : Nat} (hm : KM p m E) (hk : KM p k e) (h : keepsL p (afterM m k) = true) : Dv p (E + e) ((m.a : Rat) * k.a + m.b * k.c + m.c * k.b + m.d * k.d) := by
  obtain ⟨f, h1, h2⟩ := keepsL_get hp h
  have sA : sizeM (mulM m k) ≠ 0 := by rw [size_mul]; exact Int.mul_ne_zero hm.ne hk.ne
  have hf := first_ne sA
  have g0 := formG_ne hf
  have sz := size_form hf
  have sF := size_form_ne sA
  have h1' : (vI p (sizeM (formM (mulM m k))) : Int) = 2 * f := h1
  have h2' : Dv p f (((trM (formM (mulM m k)) : Int)) : Rat) := h2
  have v1 : vI p (sizeM (mulM m k)) = vI p (formG (mulM m k)) + vI p (formG (mulM m k)) + vI p (sizeM (formM (mulM m k))) := by
    rw [sz, vI_mul hp (Int.mul_ne_zero g0 g0) sF, vI_mul hp g0 g0]
  have v2 : vI p (sizeM (mulM m k)) = vI p (sizeM m) + vI p (sizeM k) := by rw [size_mul, vI_mul hp hm.ne hk.ne]
  have := hm.sz
  have := hk.sz
  have dg : Dv p (vI p (formG (mulM m k)) : Int) ((formG (mulM m k) : Int) : Rat) := Dv.of_le hp (.inr (by rw [v_int]; omega))
  have d0 := dg.mul hp h2'
  have dT : Dv p ((E : Int) + e) (((formG (mulM m k) : Int) : Rat) * ((trM (formM (mulM m k)) : Int) : Rat)) := Dv.cast d0 (by omega)
  refine dT.eq ?_
  obtain ⟨ea, _, _, ed⟩ := form_mul hf
  have et : trM (mulM m k) = formG (mulM m k) * trM (formM (mulM m k)) := by
    unfold trM
    rw [Int.mul_add, ← ea, ← ed]
  have et' : ((trM (mulM m k) : Int) : Rat) = ((formG (mulM m k) : Int) : Rat) * ((trM (formM (mulM m k)) : Int) : Rat) := by rw [et, Rat.intCast_mul]
  rw [← et']
  show _ = ((m.a * k.a + m.b * k.c + (m.c * k.b + m.d * k.d) : Int) : Rat)
  rw [Rat.intCast_add, Rat.intCast_add, Rat.intCast_add, Rat.intCast_mul, Rat.intCast_mul, Rat.intCast_mul, Rat.intCast_mul]
  grind
def AtGate (p : Nat) (all : List M4) (f : Bq) : Prop := f = start0 ∨ ∃ m ∈ all, ∃ E, KM p m E ∧ f = midQ p m E
theorem far_inv (hp : IsP p) (all : List M4) (hk : ∀ m ∈ all, ∃ e, KM p m e) : ∀ (ms : List M4), (∀ m ∈ ms, m ∈ all) → ∀ f, AtGate p all f →
    AtGate p all (ms.foldl (farL p) f) ∧ stepsQ p start0 f ≤ stepsQ p start0 (ms.foldl (farL p) f) ∧ ∀ m ∈ ms, ∀ e, KM p m e → (e : Int) ≤ stepsQ p start0 (ms.foldl (farL p) f)
  | [], _, f, hf => ⟨hf, Int.le_refl _, fun _ h => absurd h List.not_mem_nil⟩
  | m :: r, hs, f, hf => by
    obtain ⟨e, km⟩ := hk m (hs m List.mem_cons_self)
    have eg : gateL p m = midQ p m e := gate_mid hp km.ne km.pr km.sz
    have es : stepsQ p start0 (midQ p m e) = e := (mid_kind hp km.ne km.pr km.sz).2
    have hf' : AtGate p all (farL p f m) := by
      unfold farL
      split
      · exact .inr ⟨m, hs m List.mem_cons_self, e, km, eg⟩
      · exact hf
    have l1 : stepsQ p start0 f ≤ stepsQ p start0 (farL p f m) ∧ (e : Int) ≤ stepsQ p start0 (farL p f m) := by
      unfold farL
      rw [eg]
      split <;> omega
    obtain ⟨h1, h2, h3⟩ := far_inv hp all hk r (fun k h => hs k (List.mem_cons_of_mem _ h)) (farL p f m) hf'
    refine ⟨h1, Int.le_trans l1.1 h2, fun k h e' km' => ?_⟩
    rcases List.mem_cons.mp h with g | g
    · subst g
      rw [km'.uniq km]
      exact Int.le_trans l1.2 h2
    · exact h3 k g e' km'
theorem steps_start : stepsQ p start0 start0 = 0 := by
  unfold stepsQ topQ
  rw [if_pos (by show (0 : Rat) - 0 = 0; grind)]
  rfl
theorem fix_start (hp : IsP p) {k : M4} (hk : KM p k 0) : FixC p k start0.n start0.q 0 := by
  show FixC p k 0 0 0
  exact ⟨(((Dv.int hp k.a).cast (by omega))).eq (by grind), ((Dv.int hp k.b).cast (by omega)).eq (by grind), (Dv.int hp k.c).cast (by omega), ((Dv.int hp k.d).cast (by omega)).eq (by grind), hk.sz⟩
structure Gd (ms : List M4) : Prop where
  g : ∀ m ∈ ms, gcd4 m = 1
  s : ∀ m ∈ ms, sizeM m ≠ 0
theorem getD_get {ms : List M4} {i : Nat} (h : i < ms.length) : ms.getD i idM = ms[i] := by simp [List.getD, List.getElem?_eq_getElem h]
theorem far_fix (hp : IsP p) {ms : List M4} (G : Gd ms) (h1 : ∀ m ∈ ms, keepsL p m = true) (h2 : ∀ i j, i < j → j < ms.length → keepsL p (afterM (ms.getD i idM) (ms.getD j idM)) = true) :
    AtGate p ms (ms.foldl (farL p) start0) ∧ ∀ k ∈ ms, ledQ p k (ms.foldl (farL p) start0) = ms.foldl (farL p) start0 := by
  have hk : ∀ m ∈ ms, ∃ e, KM p m e := fun m h => km_of hp (G.g m h) (G.s m h) (h1 m h)
  obtain ⟨a1, a2, a3⟩ := far_inv hp ms hk ms (fun _ h => h) start0 (.inl rfl)
  refine ⟨a1, fun k hkm => ?_⟩
  generalize ms.foldl (farL p) start0 = f at *
  obtain ⟨e, kk⟩ := hk k hkm
  have l := a3 k hkm e kk
  rcases a1 with g | ⟨m, hm, E, km, g⟩
  · subst g
    rw [steps_start] at l
    have e0 : e = 0 := by omega
    subst e0
    exact fix_led hp kk.ne (canB_start hp) (fix_start hp kk)
  · subst g
    rw [(mid_kind hp km.ne km.pr km.sz).2] at l
    obtain ⟨i, hi, ei⟩ := List.getElem_of_mem hm
    obtain ⟨j, hj, ej⟩ := List.getElem_of_mem hkm
    have hT : i ≠ j → Dv p (E + e) ((m.a : Rat) * k.a + m.b * k.c + m.c * k.b + m.d * k.d) := fun ne => by
      rcases Nat.lt_or_gt_of_ne ne with w | w
      · have := h2 i j w hj
        rw [getD_get hi, getD_get hj, ei, ej] at this
        exact prod_tr hp km kk this
      · have := h2 j i w hi
        rw [getD_get hi, getD_get hj, ei, ej] at this
        exact ((prod_tr hp kk km this).cast (by omega)).eq (by grind)
    by_cases ne : i = j
    · subst ne
      have : m = k := by rw [← ei, ← ej]
      subst this
      exact fix_led hp km.ne (canB_mid hp m E) (mid_fixC hp km.ne km.pr km.sz km.tr)
    · exact fix_led hp kk.ne (canB_mid hp m E) (serre hp km kk (by omega) (hT ne))
theorem near_get {ms : List M4} {s : Bq} (h : nearL p ms = some s) : s = ms.foldl (farL p) start0 ∧ (∀ m ∈ ms, keepsL p m = true) ∧ ∀ m ∈ ms, ledQ p m s = s := by
  unfold nearL at h
  split at h
  · rename_i h1
    split at h
    · rename_i h2
      have e : ms.foldl (farL p) start0 = s := Option.some.inj h
      refine ⟨e.symm, fun m hm => List.all_eq_true.mp h1 m hm, fun m hm => ?_⟩
      have := of_decide_eq_true (List.all_eq_true.mp h2 m hm)
      rwa [e] at this
    · exact absurd h (by simp)
  · exact absurd h (by simp)
/-- a word that bars: one letter, or two -/
inductive Bars (p : Nat) (ms : List M4) : Wd → Prop
  | one (k : Nat) (hk : k < ms.length) (h : keepsL p (ms.getD k idM) = false) : Bars p ms [((k : Int), 1)]
  | two (i j : Nat) (hi : i < j) (hj : j < ms.length) (h : keepsL p (afterM (ms.getD i idM) (ms.getD j idM)) = false) : Bars p ms [((i : Int), 1), ((j : Int), 1)]
theorem bar_get (hp : IsP p) {ms : List M4} (G : Gd ms) (h : nearL p ms = none) : ∃ w, barL p ms = some w ∧ Bars p ms w := by
  unfold barL
  cases h1 : (List.range ms.length).find? (fun k => !keepsL p (ms.getD k idM)) with
  | some k =>
    have hk := List.mem_range.mp (List.mem_of_find?_eq_some h1)
    have hn := List.find?_some h1
    exact ⟨_, rfl, .one k hk (by simpa using hn)⟩
  | none =>
    have a1 : ∀ m ∈ ms, keepsL p m = true := fun m hm => by
      obtain ⟨i, hi, ei⟩ := List.getElem_of_mem hm
      have := List.find?_eq_none.mp h1 i (List.mem_range.mpr hi)
      rw [getD_get hi, ei] at this
      simpa using this
    cases h2 : outerAt p ms with
    | some i =>
      have hn := List.find?_some h2
      have hi := List.mem_range.mp (List.mem_of_find?_eq_some h2)
      obtain ⟨j, hj⟩ := Option.isSome_iff_exists.mp hn
      have hjr := List.mem_range.mp (List.mem_of_find?_eq_some hj)
      have hjn := List.find?_some hj
      simp only [hj]
      refine ⟨_, rfl, .two i (i + 1 + j) (by omega) (by omega) (by simpa using hjn)⟩
    | none =>
      exfalso
      have a2 : ∀ i j, i < j → j < ms.length → keepsL p (afterM (ms.getD i idM) (ms.getD j idM)) = true := fun i j hij hj => by
        have h3 := List.find?_eq_none.mp h2 i (List.mem_range.mpr (by omega))
        have h4 : innerAt p ms i = none := by simpa using h3
        have h5 := List.find?_eq_none.mp h4 (j - (i + 1)) (List.mem_range.mpr (by omega))
        rw [show i + 1 + (j - (i + 1)) = j by omega] at h5
        simpa using h5
      obtain ⟨_, f⟩ := far_fix hp G a1 a2
      unfold nearL at h
      rw [if_pos (List.all_eq_true.mpr a1), if_pos (List.all_eq_true.mpr fun m hm => decide_eq_true (f m hm))] at h
      exact absurd h (by simp)
end
end Bm
namespace Bm
section
variable {p : Nat}
/-! ### the spots are small, and stand on powers of the prime -/
theorem can_eq (hp : IsP p) {n : Int} {q : Rat} {k : Nat} {z : Int} (h : q * (p : Rat) ^ (k : Int) = (z : Rat)) : q.num * (p : Int) ^ k = z * (q.den : Int) := by
  have h1 := mul_den q
  have h2 : ((q.num * (p : Int) ^ k : Int) : Rat) = ((z * (q.den : Int) : Int) : Rat) := by
    rw [Rat.intCast_mul, Rat.intCast_mul, ← h1, ← h, Rat.zpow_natCast, Rat.intCast_pow]
    show q * ((q.den : Nat) : Rat) * (p : Rat) ^ k = q * (p : Rat) ^ k * ((q.den : Nat) : Rat)
    grind
  exact Rat.intCast_inj.mp h2
theorem den_pow (hp : IsP p) {q : Rat} {k : Nat} {z : Int} (h : q.num * (p : Int) ^ k = z * (q.den : Int)) : q.den = p ^ vN p q.den := by
  have d1 : q.den ∣ q.num.natAbs * p ^ k := by
    have : (q.num * (p : Int) ^ k).natAbs = (z * (q.den : Int)).natAbs := by rw [h]
    rw [Int.natAbs_mul, Int.natAbs_mul, natAbs_ppow] at this
    rw [this]
    exact Nat.dvd_mul_left _ _
  have d2 : q.den ∣ p ^ k := Nat.Coprime.dvd_of_dvd_mul_left q.reduced.symm d1
  obtain ⟨u, e, nu, u0⟩ := den_split hp q
  have d3 : u ∣ p ^ k := Nat.dvd_trans ⟨p ^ vN p q.den, by rw [Nat.mul_comm]; exact e⟩ d2
  have c := cop_pow hp nu k
  have u1 : u = 1 := Nat.Coprime.eq_one_of_dvd c d3
  rw [u1, Nat.mul_one] at e
  exact e
theorem low_of_dv (hp : IsP p) {q : Rat} {E : Nat} (h : Dv p (-(E : Int)) q) : vN p q.den ≤ E := by
  by_cases q0 : q = 0
  · have : q.den = 1 := by rw [q0]; rfl
    rw [this, vN_one]; omega
  · have l := h.le hp q0
    by_cases d : p ∣ q.den
    · have nn : ¬ p ∣ q.num.natAbs := fun z => by
        have := Nat.dvd_gcd z d
        rw [q.reduced] at this
        have := Nat.le_of_dvd (by omega) this
        have := hp.two
        omega
      have e : vQ p q = ((vN p q.num.natAbs : Nat) : Int) - (vN p q.den : Int) := rfl
      rw [vN_no nn] at e
      omega
    · rw [vN_no d]; omega
theorem spot_of (hp : IsP p) {β : Bq} {E : Nat} (hc : CanB p β) (hn : β.n.natAbs ≤ E) (hd : Dv p (-(E : Int)) β.q) (hb : B 60 ((p : Int) ^ (2 * E))) : SpotOk p β := by
  obtain ⟨k, z, k0, e, z0, z1⟩ := hc
  have e' := can_eq hp (n := β.n) e
  have ed := den_pow hp e'
  have ld := low_of_dv hp hd
  have pp : 0 < p := by have := hp.two; omega
  have bp : ∀ {j : Nat}, j ≤ 2 * E → B 60 ((p : Int) ^ j) := fun {j} l => hb.le (by
    rw [natAbs_ppow, natAbs_ppow]
    exact Nat.pow_le_pow_right pp l)
  refine ⟨hp, ⟨bp (by omega), ?_, ?_⟩, ?_⟩
  · rw [ed, Int.natCast_pow]
    exact bp (by omega)
  · -- the number above
    have hz : z.natAbs < p ^ (β.n + k).toNat := by
      have : (z.natAbs : Int) < ((p ^ (β.n + k).toNat : Nat) : Int) := by
        rw [Int.natCast_pow]; omega
      exact Int.ofNat_lt.mp this
    have ea : β.q.num.natAbs * p ^ k = z.natAbs * β.q.den := by
      have : (β.q.num * (p : Int) ^ k).natAbs = (z * (β.q.den : Int)).natAbs := by rw [e']
      rw [Int.natAbs_mul, Int.natAbs_mul, natAbs_ppow] at this
      exact this
    have l1 : z.natAbs * β.q.den < p ^ (β.n + k).toNat * p ^ vN p β.q.den := by
      rw [← ed]
      exact Nat.mul_lt_mul_of_pos_right hz β.q.den_pos
    have l2 : p ^ (β.n + k).toNat * p ^ vN p β.q.den ≤ p ^ (2 * E) * p ^ k := by
      rw [← Nat.pow_add, ← Nat.pow_add]
      exact Nat.pow_le_pow_right pp (by omega)
    have l3 : β.q.num.natAbs * p ^ k < p ^ (2 * E) * p ^ k := by omega
    have l4 : β.q.num.natAbs < p ^ (2 * E) := Nat.lt_of_mul_lt_mul_right l3
    have hb' : p ^ (2 * E) < 2 ^ 60 := by
      have : ((p : Int) ^ (2 * E)).natAbs < 2 ^ 60 := hb
      rwa [natAbs_ppow] at this
    have h120 : (2 : Nat) ^ 60 ≤ 2 ^ (60 + 60) := Nat.pow_le_pow_right (by omega) (by omega)
    show β.q.num.natAbs < 2 ^ (60 + 60)
    omega
  · exact_mod_cast ed
theorem near_spot (hp : IsP p) {ms : List M4} {s : Bq} (G : Gd ms) (hb : ∀ m ∈ ms, MB 25 m) (h : nearL p ms = some s) : SpotOk p s := by
  obtain ⟨e, h1, _⟩ := near_get h
  have hk : ∀ m ∈ ms, ∃ e, KM p m e := fun m h => km_of hp (G.g m h) (G.s m h) (h1 m h)
  obtain ⟨a1, _, _⟩ := far_inv hp ms hk ms (fun _ h => h) start0 (.inl rfl)
  rw [← e] at a1
  rcases a1 with g | ⟨m, hm, E, km, g⟩
  · subst g
    exact spot_of hp (E := 0) (canB_start hp) (Nat.le_refl 0) (Dv.zero hp _) (by show ((p : Int) ^ 0).natAbs < 2 ^ 60; rw [Int.pow_zero]; decide)
  · subst g
    have hB : B 60 ((p : Int) ^ (2 * E)) := by
      have d : Dv p ((2 * E : Nat) : Int) ((sizeM m : Int) : Rat) := Dv.of_le hp (.inr (by rw [v_int]; have := km.sz; omega))
      exact ((hb m hm).size.mono (by omega)).dvd km.ne (d.dvd hp)
    have kd := (mid_kind hp km.ne km.pr km.sz).1
    have cb := canB_mid hp m E
    generalize midQ p m E = f at *
    cases kd with
    | a => exact spot_of hp cb (show (-(E : Int)).natAbs ≤ E by omega) (Dv.zero hp _) hB
    | b q hE h0 => exact spot_of hp cb (show ((E : Int)).natAbs ≤ E by omega) (h0.mono hp (by omega)) hB
    | c q γ g0 gE q0 hv => exact spot_of hp cb (show ((E : Int) - 2 * γ).natAbs ≤ E by omega) (Dv.of_le hp (.inr (by show -(E : Int) ≤ vQ p q; omega))) hB
end
end Bm
/-! Data over the hand layer: what a value stands for, and judgements that say which datum an expression or a statement gives. -/
namespace G
open PySem PySem.Spec PyProof.Rows L2
abbrev Dt := PyData

/-! ### a value stands for a datum in an unchanging part of the heap -/
mutual
inductive Rp (K : PySem.W.Frag) (H : Hp) : V → PyData → Prop
  | non : Rp K H .non .none
  | bl (b : Bool) : Rp K H (.bl b) (.bool b)
  | int (i : Int) : Rp K H (.int i) (.int i)
  | str (x : Str) : Rp K H (.str x) (.str x)
  | lst {a : Addr} {vs : List V} {ds : List PyData} : H a = some (.lst vs) → RpAll K H vs ds → Rp K H (.ref a) (.list ds)
  | tup {a : Addr} {vs : List V} {ds : List PyData} : SqT K H a vs → RpAll K H vs ds → Rp K H (.ref a) (.tuple ds)
  | emp {a : Addr} : H a = some (.dK []) → Rp K H (.ref a) (.dict [])
inductive RpAll (K : PySem.W.Frag) (H : Hp) : List V → List PyData → Prop
  | nil : RpAll K H [] []
  | cons {v : V} {vs : List V} {d : PyData} {ds : List PyData} : Rp K H v d → RpAll K H vs ds → RpAll K H (v :: vs) (d :: ds)
end
def Ex (H H' : Hp) : Prop := ∀ a o, H a = some o → H' a = some o
theorem Ex.rfl' {H : Hp} : Ex H H := fun _ _ h => h
theorem Ex.trans {H H1 H2 : Hp} (a : Ex H H1) (b : Ex H1 H2) : Ex H H2 := fun x o h => b x o (a x o h)
theorem Ex.new {H : Hp} {p : Addr} {o : HO} (h : H p = none) : Ex H (upd H p o) := fun a u e => by
  rw [upd_ne (ne_of_none e h)]; exact e
theorem Ex.tup {K : PySem.W.Frag} {H H' : Hp} {a : Addr} {vs : List V} (e : Ex H H') (h : SqT K H a vs) : SqT K H' a vs := by
  rcases h with h | h
  · rcases h with h | ⟨o, h⟩
    · exact .inl (.inl (e _ _ h))
    · exact .inl (.inr ⟨o, e _ _ h⟩)
  · exact .inr h
theorem Ex.sql {K : PySem.W.Frag} {H H' : Hp} {a : Addr} {vs : List V} (e : Ex H H') (h : SqL K H a vs) : SqL K H' a vs := by
  rcases h with h | h
  · rcases h with h | ⟨o, h⟩
    · exact .inl (.inl (e _ _ h))
    · exact .inl (.inr ⟨o, e _ _ h⟩)
  · exact .inr h
mutual
theorem Rp.mono {K : PySem.W.Frag} {H H' : Hp} (e : Ex H H') : ∀ {d : PyData} {v : V}, Rp K H v d → Rp K H' v d
  | _, _, .non => .non
  | _, _, .bl b => .bl b
  | _, _, .int i => .int i
  | _, _, .str x => .str x
  | _, _, .lst h hs => .lst (e _ _ h) (RpAll.mono e hs)
  | _, _, .tup h hs => .tup (e.tup h) (RpAll.mono e hs)
  | _, _, .emp h => .emp (e _ _ h)
theorem RpAll.mono {K : PySem.W.Frag} {H H' : Hp} (e : Ex H H') : ∀ {ds : List PyData} {vs : List V}, RpAll K H vs ds → RpAll K H' vs ds
  | _, _, .nil => .nil
  | _, _, .cons h hs => .cons (Rp.mono e h) (RpAll.mono e hs)
end
theorem RpAll.len {K : PySem.W.Frag} {H : Hp} : ∀ {vs : List V} {ds : List PyData}, RpAll K H vs ds → vs.length = ds.length
  | _, _, .nil => rfl
  | _, _, .cons _ t => congrArg Nat.succ t.len
theorem RpAll.get {K : PySem.W.Frag} {H : Hp} : ∀ {vs : List V} {ds : List PyData} {i : Nat} {d : PyData}, RpAll K H vs ds → ds[i]? = some d → ∃ v, vs[i]? = some v ∧ Rp K H v d
  | _, _, _, _, .nil, e => by simp at e
  | _, _, 0, _, .cons r _, e => by simp at e; subst e; exact ⟨_, rfl, r⟩
  | _, _, i + 1, d, .cons _ t, e => by
    obtain ⟨v, h1, h2⟩ := RpAll.get (i := i) (d := d) t (by simpa using e)
    exact ⟨v, by simpa using h1, h2⟩
theorem RpAll.getV {K : PySem.W.Frag} {H : Hp} : ∀ {vs : List V} {ds : List PyData} {i : Nat} {v : V}, RpAll K H vs ds → vs[i]? = some v → ∃ d, ds[i]? = some d ∧ Rp K H v d
  | _, _, _, _, .nil, e => by simp at e
  | _, _, 0, _, .cons r _, e => by simp at e; subst e; exact ⟨_, rfl, r⟩
  | _, _, i + 1, d, .cons _ t, e => by
    obtain ⟨v, h1, h2⟩ := RpAll.getV (i := i) (v := d) t (by simpa using e)
    exact ⟨v, by simpa using h1, h2⟩
theorem RpAll.app {K : PySem.W.Frag} {H : Hp} : ∀ {vs ws : List V} {ds es : List PyData}, RpAll K H vs ds → RpAll K H ws es → RpAll K H (vs ++ ws) (ds ++ es)
  | _, _, _, _, .nil, s => s
  | _, _, _, _, .cons r t, s => .cons r (RpAll.app t s)
theorem RpAll.ints {K : PySem.W.Frag} {H : Hp} : ∀ {ns : List Int} {vs : List V}, RpAll K H vs (ns.map PyData.int) → vs = ns.map V.int
  | [], _, h => by cases h; rfl
  | n :: ns, _, h => by
    cases h with
    | cons a b => cases a; rw [RpAll.ints b]; rfl
theorem RpAll.ofInts {K : PySem.W.Frag} {H : Hp} : ∀ (ns : List Int), RpAll K H (ns.map V.int) (ns.map PyData.int)
  | [] => .nil
  | n :: ns => .cons (.int n) (RpAll.ofInts ns)
theorem RpAll.bools {K : PySem.W.Frag} {H : Hp} : ∀ {ns : List Bool} {vs : List V}, RpAll K H vs (ns.map PyData.bool) → vs = ns.map V.bl
  | [], _, h => by cases h; rfl
  | n :: ns, _, h => by
    cases h with
    | cons a b => cases a; rw [RpAll.bools b]; rfl

/-! ### the state of a frame -/
structure Src where
  cells : List Int
  left : Int
  mixed : Int
  turn : Int
structure MS where
  own : Option (List PyData) := none
  src : Option Src := none
structure Ad where
  o : Addr
  p : Addr
  q : Addr
inductive Sl where
  | no | dat (d : PyData) | own | src | cel | scr (ns : List Int)
abbrev Rho := List Sl
def slOk (K : PySem.W.Frag) (Hi : Hp) (a : Ad) (σ : L2.St) (i : Nat) : Sl → Prop
  | .no => True
  | .dat d => ∃ v, σ[i]? = some (some v) ∧ Rp K Hi v d
  | .own => σ[i]? = some (some (.ref a.o))
  | .src => σ[i]? = some (some (.ref a.p))
  | .cel => σ[i]? = some (some (.ref a.q))
  | .scr ns => ∃ l, σ[i]? = some (some (.ref l)) ∧ SqL K Hi l (ns.map V.int)
def srcKv (q : Addr) (s : Src) : List (Key × V) := [(.inr "cells", .ref q), (.inr "left", .int s.left), (.inr "mixed", .int s.mixed), (.inr "turn", .int s.turn)]
structure Ok (K : PySem.W.Frag) (Hi : Hp) (a : Ad) (σ : L2.St) (H : Hp) (ρ : Rho) (S : MS) : Prop where
  ex : Ex Hi H
  len : ρ.length = σ.length
  sl : ∀ i x, ρ[i]? = some x → slOk K Hi a σ i x
  own : ∀ ds, S.own = some ds → Hi a.o = none ∧ ∃ vs, H a.o = some (.lst vs) ∧ RpAll K Hi vs ds
  src : ∀ s, S.src = some s → Hi a.p = none ∧ Hi a.q = none ∧ H a.p = some (.dK (srcKv a.q s)) ∧ H a.q = some (.lst (s.cells.map V.int))
  apart : S.own.isSome = true → S.src.isSome = true → a.o ≠ a.q
/-- what a step may write -/
def mutd (S : MS) (a : Ad) (b : Addr) : Prop := (S.own.isSome = true ∧ b = a.o) ∨ (S.src.isSome = true ∧ (b = a.p ∨ b = a.q))
structure Stp (S : MS) (a : Ad) (H H' Hi Hi' : Hp) : Prop where
  keep : ∀ b u, H b = some u → ¬ mutd S a b → H' b = some u
  there : ∀ b, H b ≠ none → H' b ≠ none
  exi : Ex Hi Hi'
  new : ∀ b, H b ≠ none → ¬ mutd S a b → Hi' b ≠ none → Hi b ≠ none
/-- objects are laid, none is changed -/
structure PSt (H H' Hi Hi' : Hp) : Prop where
  ex : Ex H H'
  exi : Ex Hi Hi'
  exh : Ex Hi' H'
  new : ∀ b, H b ≠ none → Hi' b ≠ none → Hi b ≠ none
theorem PSt.refl {H Hi : Hp} (e : Ex Hi H) : PSt H H Hi Hi := ⟨Ex.rfl', Ex.rfl', e, fun _ _ z => z⟩
theorem ex_there {H H' : Hp} (e : Ex H H') (b : Addr) (h : H b ≠ none) : H' b ≠ none := by
  cases q : H b with
  | none => exact absurd q h
  | some u => rw [e b u q]; exact fun z => by cases z
theorem PSt.trans {H H1 H2 Hi Hi1 Hi2 : Hp} (a : PSt H H1 Hi Hi1) (b : PSt H1 H2 Hi1 Hi2) : PSt H H2 Hi Hi2 :=
  ⟨a.ex.trans b.ex, a.exi.trans b.exi, b.exh, fun c h1 h2 => a.new c h1 (b.new c (ex_there a.ex c h1) h2)⟩
theorem PSt.lay {H Hi : Hp} {p : Addr} {o : HO} (e : Ex Hi H) (h : H p = none) : PSt H (upd H p o) Hi (upd Hi p o) := by
  have hi : Hi p = none := by
    cases q : Hi p with
    | none => rfl
    | some u => rw [e p u q] at h; cases h
  refine ⟨Ex.new h, Ex.new hi, fun b u q => ?_, fun b h1 h2 => ?_⟩
  · by_cases hb : b = p
    · subst hb; rw [upd_same] at q ⊢; exact q
    · rw [upd_ne hb] at q ⊢; exact e b u q
  · by_cases hb : b = p
    · subst hb; exact absurd h h1
    · rw [upd_ne hb] at h2; exact h2
/-- laid, but not told -/
theorem PSt.lay0 {H Hi : Hp} {p : Addr} {o : HO} (e : Ex Hi H) (h : H p = none) : PSt H (upd H p o) Hi Hi :=
  ⟨Ex.new h, Ex.rfl', e.trans (Ex.new h), fun _ _ z => z⟩
section
variable {K : PySem.W.Frag} {Hi Hi' H H' : Hp} {a : Ad} {σ : L2.St} {ρ : Rho} {S S' : MS}
theorem slOk.mono (e : Ex Hi Hi') {i : Nat} {x : Sl} (h : slOk K Hi a σ i x) : slOk K Hi' a σ i x := by
  cases x with
  | no => trivial
  | dat d => obtain ⟨v, h1, h2⟩ := h; exact ⟨v, h1, h2.mono e⟩
  | own => exact h
  | src => exact h
  | cel => exact h
  | scr ns => obtain ⟨l, h1, h2⟩ := h; exact ⟨l, h1, e.sql h2⟩
theorem none_pure (p : PSt H H' Hi Hi') {b : Addr} (h : H b ≠ none) (n : Hi b = none) : Hi' b = none := by
  cases q : Hi' b with
  | none => rfl
  | some u => exact absurd n (p.new b h (by rw [q]; exact fun z => by cases z))
theorem Ok.pure (k : Ok K Hi a σ H ρ S) (p : PSt H H' Hi Hi') : Ok K Hi' a σ H' ρ S where
  ex := p.exh
  len := k.len
  sl := fun i x e => (k.sl i x e).mono p.exi
  own := fun ds e => by
    obtain ⟨h1, vs, h2, h3⟩ := k.own ds e
    exact ⟨none_pure p (by rw [h2]; exact fun z => by cases z) h1, vs, p.ex _ _ h2, h3.mono p.exi⟩
  src := fun s e => by
    obtain ⟨h1, h2, h3, h4⟩ := k.src s e
    exact ⟨none_pure p (by rw [h3]; exact fun z => by cases z) h1, none_pure p (by rw [h4]; exact fun z => by cases z) h2, p.ex _ _ h3, p.ex _ _ h4⟩
  apart := k.apart
theorem PSt.stp (p : PSt H H' Hi Hi') : Stp S a H H' Hi Hi' := ⟨fun b u e _ => p.ex b u e, fun b h => ex_there p.ex b h, p.exi, fun b h1 _ h2 => p.new b h1 h2⟩
theorem Stp.refl : Stp S a H H Hi Hi := ⟨fun _ _ e _ => e, fun _ h => h, Ex.rfl', fun _ _ _ z => z⟩
end
/-- the two states have the same parts -/
def Like (S S' : MS) : Prop := S'.own = S.own ∧ S'.src.isSome = S.src.isSome
theorem Like.rfl' {S : MS} : Like S S := ⟨rfl, rfl⟩
theorem Like.trans {S S1 S2 : MS} (a : Like S S1) (b : Like S1 S2) : Like S S2 := ⟨b.1.trans a.1, b.2.trans a.2⟩
theorem Like.mutd {S S' : MS} (e : Like S S') (a : Ad) (b : Addr) : mutd S' a b = mutd S a b := by
  unfold G.mutd; rw [e.1, e.2]
theorem Stp.trans {S S1 : MS} {a : Ad} {H H1 H2 Hi Hi1 Hi2 : Hp} (l : Like S S1) (x : Stp S a H H1 Hi Hi1) (y : Stp S1 a H1 H2 Hi1 Hi2) : Stp S a H H2 Hi Hi2 :=
  ⟨fun b u e n => y.keep b u (x.keep b u e n) (by rw [l.mutd]; exact n), fun b h => y.there b (x.there b h), x.exi.trans y.exi,
    fun b h1 n h2 => x.new b h1 n (y.new b (x.there b h1) (by rw [l.mutd]; exact n) h2)⟩

/-! ### judgements -/
def tD (K : PySem.W.Frag) (ρ : Rho) (S : MS) (d : PyData) (S' : MS) : TE := fun σ H Q =>
  ∃ Hi a, Ok K Hi a σ H ρ S ∧ ∀ v H' Hi', Stp S a H H' Hi Hi' → Ok K Hi' a σ H' ρ S' → Rp K Hi' v d → Q v H'
def tDT (K : PySem.W.Frag) (ρ : Rho) (S : MS) (b : Bool) (S' : MS) : TT := fun σ H Q =>
  ∃ Hi a, Ok K Hi a σ H ρ S ∧ ∀ H' Hi', Stp S a H H' Hi Hi' → Ok K Hi' a σ H' ρ S' → Q b H'
def tDA (K : PySem.W.Frag) (ρ : Rho) (S : MS) (ds : List PyData) (S' : MS) : TA := fun σ H Q =>
  ∃ Hi a, Ok K Hi a σ H ρ S ∧ ∀ vs H' Hi', Stp S a H H' Hi Hi' → Ok K Hi' a σ H' ρ S' → RpAll K Hi' vs ds → Q vs H'
structure DE (X : Cx) (ρ : Rho) (S : MS) (e : Expr) (d : PyData) (S' : MS) : Prop where
  like : Like S S'
  pe : PE X e (tD X.K ρ S d S')
structure DT (X : Cx) (ρ : Rho) (S : MS) (e : Expr) (b : Bool) (S' : MS) : Prop where
  like : Like S S'
  pt : PT X e (tDT X.K ρ S b S')
structure DW (X : Cx) (ρ : Rho) (S : MS) (e : Expr) (b : Bool) (S' : MS) : Prop where
  like : Like S S'
  pw : PW X e (tDT X.K ρ S b S')
structure DA (X : Cx) (ρ : Rho) (S : MS) (es : List Expr) (ds : List PyData) (S' : MS) : Prop where
  like : Like S S'
  pa : PA X es (tDA X.K ρ S ds S')
theorem pe_mono {X : Cx} {e : Expr} {t t' : TE} (h : PE X e t) (m : ∀ σ H Q, t' σ H Q → t σ H Q) : PE X e t' := ⟨fun pins s σ H Q I z => h.run pins s σ H Q I (m σ H Q z)⟩
theorem pt_mono {X : Cx} {e : Expr} {t t' : TT} (h : PT X e t) (m : ∀ σ H Q, t' σ H Q → t σ H Q) : PT X e t' := ⟨fun pins s σ H Q I z => h.run pins s σ H Q I (m σ H Q z)⟩
theorem pw_mono {X : Cx} {e : Expr} {t t' : TT} (h : PW X e t) (m : ∀ σ H Q, t' σ H Q → t σ H Q) : PW X e t' := ⟨fun wh pins s σ H Q I z => h.run wh pins s σ H Q I (m σ H Q z)⟩
theorem pa_mono {X : Cx} {e : List Expr} {t t' : TA} (h : PA X e t) (m : ∀ σ H Q, t' σ H Q → t σ H Q) : PA X e t' := ⟨fun pos pins s σ H Q I z => h.run pos pins s σ H Q I (m σ H Q z)⟩
section
variable {X : Cx} {ρ : Rho} {S S1 S2 S3 : MS} {e a b c : Expr} {es : List Expr} {d da db dc : PyData} {ds : List PyData} {pos : Pos}
/-- a reading that asks of the values only -/
def RvD (K : PySem.W.Frag) (r : R2) (da db d : PyData) : Prop := ∀ Hi x y H (Q : VK), Ex Hi H → Rp K Hi x da → Rp K Hi y db → (∀ v H' Hi', PSt H H' Hi Hi' → Rp K Hi' v d → Q v H') → r x y H Q
def RuD (K : PySem.W.Frag) (r : V → Hp → VK → Prop) (da d : PyData) : Prop := ∀ Hi x H (Q : VK), Ex Hi H → Rp K Hi x da → (∀ v H' Hi', PSt H H' Hi Hi' → Rp K Hi' v d → Q v H') → r x H Q
def RcD (K : PySem.W.Frag) (r : List V → Hp → VK → Prop) (ds : List PyData) (d : PyData) : Prop := ∀ Hi xs H (Q : VK), Ex Hi H → RpAll K Hi xs ds → (∀ v H' Hi', PSt H H' Hi Hi' → Rp K Hi' v d → Q v H') → r xs H Q
theorem tOp_of {r : R2} (la : Like S S1) (lb : Like S1 S2) (hr : RvD X.K r da db d) (σ : L2.St) (H : Hp) (Q : VK) (h : tD X.K ρ S d S2 σ H Q) : tOp r (tD X.K ρ S da S1) (tD X.K ρ S1 db S2) σ H Q := by
  obtain ⟨Hi, a, ok, k⟩ := h
  refine ⟨Hi, a, ok, fun x H1 Hi1 s1 ok1 r1 => ⟨Hi1, a, ok1, fun y H2 Hi2 s2 ok2 r2 => ?_⟩⟩
  refine hr Hi2 x y H2 Q ok2.ex (r1.mono s2.exi) r2 fun v H' Hi' p rv => ?_
  exact k v H' Hi' ((s1.trans la s2).trans (la.trans lb) p.stp) (ok2.pure p) rv
theorem de_op {op : Operator} {r : R2} (ho : OpR X (binaryOp op) r) (ha : DE X ρ S a da S1) (hb : DE X ρ S1 b db S2) (hr : RvD X.K r da db d) : DE X ρ S (.BinOp a op b pos) d S2 :=
  ⟨ha.like.trans hb.like, pe_mono (pe_op ho ha.pe hb.pe) (tOp_of ha.like hb.like hr)⟩
theorem de_cmp {op : CmpOp} {r : R2} (ho : OpR X (compareOp op) r) (ha : DE X ρ S a da S1) (hb : DE X ρ S1 b db S2) (hr : RvD X.K r da db d) (hm : behindInMarks op b = false) : DE X ρ S (.Compare a [op] [b] pos) d S2 :=
  ⟨ha.like.trans hb.like, pe_mono (pe_cmpR ho ha.pe hb.pe hm) (tOp_of ha.like hb.like hr)⟩
theorem de_var (i : Nat) {x : Str} (hp : PE X (.Name x pos) (tVar i)) (hi : ρ[i]? = some (.dat d)) : DE X ρ S (.Name x pos) d S :=
  ⟨Like.rfl', pe_mono hp fun σ H Q ⟨Hi, a, ok, k⟩ => by
    obtain ⟨v, h1, h2⟩ := ok.sl i _ hi
    exact ⟨v, h1, k v H Hi Stp.refl ok h2⟩⟩
theorem de_c {v : V} (hp : PE X e (tC v)) (hv : ∀ Hi, Rp X.K Hi v d) : DE X ρ S e d S :=
  ⟨Like.rfl', pe_mono hp fun σ H Q ⟨Hi, a, ok, k⟩ => k v H Hi Stp.refl ok (hv Hi)⟩
theorem de_int {i : Int} {j pos} : DE X ρ S (.Constant (.int i) j pos) (.int i) S := de_c pe_int fun _ => .int i
theorem de_bl {i : Bool} {j pos} : DE X ρ S (.Constant (.bool i) j pos) (.bool i) S := de_c pe_bl fun _ => .bl i
theorem de_non {j pos} : DE X ρ S (.Constant .none j pos) .none S := de_c pe_non fun _ => .non
theorem de_str {i : Str} {j pos} : DE X ρ S (.Constant (.str i) j pos) (.str i) S := de_c pe_str fun _ => .str i
theorem de_un {op : UnaryOp} {r : V → Hp → VK → Prop} (ho : UnR X (unaryOp op) r) (ha : DE X ρ S a da S1) (hr : RuD X.K r da d) : DE X ρ S (.UnaryOp op a pos) d S1 :=
  ⟨ha.like, pe_mono (pe_un ho ha.pe) fun σ H Q ⟨Hi, a, ok, k⟩ => ⟨Hi, a, ok, fun x H1 Hi1 s1 ok1 r1 => hr Hi1 x H1 Q ok1.ex r1 fun v H' Hi' p rv => k v H' Hi' (s1.trans ha.like p.stp) (ok1.pure p) rv⟩⟩
theorem da_nil : DA X ρ S [] [] S := ⟨Like.rfl', pa_mono pa_nil fun σ H Q ⟨Hi, a, ok, k⟩ => k [] H Hi Stp.refl ok .nil⟩
theorem da_cons (he : DE X ρ S e d S1) (hs : DA X ρ S1 es ds S2) (h : starEach (e :: es) X.env = (false, eval e X.env) :: starEach es X.env := by rfl) : DA X ρ S (e :: es) (d :: ds) S2 :=
  ⟨he.like.trans hs.like, pa_mono (pa_cons he.pe hs.pa h) fun σ H Q ⟨Hi, a, ok, k⟩ => ⟨Hi, a, ok, fun x H1 Hi1 s1 ok1 r1 => ⟨Hi1, a, ok1, fun xs H2 Hi2 s2 ok2 r2 =>
    k (x :: xs) H2 Hi2 (s1.trans he.like s2) ok2 (.cons (r1.mono s2.exi) r2)⟩⟩⟩
theorem de_tup {x1} (h : DA X ρ S es ds S1) (hz : ds.length ≤ 100000) : DE X ρ S (.Tuple es x1 pos) (.tuple ds) S1 :=
  ⟨h.like, pe_mono (pe_tup h.pa) fun σ H Q ⟨Hi, a, ok, k⟩ => ⟨Hi, a, ok, fun xs H1 Hi1 s1 ok1 r1 => ⟨Evl.sz_of (by rw [r1.len]; exact hz), fun p hp => by
    have ps : PSt H1 (upd H1 p (.tup xs)) Hi1 (upd Hi1 p (.tup xs)) := PSt.lay ok1.ex hp
    exact k (.ref p) _ _ (s1.trans h.like ps.stp) (ok1.pure ps) (.tup (SqT.of upd_same) (r1.mono ps.exi))⟩⟩⟩
theorem de_lst (h : DA X ρ S es ds S1) (hz : ds.length ≤ 100000) : DE X ρ S (.List es pos) (.list ds) S1 :=
  ⟨h.like, pe_mono (pe_lst h.pa) fun σ H Q ⟨Hi, a, ok, k⟩ => ⟨Hi, a, ok, fun xs H1 Hi1 s1 ok1 r1 => ⟨Evl.sz_of (by rw [r1.len]; exact hz), fun p hp => by
    have ps : PSt H1 (upd H1 p (.lst xs)) Hi1 (upd Hi1 p (.lst xs)) := PSt.lay ok1.ex hp
    exact k (.ref p) _ _ (s1.trans h.like ps.stp) (ok1.pure ps) (.lst upd_same (r1.mono ps.exi))⟩⟩⟩
theorem de_callR {r : List V → Hp → VK → Prop} (hp : ∀ {t : TA}, PA X es t → PE X e (tCB r t)) (h : DA X ρ S es ds S1) (hr : RcD X.K r ds d) : DE X ρ S e d S1 :=
  ⟨h.like, pe_mono (hp h.pa) fun σ H Q ⟨Hi, a, ok, k⟩ => ⟨Hi, a, ok, fun xs H1 Hi1 s1 ok1 r1 => hr Hi1 xs H1 Q ok1.ex r1 fun v H' Hi' p rv => k v H' Hi' (s1.trans h.like p.stp) (ok1.pure p) rv⟩⟩
end
end G
namespace G
open PySem PySem.Spec PyProof.Rows L2
section
variable {X : Cx} {ρ ρ1 ρ2 : Rho} {S S1 S2 S3 : MS} {e a b c : Expr} {es : List Expr} {d da db dc : PyData} {ds : List PyData} {pos : Pos} {x y z : Bool}

/-! ### tests -/
theorem bl_inv {K : PySem.W.Frag} {H : Hp} {v : V} {k : Bool} (h : Rp K H v (.bool k)) : v = .bl k := by cases h; rfl
theorem int_inv {K : PySem.W.Frag} {H : Hp} {v : V} {k : Int} (h : Rp K H v (.int k)) : v = .int k := by cases h; rfl
theorem str_inv {K : PySem.W.Frag} {H : Hp} {v : V} {k : Str} (h : Rp K H v (.str k)) : v = .str k := by cases h; rfl
theorem tB_of (σ : L2.St) (H : Hp) (Q : Bool → Hp → Prop) (h : tDT X.K ρ S x S1 σ H Q) : tB (tD X.K ρ S (.bool x) S1) σ H Q := by
  obtain ⟨Hi, a, ok, k⟩ := h
  exact ⟨Hi, a, ok, fun v H' Hi' s1 ok1 r => ⟨x, bl_inv r, k H' Hi' s1 ok1⟩⟩
theorem dt_val (h : DE X ρ S e (.bool x) S1) (he : ∀ whole, isTrue e X.env whole = (do let v ← whole; standAt e.pos; holding [v] (truthy v)) := by intro _; rfl) : DT X ρ S e x S1 :=
  ⟨h.like, pt_mono (pt_val h.pe he) tB_of⟩
theorem dt_cmp {op : CmpOp} {r : R2} (ho : OpR X (compareOp op) r) (ha : DE X ρ S a da S1) (hb : DE X ρ S1 b db S2) (hr : RvD X.K r da db (.bool x)) (hm : behindInMarks op b = false) : DT X ρ S (.Compare a [op] [b] pos) x S2 :=
  ⟨ha.like.trans hb.like, pt_mono (pt_cmpR ho ha.pe hb.pe hm) fun σ H Q ⟨Hi, a, ok, k⟩ => tOp_of ha.like hb.like hr σ H _ ⟨Hi, a, ok, fun v H' Hi' s1 ok1 r1 => ⟨x, bl_inv r1, k H' Hi' s1 ok1⟩⟩⟩
theorem dt_not (h : DT X ρ S a x S1) : DT X ρ S (.UnaryOp .Not a pos) (!x) S1 :=
  ⟨h.like, pt_mono (pt_not h.pt) fun σ H Q ⟨Hi, a, ok, k⟩ => ⟨Hi, a, ok, fun H' Hi' s1 ok1 => k H' Hi' s1 ok1⟩⟩
theorem dt_w (h : DW X ρ S e x S1) : DT X ρ S e x S1 := ⟨h.like, h.pw.pt⟩
theorem dw_and1 (h : DT X ρ S a x S) : DW X ρ S (.BoolOp .And [a] pos) x S := ⟨h.like, pw_and1 h.pt⟩
theorem dw_or1 (h : DT X ρ S a x S) : DW X ρ S (.BoolOp .Or [a] pos) x S := ⟨h.like, pw_or1 h.pt⟩
def tLaz (K : PySem.W.Frag) (ρ : Rho) (S : MS) (p : Prop) (y : Bool) : TT := fun σ H Q => p ∧ tDT K ρ S y S σ H Q
theorem laz {p : Prop} {t : List Expr → Expr} {r : List Expr} (h : p → DW X ρ S (t r) y S) : PW X (t r) (tLaz X.K ρ S p y) := ⟨fun wh pins s σ H Q I z => (h z.1).pw.run wh pins s σ H Q I z.2⟩
theorem dw_and {r : List Expr} (h : DT X ρ S a x S) (k : x = true → DW X ρ S (.BoolOp .And (b :: r) pos) y S) : DW X ρ S (.BoolOp .And (a :: b :: r) pos) (x && y) S := by
  refine ⟨Like.rfl', pw_mono (pw_and h.pt (laz (t := fun r => .BoolOp .And r pos) k)) fun σ H Q ⟨Hi, a, ok, q⟩ => ⟨Hi, a, ok, fun H1 Hi1 s1 ok1 => ?_⟩⟩
  cases x with
  | true =>
    rw [if_pos rfl]
    exact ⟨rfl, Hi1, a, ok1, fun H2 Hi2 s2 ok2 => q H2 Hi2 (s1.trans Like.rfl' s2) ok2⟩
  | false =>
    rw [if_neg Bool.false_ne_true]
    exact q H1 Hi1 s1 ok1
theorem dw_or {r : List Expr} (h : DT X ρ S a x S) (k : x = false → DW X ρ S (.BoolOp .Or (b :: r) pos) y S) : DW X ρ S (.BoolOp .Or (a :: b :: r) pos) (x || y) S := by
  refine ⟨Like.rfl', pw_mono (pw_or h.pt (laz (t := fun r => .BoolOp .Or r pos) k)) fun σ H Q ⟨Hi, a, ok, q⟩ => ⟨Hi, a, ok, fun H1 Hi1 s1 ok1 => ?_⟩⟩
  cases x with
  | false =>
    rw [if_neg Bool.false_ne_true]
    exact ⟨rfl, Hi1, a, ok1, fun H2 Hi2 s2 ok2 => q H2 Hi2 (s1.trans Like.rfl' s2) ok2⟩
  | true =>
    rw [if_pos rfl]
    exact q H1 Hi1 s1 ok1
/-- .. as values -/
def tLazE (K : PySem.W.Frag) (ρ : Rho) (S : MS) (p : Prop) (d : PyData) : TE := fun σ H Q => p ∧ tD K ρ S d S σ H Q
theorem lazE {p : Prop} {e : Expr} (h : p → DE X ρ S e d S) : PE X e (tLazE X.K ρ S p d) := ⟨fun pins s σ H Q I z => (h z.1).pe.run pins s σ H Q I z.2⟩
theorem de_one {op} (h : DE X ρ S a d S) : DE X ρ S (.BoolOp op [a] pos) d S := ⟨h.like, pe_one h.pe⟩
theorem de_and {r : List Expr} (h : DE X ρ S a (.bool x) S) (k : x = true → DE X ρ S (.BoolOp .And (b :: r) pos) (.bool y) S) : DE X ρ S (.BoolOp .And (a :: b :: r) pos) (.bool (x && y)) S := by
  refine ⟨Like.rfl', pe_mono (pe_and h.pe (lazE k)) fun σ H Q ⟨Hi, a, ok, q⟩ => ⟨Hi, a, ok, fun v H1 Hi1 s1 ok1 r1 => ⟨x, bl_inv r1, ?_⟩⟩⟩
  cases x with
  | true =>
    rw [if_pos rfl]
    exact ⟨rfl, Hi1, a, ok1, fun v2 H2 Hi2 s2 ok2 r2 => q v2 H2 Hi2 (s1.trans Like.rfl' s2) ok2 r2⟩
  | false =>
    rw [if_neg Bool.false_ne_true]
    exact q _ H1 Hi1 s1 ok1 (.bl false)
theorem de_or {r : List Expr} (h : DE X ρ S a (.bool x) S) (k : x = false → DE X ρ S (.BoolOp .Or (b :: r) pos) (.bool y) S) : DE X ρ S (.BoolOp .Or (a :: b :: r) pos) (.bool (x || y)) S := by
  refine ⟨Like.rfl', pe_mono (pe_or h.pe (lazE k)) fun σ H Q ⟨Hi, a, ok, q⟩ => ⟨Hi, a, ok, fun v H1 Hi1 s1 ok1 r1 => ⟨x, bl_inv r1, ?_⟩⟩⟩
  cases x with
  | false =>
    rw [if_neg Bool.false_ne_true]
    exact ⟨rfl, Hi1, a, ok1, fun v2 H2 Hi2 s2 ok2 r2 => q v2 H2 Hi2 (s1.trans Like.rfl' s2) ok2 r2⟩
  | true =>
    rw [if_pos rfl]
    exact q _ H1 Hi1 s1 ok1 (.bl true)
theorem de_not (h : DE X ρ S a (.bool x) S1) : DE X ρ S (.UnaryOp .Not a pos) (.bool (!x)) S1 :=
  ⟨h.like, pe_mono (pe_not h.pe) fun σ H Q ⟨Hi, a, ok, q⟩ => ⟨Hi, a, ok, fun v H1 Hi1 s1 ok1 r1 => ⟨x, bl_inv r1, q _ H1 Hi1 s1 ok1 (.bl _)⟩⟩⟩
/-- a if t else b -/
def tLazS (K : PySem.W.Frag) (ρ : Rho) (S S' : MS) (p : Prop) (d : PyData) : TE := fun σ H Q => p ∧ tD K ρ S d S' σ H Q
theorem lazS {p : Prop} {e : Expr} (h : p → DE X ρ S e d S1) : PE X e (tLazS X.K ρ S S1 p d) := ⟨fun pins s σ H Q I z => (h z.1).pe.run pins s σ H Q I z.2⟩
theorem de_if (h : DT X ρ S c x S1) (h1 : x = true → DE X ρ S1 a d S2) (h2 : x = false → DE X ρ S1 b d S2) : DE X ρ S (.IfExp c a b pos) d S2 := by
  refine ⟨h.like.trans (by cases x with | true => exact (h1 rfl).like | false => exact (h2 rfl).like), pe_mono (pe_ifExp h.pt (lazS h1) (lazS h2)) fun σ H Q ⟨Hi, a, ok, q⟩ => ⟨Hi, a, ok, fun H1 Hi1 s1 ok1 => ?_⟩⟩
  cases x with
  | true =>
    rw [if_pos rfl]
    exact ⟨rfl, Hi1, a, ok1, fun v2 H2 Hi2 s2 ok2 r2 => q v2 H2 Hi2 (s1.trans h.like s2) ok2 r2⟩
  | false =>
    rw [if_neg Bool.false_ne_true]
    exact ⟨rfl, Hi1, a, ok1, fun v2 H2 Hi2 s2 ok2 r2 => q v2 H2 Hi2 (s1.trans h.like s2) ok2 r2⟩
/-- a op b op' c -/
theorem tChain_of {r r' : R2} (ha : DE X ρ S a da S) (hb : DE X ρ S b db S) (hr : RvD X.K r da db (.bool x)) (hr' : x = true → RvD X.K r' db dc (.bool y)) (σ : L2.St) (H : Hp) (Q : VK) (h : tD X.K ρ S (.bool (x && y)) S σ H Q) :
    tChain r r' (tD X.K ρ S da S) (tD X.K ρ S db S) (tD X.K ρ S dc S) σ H Q := by
  obtain ⟨Hi, a, ok, k⟩ := h
  refine ⟨Hi, a, ok, fun v H1 Hi1 s1 ok1 r1 => ⟨Hi1, a, ok1, fun u H2 Hi2 s2 ok2 r2 => ?_⟩⟩
  refine hr Hi2 v u H2 _ ok2.ex (r1.mono s2.exi) r2 fun z H3 Hi3 p rz => ⟨x, bl_inv rz, ?_⟩
  have s3 := (s1.trans Like.rfl' s2).trans Like.rfl' (p.stp (S := S) (a := a))
  cases x with
  | false =>
    rw [if_neg Bool.false_ne_true]
    exact k _ H3 Hi3 s3 (ok2.pure p) (.bl false)
  | true =>
    rw [if_pos rfl]
    refine ⟨Hi3, a, ok2.pure p, fun w H4 Hi4 s4 ok4 r4 => ?_⟩
    refine hr' rfl Hi4 u w H4 Q ok4.ex ((r2.mono p.exi).mono s4.exi) r4 fun z' H5 Hi5 p' rz' => ?_
    exact k _ H5 Hi5 ((s3.trans Like.rfl' s4).trans Like.rfl' p'.stp) (ok4.pure p') rz'
theorem de_chain {op op' : CmpOp} {r r' : R2} (ho : OpR X (compareOp op) r) (ho' : OpR X (compareOp op') r') (ha : DE X ρ S a da S) (hb : DE X ρ S b db S) (hc : DE X ρ S c dc S) (hr : RvD X.K r da db (.bool x)) (hr' : x = true → RvD X.K r' db dc (.bool y))
    (hm : lastMarks [op, op'] [b, c] = false := by with_unfolding_all rfl) : DE X ρ S (.Compare a [op, op'] [b, c] pos) (.bool (x && y)) S :=
  ⟨Like.rfl', pe_mono (pe_chain ho ho' ha.pe hb.pe hc.pe hm) (tChain_of ha hb hr hr')⟩
theorem dt_chain {op op' : CmpOp} {r r' : R2} (ho : OpR X (compareOp op) r) (ho' : OpR X (compareOp op') r') (ha : DE X ρ S a da S) (hb : DE X ρ S b db S) (hc : DE X ρ S c dc S) (hr : RvD X.K r da db (.bool x)) (hr' : x = true → RvD X.K r' db dc (.bool y))
    (hm : lastMarks [op, op'] [b, c] = false := by with_unfolding_all rfl) : DT X ρ S (.Compare a [op, op'] [b, c] pos) (x && y) S :=
  ⟨Like.rfl', pt_mono (pt_chain ho ho' ha.pe hb.pe hc.pe hm) fun σ H Q ⟨Hi, a, ok, k⟩ => tChain_of ha hb hr hr' σ H _ ⟨Hi, a, ok, fun v H' Hi' s1 ok1 r1 => ⟨_, bl_inv r1, k H' Hi' s1 ok1⟩⟩⟩
end

/-! ### statements -/
inductive Out where
  | nx (ρ : Rho) (S : MS)
  | rt (d : PyData) (S : MS)
  | sr (s : Src)
structure SStp (S S' : MS) (a a' : Ad) (H H' Hi Hi' : Hp) : Prop where
  keep : ∀ b u, H b = some u → ¬ mutd S a b → H' b = some u
  there : ∀ b, H b ≠ none → H' b ≠ none
  exi : Ex Hi Hi'
  new : ∀ b, H b ≠ none → ¬ mutd S a b → Hi' b ≠ none → Hi b ≠ none
  own : S'.own.isSome = true → (S.own.isSome = true ∧ a'.o = a.o) ∨ H a'.o = none
  src0 : S.src.isSome = true → S'.src.isSome = true ∧ a'.p = a.p ∧ a'.q = a.q
  src1 : S'.src.isSome = true → S.src.isSome = true ∨ (H a'.p = none ∧ H a'.q = none)
theorem SStp.of {S S' : MS} {a : Ad} {H H' Hi Hi' : Hp} (l : Like S S') (s : Stp S a H H' Hi Hi') : SStp S S' a a H H' Hi Hi' :=
  ⟨s.keep, s.there, s.exi, s.new, fun h => .inl ⟨by rw [← l.1]; exact h, rfl⟩, fun h => ⟨by rw [l.2]; exact h, rfl, rfl⟩, fun h => .inl (by rw [← l.2]; exact h)⟩
theorem SStp.refl {S : MS} {a : Ad} {H Hi : Hp} : SStp S S a a H H Hi Hi := .of Like.rfl' Stp.refl
theorem not_mutd {S S1 : MS} {a a1 : Ad} {H H1 Hi Hi1 : Hp} (x : SStp S S1 a a1 H H1 Hi Hi1) {b : Addr} (hb : H b ≠ none) (n : ¬ mutd S a b) : ¬ mutd S1 a1 b := by
  rintro (⟨h1, h2⟩ | ⟨h1, h2⟩)
  · rcases x.own h1 with ⟨g1, g2⟩ | g
    · exact n (.inl ⟨g1, h2.trans g2⟩)
    · exact hb (h2 ▸ g)
  · rcases x.src1 h1 with g | ⟨g1, g2⟩
    · obtain ⟨_, e1, e2⟩ := x.src0 g
      exact n (.inr ⟨g, h2.imp (fun z => z.trans e1) fun z => z.trans e2⟩)
    · rcases h2 with h2 | h2
      · exact hb (h2 ▸ g1)
      · exact hb (h2 ▸ g2)
theorem back_none {S S1 : MS} {a a1 : Ad} {H H1 Hi Hi1 : Hp} (x : SStp S S1 a a1 H H1 Hi Hi1) {b : Addr} (h : H1 b = none) : H b = none := by
  cases q : H b with
  | none => rfl
  | some u => exact absurd h (x.there b (by rw [q]; exact fun z => by cases z))
theorem SStp.trans {S S1 S2 : MS} {a a1 a2 : Ad} {H H1 H2 Hi Hi1 Hi2 : Hp} (x : SStp S S1 a a1 H H1 Hi Hi1) (y : SStp S1 S2 a1 a2 H1 H2 Hi1 Hi2) : SStp S S2 a a2 H H2 Hi Hi2 where
  keep := fun b u e n => y.keep b u (x.keep b u e n) (not_mutd x (by rw [e]; exact fun z => by cases z) n)
  there := fun b h => y.there b (x.there b h)
  exi := x.exi.trans y.exi
  new := fun b h1 n h2 => x.new b h1 n (y.new b (x.there b h1) (not_mutd x h1 n) h2)
  own := fun h => by
    rcases y.own h with ⟨g1, g2⟩ | g
    · rcases x.own g1 with ⟨k1, k2⟩ | k
      · exact .inl ⟨k1, g2.trans k2⟩
      · exact .inr (by rw [g2]; exact k)
    · exact .inr (back_none x g)
  src0 := fun h => by
    obtain ⟨g1, g2, g3⟩ := x.src0 h
    obtain ⟨k1, k2, k3⟩ := y.src0 g1
    exact ⟨k1, k2.trans g2, k3.trans g3⟩
  src1 := fun h => by
    rcases y.src1 h with g | ⟨g1, g2⟩
    · rcases x.src1 g with k | ⟨k1, k2⟩
      · exact .inl k
      · obtain ⟨_, e1, e2⟩ := y.src0 g
        exact .inr ⟨by rw [e1]; exact k1, by rw [e2]; exact k2⟩
    · exact .inr ⟨back_none x g1, back_none x g2⟩
/-- what follows, by the outcome -/
def Fol (K : PySem.W.Frag) (S : MS) (a : Ad) (H Hi : Hp) (D : Ends) : Out → Prop
  | .nx ρ' S' => ∀ σ' H' Hi' a', SStp S S' a a' H H' Hi Hi' → Ok K Hi' a' σ' H' ρ' S' → D.nx σ' H'
  | .rt d S' => ∀ v σ' ρ' H' Hi' a', SStp S S' a a' H H' Hi Hi' → Ok K Hi' a' σ' H' ρ' S' → Rp K Hi' v d → D.rt v H'
  | .sr s => ∀ σ' ρ' H' Hi' a', SStp S { src := some s } a a' H H' Hi Hi' → Ok K Hi' a' σ' H' ρ' { src := some s } → D.rt (.ref a'.p) H'
def tS (K : PySem.W.Frag) (ρ : Rho) (S : MS) (o : Out) : TS := fun D σ H => ∃ Hi a, Ok K Hi a σ H ρ S ∧ Fol K S a H Hi D o
theorem Fol.step {K : PySem.W.Frag} {S S1 : MS} {a a1 : Ad} {H H1 Hi Hi1 : Hp} {D : Ends} {o : Out} (x : SStp S S1 a a1 H H1 Hi Hi1) (h : Fol K S a H Hi D o) : Fol K S1 a1 H1 Hi1 D o := by
  cases o with
  | nx ρ' S' => exact fun σ' H' Hi' a' y ok => h σ' H' Hi' a' (x.trans y) ok
  | rt d S' => exact fun v σ' ρ' H' Hi' a' y ok r => h v σ' ρ' H' Hi' a' (x.trans y) ok r
  | sr s => exact fun σ' ρ' H' Hi' a' y ok => h σ' ρ' H' Hi' a' (x.trans y) ok
structure DS (X : Cx) (ρ : Rho) (S : MS) (st : Stmt) (o : Out) : Prop where
  ps : PS X st (tS X.K ρ S o)
structure DSs (X : Cx) (ρ : Rho) (S : MS) (st : List Stmt) (o : Out) : Prop where
  ps : PSs X st (tS X.K ρ S o)
theorem ps_mono {X : Cx} {e : Stmt} {t t' : TS} (h : PS X e t) (m : ∀ D σ H, t' D σ H → t D σ H) : PS X e t' := ⟨fun pins s σ H D I z => h.run pins s σ H D I (m D σ H z)⟩
theorem pss_mono {X : Cx} {e : List Stmt} {t t' : TS} (h : PSs X e t) (m : ∀ D σ H, t' D σ H → t D σ H) : PSs X e t' := ⟨fun pins s σ H D I z => h.run pins s σ H D I (m D σ H z)⟩
section
variable {X : Cx} {ρ ρ1 ρ2 ρ3 : Rho} {S S1 S2 S3 : MS} {e a b c : Expr} {es : List Expr} {d da db dc : PyData} {ds : List PyData} {pos : Pos} {x y z : Bool} {st : Stmt} {sts A B : List Stmt} {o : Out}
theorem dss_nil : DSs X ρ S [] (.nx ρ S) := ⟨pss_mono pss_nil fun D σ H ⟨Hi, a, ok, f⟩ => f σ H Hi a SStp.refl ok⟩
theorem dss_cons (h : DS X ρ S st (.nx ρ1 S1)) (k : DSs X ρ1 S1 sts o) : DSs X ρ S (st :: sts) o :=
  ⟨pss_mono (pss_cons h.ps k.ps) fun D σ H ⟨Hi, a, ok, f⟩ => ⟨Hi, a, ok, fun σ' H' Hi' a' x ok' => ⟨Hi', a', ok', f.step x⟩⟩⟩
theorem dss_rt (h : DS X ρ S st (.rt d S1)) : DSs X ρ S (st :: sts) (.rt d S1) :=
  ⟨pss_mono (pss_cons h.ps (pss_never (sts := sts))) fun D σ H ⟨Hi, a, ok, f⟩ => ⟨Hi, a, ok, f⟩⟩
theorem dss_one (h : DS X ρ S st o) : DSs X ρ S [st] o := ⟨pss_one h.ps⟩
theorem ds_ret (h : DE X ρ S e d S1) : DS X ρ S (.Return (some e) pos) (.rt d S1) :=
  ⟨ps_mono (ps_ret h.pe) fun D σ H ⟨Hi, a, ok, f⟩ => ⟨Hi, a, ok, fun v H' Hi' s1 ok1 r1 => f v σ ρ H' Hi' a (.of h.like s1) ok1 r1⟩⟩
theorem ds_retN {e : Option Expr} (h : e = none) : DS X ρ S (.Return e pos) (.rt .none S) := by
  subst h
  exact ⟨ps_mono ps_retN fun D σ H ⟨Hi, a, ok, f⟩ => f .non σ ρ H Hi a SStp.refl ok .non⟩
def tLazT (K : PySem.W.Frag) (ρ : Rho) (S : MS) (p : Prop) (o : Out) : TS := fun D σ H => p ∧ tS K ρ S o D σ H
theorem lazT {p : Prop} (h : p → DSs X ρ S A o) : PSs X A (tLazT X.K ρ S p o) := ⟨fun pins s σ H D I z => (h z.1).ps.run pins s σ H D I z.2⟩
theorem ds_if (h : DT X ρ S c x S1) (h1 : x = true → DSs X ρ S1 A o) (h2 : x = false → DSs X ρ S1 B o) : DS X ρ S (.If c A B pos) o := by
  refine ⟨ps_mono (ps_if h.pt (lazT h1) (lazT h2)) fun D σ H ⟨Hi, a, ok, f⟩ => ⟨Hi, a, ok, fun H1 Hi1 s1 ok1 => ?_⟩⟩
  cases x with
  | true =>
    rw [if_pos rfl]
    exact ⟨rfl, Hi1, a, ok1, f.step (.of h.like s1)⟩
  | false =>
    rw [if_neg Bool.false_ne_true]
    exact ⟨rfl, Hi1, a, ok1, f.step (.of h.like s1)⟩
theorem ds_expr (h : DE X ρ S e d S1) (hs : swapsWith e none pos.line X.env = pure false := by rfl) : DS X ρ S (.Expr e pos) (.nx ρ S1) :=
  ⟨ps_mono (ps_expr h.pe hs) fun D σ H ⟨Hi, a, ok, f⟩ => ⟨Hi, a, ok, fun v H' Hi' s1 ok1 r1 => f σ H' Hi' a (.of h.like s1) ok1⟩⟩
/-- a datum put into a slot -/
theorem Ok.put {K : PySem.W.Frag} {Hi H : Hp} {a : Ad} {σ : L2.St} {i : Nat} {v : V} (ok : Ok K Hi a σ H ρ S) (r : Rp K Hi v d) : Ok K Hi a (σ.set i (some v)) H (ρ.set i (.dat d)) S where
  ex := ok.ex
  len := by rw [List.length_set, List.length_set]; exact ok.len
  sl := fun j x e => by
    by_cases hj : j = i
    · subst hj
      by_cases hl : j < ρ.length
      · rw [List.getElem?_set_self hl] at e
        cases e
        exact ⟨v, by rw [List.getElem?_set_self (by rw [← ok.len]; exact hl)], r⟩
      · rw [List.getElem?_eq_none (by rw [List.length_set]; omega)] at e
        cases e
    · rw [List.getElem?_set_ne (Ne.symm hj)] at e
      have := ok.sl j x e
      cases x with
      | no => trivial
      | dat d => obtain ⟨w, h1, h2⟩ := this; exact ⟨w, by rw [List.getElem?_set_ne (Ne.symm hj)]; exact h1, h2⟩
      | own => show (σ.set i (some v))[j]? = _; rw [List.getElem?_set_ne (Ne.symm hj)]; exact this
      | src => show (σ.set i (some v))[j]? = _; rw [List.getElem?_set_ne (Ne.symm hj)]; exact this
      | cel => show (σ.set i (some v))[j]? = _; rw [List.getElem?_set_ne (Ne.symm hj)]; exact this
      | scr ns => obtain ⟨w, h1, h2⟩ := this; exact ⟨w, by rw [List.getElem?_set_ne (Ne.symm hj)]; exact h1, h2⟩
  own := ok.own
  src := ok.src
  apart := ok.apart
theorem ds_set {i : Nat} {x : Str} {pos' : Pos} (hN : X.N.Nodup) (hi : X.N[i]? = some x) (hx : Loc X.env.scope x) (he : DE X ρ S e d S1) (hs : swapsWith e (some (.Name x pos')) pos.line X.env = pure false := by rfl)
    (hf : X.fn x = true ∨ X.env.scope.names.lookup x = some .local := by first | exact .inl rfl | exact .inr rfl | assumption) : DS X ρ S (.Assign [.Name x pos'] e pos) (.nx (ρ.set i (.dat d)) S1) :=
  ⟨ps_mono (ps_set hN hi hx he.pe hs hf) fun D σ H ⟨Hi, a, ok, f⟩ => ⟨Hi, a, ok, fun v H' Hi' s1 ok1 r1 => f _ H' Hi' a (.of he.like s1) (ok1.put r1)⟩⟩
theorem ds_par {i j : Nat} {x y : Str} {px py pt : Pos} {kt k2 pt2} (hc : X.calm = true) (hN : X.N.Nodup) (hi : X.N[i]? = some x) (hj : X.N[j]? = some y) (hij : i ≠ j)
    (hx : X.env.scope.names.lookup x = some .local) (hy : X.env.scope.names.lookup y = some .local) (ha : DA X ρ S [a, b] [da, db] S1)
    (hw : swappedStores [.Tuple [.Name x px, .Name y py] kt pt] (.Tuple [a, b] k2 pt2) X.env = pure (some [x, y]))
    (hs : swapsWithSole [.Tuple [.Name x px, .Name y py] kt pt] (.Tuple [a, b] k2 pt2) pos.line X.env = pure false := by rfl) :
    DS X ρ S (.Assign [.Tuple [.Name x px, .Name y py] kt pt] (.Tuple [a, b] k2 pt2) pos) (.nx ((ρ.set i (.dat da)).set j (.dat db)) S1) :=
  ⟨ps_mono (ps_par hc hN hi hj hij hx hy ha.pa hw hs) fun D σ H ⟨Hi, a, ok, f⟩ => ⟨Hi, a, ok, fun vs H' Hi' s1 ok1 r1 => by
    cases r1 with
    | cons h1 h2 =>
      cases h2 with
      | cons h2 h3 =>
        cases h3
        exact ⟨_, _, rfl, f _ H' Hi' a (.of ha.like s1) ((ok1.put h1).put h2)⟩⟩⟩
/-! targets -/
def tG (K : PySem.W.Frag) (ρ : Rho) (d : PyData) (ρ' : Rho) : TG := fun v σ H Q => ∃ Hi a S, Ok K Hi a σ H ρ S ∧ Rp K Hi v d ∧ ∀ σ', Ok K Hi a σ' H ρ' S → Q σ' H
def tGs (K : PySem.W.Frag) (ρ : Rho) (ds : List PyData) (ρ' : Rho) : TGs := fun vs σ H Q => ∃ Hi a S, Ok K Hi a σ H ρ S ∧ RpAll K Hi vs ds ∧ ∀ σ', Ok K Hi a σ' H ρ' S → Q σ' H
def DG (X : Cx) (t : Expr) (ρ : Rho) (d : PyData) (ρ' : Rho) : Prop := PG X t (tG X.K ρ d ρ')
def DGs (X : Cx) (ts : List Expr) (ρ : Rho) (ds : List PyData) (ρ' : Rho) : Prop := PGs X ts (tGs X.K ρ ds ρ')
theorem pg_mono {e : Expr} {t t' : TG} (h : PG X e t) (m : ∀ v σ H Q, t' v σ H Q → t v σ H Q) : PG X e t' := ⟨fun pins s σ H v u Q I r z => h.run pins s σ H v u Q I r (m v σ H Q z)⟩
theorem pgs_mono {e : List Expr} {t t' : TGs} (h : PGs X e t) (m : ∀ v σ H Q, t' v σ H Q → t v σ H Q) : PGs X e t' := ⟨fun pins s σ H v u Q I r z => h.run pins s σ H v u Q I r (m v σ H Q z)⟩
theorem dg_name {i : Nat} {x : Str} (hN : X.N.Nodup) (hi : X.N[i]? = some x) (hx : Loc X.env.scope x) (hf : X.fn x = true ∨ X.env.scope.names.lookup x = some .local := by first | exact .inl rfl | exact .inr rfl | assumption) : DG X (.Name x pos) ρ d (ρ.set i (.dat d)) :=
  pg_mono (pg_name hN hi hx hf) fun v σ H Q ⟨Hi, a, S, ok, r, k⟩ => k _ (ok.put r)
theorem dgs_nil : DGs X [] ρ [] ρ := pgs_mono pgs_nil fun v σ H Q ⟨Hi, a, S, ok, r, k⟩ => by cases r; exact ⟨rfl, k σ ok⟩
theorem dgs_cons (h1 : DG X e ρ d ρ1) (h2 : DGs X es ρ1 ds ρ2) (hs : (assignEach (e :: es) X.env).map (·.2) = assign e X.env :: (assignEach es X.env).map (·.2) := by rfl) : DGs X (e :: es) ρ (d :: ds) ρ2 :=
  pgs_mono (pgs_cons h1 h2 hs) fun v σ H Q ⟨Hi, a, S, ok, r, k⟩ => by
    cases r with
    | cons r1 r2 => exact ⟨_, _, rfl, Hi, a, S, ok, r1, fun σ1 ok1 => ⟨Hi, a, S, ok1, r2, k⟩⟩
theorem dg_tup {k : Nat} {n : Nat} (hc : X.calm = true) (h : DGs X es ρ ds ρ1) (hn : (assignEach es X.env).length = n := by rfl) (hst : (assignEach es X.env).findIdx? (·.1) = none := by rfl) (hl : ds.length = n := by rfl) : DG X (.Tuple es k pos) ρ (.tuple ds) ρ1 :=
  pg_mono (pg_tup hc h hn hst) fun v σ H Q ⟨Hi, a, S, ok, r, q⟩ => by
    cases r with
    | tup t rs => exact ⟨_, _, rfl, ok.ex.tup t, rs.len.trans hl, Hi, a, S, ok, rs, q⟩
theorem ds_asg {tg : Expr} (he : DE X ρ S e d S1) (hg : DG X tg ρ d ρ1) (hs : swapsWithSole [tg] e pos.line X.env = pure false := by rfl) (hw : swappedStores [tg] e X.env = pure none := by rfl)
    (h1 : (assignEach [tg] X.env).map (·.2) = [assign tg X.env] := by rfl) : DS X ρ S (.Assign [tg] e pos) (.nx ρ1 S1) :=
  ⟨ps_mono (ps_asg he.pe hg hs hw h1) fun D σ H ⟨Hi, a, ok, f⟩ => ⟨Hi, a, ok, fun v H' Hi' s1 ok1 r1 => ⟨Hi', a, S1, ok1, r1, fun σ' ok' => f σ' H' Hi' a (.of he.like s1) ok'⟩⟩⟩
end

/-! ### families of readings -/
def tAny {ι : Type} (t : ι → TS) : TS := fun D σ H => ∃ i, t i D σ H
def gAny {ι : Type} (t : ι → TG) : TG := fun v σ H Q => ∃ i, t i v σ H Q
def eAny {ι : Type} (t : ι → TE) : TE := fun σ H Q => ∃ i, t i σ H Q
def bAny {ι : Type} (t : ι → TT) : TT := fun σ H Q => ∃ i, t i σ H Q
section
variable {X : Cx} {ι : Type}
theorem pss_any {sts : List Stmt} {t : ι → TS} (h : ∀ i, PSs X sts (t i)) : PSs X sts (tAny t) := ⟨fun pins s σ H D I ⟨i, z⟩ => (h i).run pins s σ H D I z⟩
theorem pg_any {e : Expr} {t : ι → TG} (h : ∀ i, PG X e (t i)) : PG X e (gAny t) := ⟨fun pins s σ H v u Q I r ⟨i, z⟩ => (h i).run pins s σ H v u Q I r z⟩
theorem pe_any {e : Expr} {t : ι → TE} (h : ∀ i, PE X e (t i)) : PE X e (eAny t) := ⟨fun pins s σ H Q I ⟨i, z⟩ => (h i).run pins s σ H Q I z⟩
theorem pt_any {e : Expr} {t : ι → TT} (h : ∀ i, PT X e (t i)) : PT X e (bAny t) := ⟨fun pins s σ H Q I ⟨i, z⟩ => (h i).run pins s σ H Q I z⟩
end

/-! ### loops -/
structure LoopI (n : Nat) (stop : Nat) where
  i : Nat
  lt : i < n
  le : i ≤ stop
section
variable {X : Cx} {ρ : Rho} {S S0 : MS} {iter tg c : Expr} {body : List Stmt} {pos : Pos} {o : Out}
/-- what stands at turn i, behind the loop's head -/
structure LPv (K : PySem.W.Frag) (R : Nat → Rho) (M : Nat → MS) (S : MS) (a : Ad) (H Hi : Hp) (i : Nat) (σ' : L2.St) (H' : Hp) : Prop where
  ex : ∃ Hi' a', Ok K Hi' a' σ' H' (R i) (M i) ∧ SStp S (M i) a a' H H' Hi Hi'
def oAt (R : Nat → Rho) (M : Nat → MS) (stop : Nat) (o : Out) (i : Nat) : Out := if i < stop then .nx (R (i + 1)) (M (i + 1)) else o
theorem turn_ok {K : PySem.W.Frag} {n : Nat} {R T : Nat → Rho} {M : Nat → MS} {stop : Nat} {xs : Nat → PyData} {a : Ad} {H Hi : Hp} {D : Ends}
    (hf : (stop = n ∧ o = .nx (R n) (M n)) ∨ (stop < n ∧ ∃ d S', o = .rt d S')) (f : Fol K S a H Hi D o) {i : Nat} (hi : i < n) (hs : i ≤ stop) {σ' : L2.St} {H' : Hp} {v : V} (p : LPv K R M S a H Hi i σ' H') (hv : ∀ Hi', Ex Hi Hi' → Rp K Hi' v (xs i)) :
    gAny (fun j : LoopI n stop => tG K (R j.i) (xs j.i) (T j.i)) v σ' H' fun σ2 H2 =>
      tAny (fun j : LoopI n stop => tS K (T j.i) (M j.i) (oAt R M stop o j.i)) { D with nx := fun σ H3 => i + 1 ≤ stop ∧ LPv K R M S a H Hi (i + 1) σ H3, ct := fun σ H3 => i + 1 ≤ stop ∧ LPv K R M S a H Hi (i + 1) σ H3, bk := D.nx } σ2 H2 := by
  obtain ⟨Hi', a', ok, st⟩ := p.ex
  refine ⟨⟨i, hi, hs⟩, Hi', a', M i, ok, hv Hi' st.exi, fun σ2 ok2 => ⟨⟨i, hi, hs⟩, Hi', a', ok2, ?_⟩⟩
  show Fol K (M i) a' H' Hi' _ (oAt R M stop o i)
  unfold oAt
  by_cases hlt : i < stop
  · rw [if_pos hlt]
    exact fun σ3 H3 Hi3 a3 y ok3 => ⟨hlt, ⟨Hi3, a3, ok3, st.trans y⟩⟩
  · rw [if_neg hlt]
    rcases hf with ⟨h1, _⟩ | ⟨h1, d, S', h2⟩
    · omega
    · subst h2
      exact f.step st
theorem loop_end {K : PySem.W.Frag} {n : Nat} {R : Nat → Rho} {M : Nat → MS} {stop : Nat} {a : Ad} {H Hi : Hp} {D : Ends}
    (hf : (stop = n ∧ o = .nx (R n) (M n)) ∨ (stop < n ∧ ∃ d S', o = .rt d S')) (f : Fol K S a H Hi D o) {σ' : L2.St} {H' : Hp} (p : n ≤ stop ∧ LPv K R M S a H Hi n σ' H') : D.nx σ' H' := by
  rcases hf with ⟨h1, h2⟩ | ⟨h1, _⟩
  · subst h2
    obtain ⟨Hi', a', ok', st'⟩ := p.2.ex
    exact f σ' H' Hi' a' st' ok'
  · have := p.1
    omega
theorem loop_start {K : PySem.W.Frag} {R : Nat → Rho} {M : Nat → MS} {stop : Nat} {a : Ad} {H Hi : Hp} {σ : L2.St} (h0 : R 0 = ρ) (hM : M 0 = S0) (ok : Ok K Hi a σ H ρ S0) : 0 ≤ stop ∧ LPv K R M S0 a H Hi 0 σ H :=
  ⟨Nat.zero_le _, ⟨Hi, a, by rw [h0, hM]; exact ok, by rw [hM]; exact SStp.refl⟩⟩
theorem getD_of {xs : List PyData} {i : Nat} {x : PyData} (h : xs[i]? = some x) : xs.getD i .none = x := by rw [List.getD_eq_getElem?_getD, h]; rfl
theorem get_lt {xs : List PyData} {i : Nat} (h : i < xs.length) : xs[i]? = some (xs.getD i .none) := by rw [List.getD_eq_getElem?_getD, List.getElem?_eq_getElem h]; rfl
theorem ds_forL {xs : List PyData} (hc : X.calm = true) (hp : PassesOwn (model X.prog X.w) X.A X.env X.xe) (hi : DE X ρ S iter (.list xs) S0) (R T : Nat → Rho) (M : Nat → MS) (stop : Nat) (h0 : R 0 = ρ) (hM : M 0 = S0)
    (hg : ∀ i x, i ≤ stop → xs[i]? = some x → DG X tg (R i) x (T i)) (hb : ∀ i, i < xs.length → i ≤ stop → DSs X (T i) (M i) body (oAt R M stop o i))
    (hf : (stop = xs.length ∧ o = .nx (R xs.length) (M xs.length)) ∨ (stop < xs.length ∧ ∃ d S', o = .rt d S')) (hs : ∀ x, foldedSetIterable iter X.env x = pure x := by intro _; rfl) : DS X ρ S (.For tg iter body [] pos) o := by
  refine ⟨ps_mono (ps_for hp hc (pi_list hi.pe) (pg_any (ι := LoopI xs.length stop) (t := fun j => tG X.K (R j.i) (xs.getD j.i .none) (T j.i)) fun j => hg j.i _ j.le (get_lt j.lt))
    (pss_any (ι := LoopI xs.length stop) (t := fun j => tS X.K (T j.i) (M j.i) (oAt R M stop o j.i)) fun j => (hb j.i j.lt j.le).ps) hs) fun D σ H ⟨Hi, a, ok, f⟩ => ?_⟩
  refine ⟨Hi, a, ok, fun v H1 Hi1 s1 ok1 r1 => ?_⟩
  cases r1 with
  | lst hl hr =>
    rename_i l vs
    refine ⟨l, rfl, ⟨vs, .inl (.inl (ok1.ex _ _ hl))⟩, ?_⟩
    have f1 := f.step (SStp.of hi.like s1)
    have len := hr.len
    refine for_list (K := X.K) (a := l) (xs := vs) (fun i σ' H' => i ≤ stop ∧ LPv X.K R M S0 a H1 Hi1 i σ' H') (loop_start h0 hM ok1) (fun i σ' H' _ ⟨_, p⟩ => ?_) (fun i x σ' H' hx ⟨hst, p⟩ => ?_) (fun σ' H' p => ?_)
    · obtain ⟨Hi', a', ok', st'⟩ := p.ex
      exact .inl (.inl (ok'.ex _ _ (st'.exi _ _ hl)))
    · obtain ⟨d, hd, rd⟩ := hr.getV hx
      exact turn_ok (K := X.K) (n := xs.length) (T := T) (xs := fun i => xs.getD i .none) hf f1 (by rw [← len]; exact (List.getElem?_eq_some_iff.mp hx).1) hst p (v := x) fun Hi' e' => by
        show Rp X.K Hi' x (xs.getD i .none)
        rw [getD_of hd]; exact rd.mono e'
    · exact loop_end hf f1 (by rw [← len]; exact p)
theorem ds_forT {xs : List PyData} (hc : X.calm = true) (hp : PassesOwn (model X.prog X.w) X.A X.env X.xe) (hi : DE X ρ S iter (.tuple xs) S0) (R T : Nat → Rho) (M : Nat → MS) (stop : Nat) (h0 : R 0 = ρ) (hM : M 0 = S0)
    (hg : ∀ i x, i ≤ stop → xs[i]? = some x → DG X tg (R i) x (T i)) (hb : ∀ i, i < xs.length → i ≤ stop → DSs X (T i) (M i) body (oAt R M stop o i))
    (hf : (stop = xs.length ∧ o = .nx (R xs.length) (M xs.length)) ∨ (stop < xs.length ∧ ∃ d S', o = .rt d S')) (hs : ∀ x, foldedSetIterable iter X.env x = pure x := by intro _; rfl) : DS X ρ S (.For tg iter body [] pos) o := by
  refine ⟨ps_mono (ps_for hp hc (pi_tup hi.pe) (pg_any (ι := LoopI xs.length stop) (t := fun j => tG X.K (R j.i) (xs.getD j.i .none) (T j.i)) fun j => hg j.i _ j.le (get_lt j.lt))
    (pss_any (ι := LoopI xs.length stop) (t := fun j => tS X.K (T j.i) (M j.i) (oAt R M stop o j.i)) fun j => (hb j.i j.lt j.le).ps) hs) fun D σ H ⟨Hi, a, ok, f⟩ => ?_⟩
  refine ⟨Hi, a, ok, fun v H1 Hi1 s1 ok1 r1 => ?_⟩
  cases r1 with
  | tup hl hr =>
    rename_i l vs
    refine ⟨l, rfl, ⟨vs, ok1.ex.tup hl⟩, ?_⟩
    have f1 := f.step (SStp.of hi.like s1)
    have len := hr.len
    refine for_tup (K := X.K) (a := l) (xs := vs) (fun i σ' H' => i ≤ stop ∧ LPv X.K R M S0 a H1 Hi1 i σ' H') (loop_start h0 hM ok1) (fun i σ' H' _ ⟨_, p⟩ => ?_) (fun i x σ' H' hx ⟨hst, p⟩ => ?_) (fun σ' H' p => ?_)
    · obtain ⟨Hi', a', ok', st'⟩ := p.ex
      exact ok'.ex.tup (st'.exi.tup hl)
    · obtain ⟨d, hd, rd⟩ := hr.getV hx
      exact turn_ok (K := X.K) (n := xs.length) (T := T) (xs := fun i => xs.getD i .none) hf f1 (by rw [← len]; exact (List.getElem?_eq_some_iff.mp hx).1) hst p (v := x) fun Hi' e' => by
        show Rp X.K Hi' x (xs.getD i .none)
        rw [getD_of hd]; exact rd.mono e'
    · exact loop_end hf f1 (by rw [← len]; exact p)
/-- over a range from lo, n turns -/
theorem range_reads {K : PySem.W.Frag} {n : Nat} {lo : Int} {R T : Nat → Rho} {M : Nat → MS} {stop : Nat} {a : Ad} {H1 Hi1 : Hp} {D : Ends} {σ : L2.St} (h0 : R 0 = ρ) (hM : M 0 = S0)
    (hf : (stop = n ∧ o = .nx (R n) (M n)) ∨ (stop < n ∧ ∃ d S', o = .rt d S')) (ok1 : Ok K Hi1 a σ H1 ρ S0) (f1 : Fol K S0 a H1 Hi1 D o) :
    ∃ W : Nat → Nat → L2.St → Hp → Prop, (∃ m, W 0 m σ H1) ∧ ∀ i m σ H, W i m σ H → ((Itr lo n).stop i H ∧ D.nx σ H) ∨ ((Itr lo n).go i H ∧ ∃ N : L2.St → Hp → Prop, (∀ σ' H', N σ' H' → ∃ m', m' < m ∧ W (i + 1) m' σ' H') ∧
      ∀ x H', (Itr lo n).yld i H x H' → (gAny (fun j : LoopI n stop => tG K (R j.i) (.int (lo + j.i)) (T j.i))) x σ H' fun σ2 H2 => (tAny (fun j : LoopI n stop => tS K (T j.i) (M j.i) (oAt R M stop o j.i))) { D with nx := N, ct := N, bk := D.nx } σ2 H2) :=
  for_range (lo := lo) (n := n) (fun i σ' H' => i ≤ stop ∧ LPv K R M S0 a H1 Hi1 i σ' H') (loop_start h0 hM ok1) (fun i σ' H' hi ⟨hst, p⟩ =>
    turn_ok (K := K) (n := n) (T := T) (xs := fun i => .int (lo + i)) hf f1 hi hst p (v := .int (lo + i)) fun Hi' e' => .int _) (fun σ' H' p => loop_end hf f1 p)
theorem ds_forR1 {n : Int} {e : Expr} {p p2 : Pos} (hc : X.calm = true) (hp : PassesOwn (model X.prog X.w) X.A X.env X.xe) (hgl : Gl X "range") (hm : X.mg "range" = none) (ha : DA X ρ S [e] [.int n] S0) (hn : -(2 ^ 62) ≤ n ∧ n < 2 ^ 62) (R T : Nat → Rho) (M : Nat → MS) (stop : Nat) (h0 : R 0 = ρ) (hM : M 0 = S0)
    (hg : ∀ i : Nat, i ≤ stop → i < n.toNat → DG X tg (R i) (.int (0 + i)) (T i)) (hb : ∀ i, i < n.toNat → i ≤ stop → DSs X (T i) (M i) body (oAt R M stop o i))
    (hf : (stop = n.toNat ∧ o = .nx (R n.toNat) (M n.toNat)) ∨ (stop < n.toNat ∧ ∃ d S', o = .rt d S')) (hst : starEach [e] X.env = [(false, eval e X.env)] := by rfl) (hs : ∀ x, foldedSetIterable (.Call (.Name "range" p) [e] [] p2) X.env x = pure x := by intro _; rfl) :
    DS X ρ S (.For tg (.Call (.Name "range" p) [e] [] p2) body [] pos) o := by
  refine ⟨ps_mono (ps_for hp hc (pi_range1 hgl hm ha.pa hst) (pg_any (ι := LoopI n.toNat stop) (t := fun j => tG X.K (R j.i) (.int (0 + j.i)) (T j.i)) fun j => hg j.i j.le j.lt)
    (pss_any (ι := LoopI n.toNat stop) (t := fun j => tS X.K (T j.i) (M j.i) (oAt R M stop o j.i)) fun j => (hb j.i j.lt j.le).ps) hs) fun D σ H ⟨Hi, a, ok, f⟩ => ?_⟩
  refine ⟨Hi, a, ok, fun vs H1 Hi1 s1 ok1 r1 => ?_⟩
  cases r1 with
  | cons r1 r2 =>
    cases r2
    cases r1
    exact ⟨n, rfl, hn.1, hn.2, range_reads h0 hM hf ok1 (f.step (SStp.of ha.like s1))⟩
theorem ds_forR2 {lo n : Int} {e e2 : Expr} {p p2 : Pos} (hc : X.calm = true) (hp : PassesOwn (model X.prog X.w) X.A X.env X.xe) (hgl : Gl X "range") (hm : X.mg "range" = none) (ha : DA X ρ S [e, e2] [.int lo, .int n] S0) (hn : -(2 ^ 62) ≤ lo ∧ lo < 2 ^ 62 ∧ -(2 ^ 62) ≤ n ∧ n < 2 ^ 62) (R T : Nat → Rho) (M : Nat → MS) (stop : Nat) (h0 : R 0 = ρ) (hM : M 0 = S0)
    (hg : ∀ i : Nat, i ≤ stop → i < (n - lo).toNat → DG X tg (R i) (.int (lo + i)) (T i)) (hb : ∀ i, i < (n - lo).toNat → i ≤ stop → DSs X (T i) (M i) body (oAt R M stop o i))
    (hf : (stop = (n - lo).toNat ∧ o = .nx (R (n - lo).toNat) (M (n - lo).toNat)) ∨ (stop < (n - lo).toNat ∧ ∃ d S', o = .rt d S'))
    (hst : starEach [e, e2] X.env = [(false, eval e X.env), (false, eval e2 X.env)] := by rfl) (hst2 : starEach [e2] X.env = [(false, eval e2 X.env)] := by rfl) (hs : ∀ x, foldedSetIterable (.Call (.Name "range" p) [e, e2] [] p2) X.env x = pure x := by intro _; rfl) :
    DS X ρ S (.For tg (.Call (.Name "range" p) [e, e2] [] p2) body [] pos) o := by
  refine ⟨ps_mono (ps_for hp hc (pi_range2 hgl hm ha.pa hst hst2) (pg_any (ι := LoopI (n - lo).toNat stop) (t := fun j => tG X.K (R j.i) (.int (lo + j.i)) (T j.i)) fun j => hg j.i j.le j.lt)
    (pss_any (ι := LoopI (n - lo).toNat stop) (t := fun j => tS X.K (T j.i) (M j.i) (oAt R M stop o j.i)) fun j => (hb j.i j.lt j.le).ps) hs) fun D σ H ⟨Hi, a, ok, f⟩ => ?_⟩
  refine ⟨Hi, a, ok, fun vs H1 Hi1 s1 ok1 r1 => ?_⟩
  cases r1 with
  | cons r1 r2 =>
    cases r2 with
    | cons r2 r3 =>
      cases r3
      cases r1
      cases r2
      exact ⟨lo, n, rfl, hn, range_reads h0 hM hf ok1 (f.step (SStp.of ha.like s1))⟩
/-- while: the state by α, what holds of it, what falls -/
theorem ds_while {α : Type} (hp : PassesOwn (model X.prog X.w) X.A X.env X.xe) (R : α → Rho) (M : α → MS) (P : α → Prop) (m : α → Nat) (t : α → Bool) (nxt : α → α) (hc : ∀ a, P a → DT X (R a) (M a) c (t a) (M a))
    (hb : ∀ a, P a → t a = true → P (nxt a) ∧ m (nxt a) < m a ∧ DSs X (R a) (M a) body (.nx (R (nxt a)) (M (nxt a)))) (a0 : α) (h0 : P a0) :
    ∃ a1, P a1 ∧ t a1 = false ∧ DS X (R a0) (M a0) (.While c body [] pos) (.nx (R a1) (M a1)) := by
  have main : ∀ n a, m a ≤ n → P a → ∃ a1, P a1 ∧ t a1 = false ∧ ∃ k, (Nat.repeat nxt k a = a1 ∧ ∀ j, j < k → P (Nat.repeat nxt j a) ∧ t (Nat.repeat nxt j a) = true) := by
    intro n
    induction n with
    | zero =>
      intro a hm hP
      cases ht : t a with
      | false => exact ⟨a, hP, ht, 0, rfl, fun j hj => absurd hj (Nat.not_lt_zero _)⟩
      | true => have := (hb a hP ht).2.1; omega
    | succ n ih =>
      intro a hm hP
      cases ht : t a with
      | false => exact ⟨a, hP, ht, 0, rfl, fun j hj => absurd hj (Nat.not_lt_zero _)⟩
      | true =>
        obtain ⟨p1, l1, _⟩ := hb a hP ht
        obtain ⟨a1, q1, q2, k, e1, e2⟩ := ih (nxt a) (by omega) p1
        have sh : ∀ j, Nat.repeat nxt (j + 1) a = Nat.repeat nxt j (nxt a) := by
          intro j
          induction j with
          | zero => rfl
          | succ j ihj => show nxt (Nat.repeat nxt (j + 1) a) = nxt (Nat.repeat nxt j (nxt a)); rw [ihj]
        refine ⟨a1, q1, q2, k + 1, (sh k).trans e1, fun j hj => ?_⟩
        cases j with
        | zero => exact ⟨hP, ht⟩
        | succ j => rw [sh j]; exact e2 j (by omega)
  obtain ⟨a1, q1, q2, k, e1, e2⟩ := main (m a0) a0 (Nat.le_refl _) h0
  refine ⟨a1, q1, q2, ?_⟩
  let J := { a : α // P a }
  let J1 := { a : α // P a ∧ t a = true }
  refine ⟨ps_mono (ps_while hp (pt_any (ι := J) (t := fun j => tDT X.K (R j.1) (M j.1) (t j.1) (M j.1)) fun j => (hc j.1 j.2).pt)
    (pss_any (ι := J1) (t := fun j => tS X.K (R j.1) (M j.1) (.nx (R (nxt j.1)) (M (nxt j.1)))) fun j => ((hb j.1 j.2.1 j.2.2).2.2).ps)) fun D σ H ⟨Hi, a, ok, f⟩ => ?_⟩
  refine ⟨fun n σ' H' => ∃ j, j + n = k ∧ LPv X.K (fun i => R (Nat.repeat nxt i a0)) (fun i => M (Nat.repeat nxt i a0)) (M a0) a H Hi j σ' H', ⟨k, 0, by omega, ⟨Hi, a, ok, SStp.refl⟩⟩, ?_⟩
  rintro n σ1 H1 ⟨j, hj, p⟩
  obtain ⟨Hj, aj, okj, stj⟩ := p.ex
  by_cases hjk : j < k
  · obtain ⟨pj, tj⟩ := e2 j hjk
    refine ⟨⟨_, pj⟩, Hj, aj, okj, fun H2 Hi2 s2 ok2 => ?_⟩
    show if t (Nat.repeat nxt j a0) = true then _ else _
    rw [if_pos tj]
    refine ⟨fun σ' H' => LPv X.K (fun i => R (Nat.repeat nxt i a0)) (fun i => M (Nat.repeat nxt i a0)) (M a0) a H Hi (j + 1) σ' H', fun σ' H' q => ⟨n - 1, by omega, j + 1, by omega, q⟩, ⟨_, pj, tj⟩, Hi2, aj, ok2, fun σ' H' Hi' a' y o' => ?_⟩
    exact ⟨Hi', a', o', (stj.trans (SStp.of Like.rfl' s2)).trans y⟩
  · have ejk : j = k := by omega
    subst ejk
    have okj' : Ok X.K Hj aj σ1 H1 (R a1) (M a1) := by rw [← e1]; exact okj
    have stj' : SStp (M a0) (M a1) a aj H H1 Hi Hj := by rw [← e1]; exact stj
    refine ⟨⟨a1, q1⟩, Hj, aj, okj', fun H2 Hi2 s2 ok2 => ?_⟩
    show if t a1 = true then _ else _
    rw [q2, if_neg Bool.false_ne_true]
    exact f σ1 H2 Hi2 aj (stj'.trans (SStp.of Like.rfl' s2)) ok2
end
end G
namespace G
open PySem PySem.Spec PyProof.Rows L2
section
variable {X : Cx} {K : PySem.W.Frag} {ρ ρ1 ρ2 : Rho} {S S1 S2 S3 : MS} {e a b c : Expr} {es : List Expr} {d da db dc : PyData} {ds : List PyData} {pos : Pos} {x y z : Bool}

/-! ### readings of values, over data -/
theorem rv_I0 {g : Int → Int → V} {i j : Int} (h : ∀ H, Rp K H (g i j) d) : RvD K (rI0 g) (.int i) (.int j) d := fun Hi x y H Q e rx ry q => by
  cases rx; cases ry
  exact ⟨i, j, rfl, rfl, q _ H Hi (PSt.refl e) (h Hi)⟩
theorem rv_I {C : Int → Int → Prop} {g : Int → Int → V} {i j : Int} (hc : C i j) (h : ∀ H, Rp K H (g i j) d) : RvD K (rI C g) (.int i) (.int j) d := fun Hi x y H Q e rx ry q => by
  cases rx; cases ry
  exact ⟨i, j, rfl, rfl, hc, q _ H Hi (PSt.refl e) (h Hi)⟩
theorem ru_I {g : Int → V} {i : Int} (h : ∀ H, Rp K H (g i) d) : RuD K (rU g) (.int i) d := fun Hi x H Q e rx q => by
  cases rx
  exact ⟨i, rfl, q _ H Hi (PSt.refl e) (h Hi)⟩
theorem de_add {i j : Int} (ha : DE X ρ S a (.int i) S1) (hb : DE X ρ S1 b (.int j) S2) : DE X ρ S (.BinOp a .Add b pos) (.int (i + j)) S2 := de_op op_add ha hb (rv_I0 fun _ => .int _)
theorem de_sub {i j : Int} (ha : DE X ρ S a (.int i) S1) (hb : DE X ρ S1 b (.int j) S2) : DE X ρ S (.BinOp a .Sub b pos) (.int (i - j)) S2 := de_op op_sub ha hb (rv_I0 fun _ => .int _)
theorem de_mul {i j : Int} (ha : DE X ρ S a (.int i) S1) (hb : DE X ρ S1 b (.int j) S2) (hm : CMulW i j) : DE X ρ S (.BinOp a .Mult b pos) (.int (i * j)) S2 := de_op op_mulW ha hb (rv_I hm fun _ => .int _)
/-- one side small -/
theorem de_muls {i j : Int} (ha : DE X ρ S a (.int i) S1) (hb : DE X ρ S1 b (.int j) S2) (hm : CMul i j) : DE X ρ S (.BinOp a .Mult b pos) (.int (i * j)) S2 := de_op op_mul ha hb (rv_I hm fun _ => .int _)
theorem op_fdivX : OpR X (binaryOp .FloorDiv) (rI (fun _ j => j ≠ 0 ∧ j.natAbs.log2 < 9000) fun i j => .int (i.fdiv j)) := opI fun i j _ _ _ _ _ hc q => floordiv_int hc.1 q (.inl (PyProof.noPylong_of_log2 hc.2))
theorem de_fdiv {i j : Int} (ha : DE X ρ S a (.int i) S1) (hb : DE X ρ S1 b (.int j) S2) (h0 : j ≠ 0) (h9 : j.natAbs.log2 < 9000) : DE X ρ S (.BinOp a .FloorDiv b pos) (.int (i.fdiv j)) S2 := de_op op_fdivX ha hb (rv_I ⟨h0, h9⟩ fun _ => .int _)
theorem de_mod {i j : Int} (ha : DE X ρ S a (.int i) S1) (hb : DE X ρ S1 b (.int j) S2) (h0 : j ≠ 0) : DE X ρ S (.BinOp a .Mod b pos) (.int (i.fmod j)) S2 := de_op op_modN ha hb (rv_I h0 fun _ => .int _)
theorem de_neg {i : Int} (ha : DE X ρ S a (.int i) S1) : DE X ρ S (.UnaryOp .USub a pos) (.int (-i)) S1 := de_un un_neg ha (ru_I fun _ => .int _)
/-! comparisons of ints -/
theorem rv_lt {i j : Int} : RvD K (rI0 fun i j => .bl (decide (i < j))) (.int i) (.int j) (.bool (decide (i < j))) := rv_I0 fun _ => .bl _
theorem rv_le {i j : Int} : RvD K (rI0 fun i j => .bl (decide (i ≤ j))) (.int i) (.int j) (.bool (decide (i ≤ j))) := rv_I0 fun _ => .bl _
theorem rv_gt {i j : Int} : RvD K (rI0 fun i j => .bl (decide (j < i))) (.int i) (.int j) (.bool (decide (j < i))) := rv_I0 fun _ => .bl _
theorem rv_ge {i j : Int} : RvD K (rI0 fun i j => .bl (decide (j ≤ i))) (.int i) (.int j) (.bool (decide (j ≤ i))) := rv_I0 fun _ => .bl _
theorem rv_eqI {i j : Int} : RvD K rEq (.int i) (.int j) (.bool (decide (i = j))) := fun Hi x y H Q e rx ry q => by
  cases rx; cases ry
  refine ⟨rfl, q _ H Hi (PSt.refl e) ?_⟩
  have h : decide (V.int i = V.int j) = decide (i = j) := by
    by_cases h : i = j
    · subst h; simp
    · rw [decide_eq_false h, decide_eq_false (fun z => h (V.int.inj z))]
  rw [h]; exact .bl _
theorem rv_neI {i j : Int} : RvD K rNe (.int i) (.int j) (.bool (!decide (i = j))) := fun Hi x y H Q e rx ry q => by
  cases rx; cases ry
  refine ⟨rfl, q _ H Hi (PSt.refl e) ?_⟩
  have h : decide (V.int i = V.int j) = decide (i = j) := by
    by_cases h : i = j
    · subst h; simp
    · rw [decide_eq_false h, decide_eq_false (fun z => h (V.int.inj z))]
  rw [h]; exact .bl _
theorem rv_eqS {i j : Str} : RvD K rEq (.str i) (.str j) (.bool (decide (i = j))) := fun Hi x y H Q e rx ry q => by
  cases rx; cases ry
  refine ⟨rfl, q _ H Hi (PSt.refl e) ?_⟩
  have h : decide (V.str i = V.str j) = decide (i = j) := by
    by_cases h : i = j
    · subst h; simp
    · rw [decide_eq_false h, decide_eq_false (fun z => h (V.str.inj z))]
  rw [h]; exact .bl _
theorem rv_neS {i j : Str} : RvD K rNe (.str i) (.str j) (.bool (!decide (i = j))) := fun Hi x y H Q e rx ry q => by
  cases rx; cases ry
  refine ⟨rfl, q _ H Hi (PSt.refl e) ?_⟩
  have h : decide (V.str i = V.str j) = decide (i = j) := by
    by_cases h : i = j
    · subst h; simp
    · rw [decide_eq_false h, decide_eq_false (fun z => h (V.str.inj z))]
  rw [h]; exact .bl _
/-! == at depth -/
mutual
theorem Rp.dp {H : Hp} : ∀ {d : PyData} {v : V}, d.canLay0 = true → Rp K H v d → Dp K H v d
  | _, _, _, .non => .non
  | _, _, _, .bl b => .bl b
  | _, _, _, .int i => .int i
  | _, _, _, .str x => .str x
  | .list ds, _, h, .lst e hs => .lst (.inl (.inl e)) (RpAll.dp (by simpa [PyData.canLay0] using h) hs)
  | .tuple ds, _, h, .tup e hs => .tup e (RpAll.dp (by simpa [PyData.canLay0] using h) hs)
  | _, _, h, .emp e => by simp [PyData.canLay0] at h
theorem RpAll.dp {H : Hp} : ∀ {ds : List PyData} {vs : List V}, PyData.canLayAll0 ds = true → RpAll K H vs ds → DpAll K H vs ds
  | _, _, _, .nil => .nil
  | d :: ds, _, h, .cons a b => by
    have h' : d.canLay0 = true ∧ PyData.canLayAll0 ds = true := by simpa [PyData.canLayAll0] using h
    exact .cons (Rp.dp h'.1 a) (RpAll.dp h'.2 b)
end
theorem canLay_of {d : PyData} (h : SeqAt.shaped d = true) : d.canLay0 = true := SeqAt.canLay_of_shaped h
theorem rv_eqD (ha : SeqAt.shaped da = true) (hb : SeqAt.shaped db = true) : RvD K (rEqD K) da db (.bool (PyData.eqv da db)) := fun Hi x y H Q e rx ry q =>
  ⟨da, db, (rx.mono e).dp (canLay_of ha), (ry.mono e).dp (canLay_of hb), ha, hb, q _ H Hi (PSt.refl e) (.bl _)⟩
theorem rv_neD (ha : SeqAt.shaped da = true) (hb : SeqAt.shaped db = true) : RvD K (rNeD K) da db (.bool (!PyData.eqv da db)) := fun Hi x y H Q e rx ry q =>
  ⟨da, db, (rx.mono e).dp (canLay_of ha), (ry.mono e).dp (canLay_of hb), ha, hb, q _ H Hi (PSt.refl e) (.bl _)⟩
/-! is None -/
def isN : PyData → Bool
  | .none => true
  | _ => false
theorem rp_non {H : Hp} {v : V} (h : Rp K H v d) : decide (v = .non) = isN d := by
  cases h <;> simp [isN]
theorem rv_isN : RvD K (fun x y H Q => y = .non ∧ Q (.bl (decide (x = .non))) H) da .none (.bool (isN da)) := fun Hi x y H Q e rx ry q => by
  have hx := rp_non rx
  cases ry
  exact ⟨rfl, by rw [hx]; exact q _ H Hi (PSt.refl e) (.bl _)⟩
theorem rv_notN : RvD K (fun x y H Q => y = .non ∧ Q (.bl (!decide (x = .non))) H) da .none (.bool (!isN da)) := fun Hi x y H Q e rx ry q => by
  have hx := rp_non rx
  cases ry
  exact ⟨rfl, by rw [hx]; exact q _ H Hi (PSt.refl e) (.bl _)⟩
/-! in, not in, over ints -/
theorem inV_int {i : Int} : ∀ ns : List Int, inV (.int i) (ns.map V.int) = decide (i ∈ ns)
  | [] => rfl
  | n :: ns => by
    unfold inV
    rw [List.map_cons, List.any_cons]
    have := inV_int (i := i) ns
    unfold inV at this
    rw [this]
    show (n == i || _) = _
    by_cases h : n = i
    · subst h; simp
    · have h' : ¬ i = n := fun z => h z.symm
      rw [beq_eq_false_iff_ne.mpr h]
      simp [h']
theorem flat_ints : ∀ ns : List Int, (ns.map V.int).all flatV = true
  | [] => rfl
  | n :: ns => by rw [List.map_cons, List.all_cons, flat_ints ns]; rfl
theorem rv_in {i : Int} {ns : List Int} (h : db = .list (ns.map .int) ∨ db = .tuple (ns.map .int)) : RvD K (rIn K false) (.int i) db (.bool (decide (i ∈ ns))) := fun Hi x y H Q e rx ry q => by
  cases rx
  rcases h with h | h
  · subst h
    cases ry with
    | lst hl hr =>
      rw [hr.ints] at hl
      refine ⟨_, _, rfl, .inl (.inl (.inl (e _ _ hl))), rfl, flat_ints ns, ?_⟩
      show Q (.bl (inV (.int i) (ns.map V.int))) H
      rw [inV_int]; exact q _ H Hi (PSt.refl e) (.bl _)
  · subst h
    cases ry with
    | tup hl hr =>
      rw [hr.ints] at hl
      refine ⟨_, _, rfl, .inr (e.tup hl), rfl, flat_ints ns, ?_⟩
      show Q (.bl (inV (.int i) (ns.map V.int))) H
      rw [inV_int]; exact q _ H Hi (PSt.refl e) (.bl _)
theorem rv_notIn {i : Int} {ns : List Int} (h : db = .list (ns.map .int) ∨ db = .tuple (ns.map .int)) : RvD K (rIn K true) (.int i) db (.bool (!decide (i ∈ ns))) := fun Hi x y H Q e rx ry q => by
  cases rx
  rcases h with h | h
  · subst h
    cases ry with
    | lst hl hr =>
      rw [hr.ints] at hl
      refine ⟨_, _, rfl, .inl (.inl (.inl (e _ _ hl))), rfl, flat_ints ns, ?_⟩
      show Q (.bl (!inV (.int i) (ns.map V.int))) H
      rw [inV_int]; exact q _ H Hi (PSt.refl e) (.bl _)
  · subst h
    cases ry with
    | tup hl hr =>
      rw [hr.ints] at hl
      refine ⟨_, _, rfl, .inr (e.tup hl), rfl, flat_ints ns, ?_⟩
      show Q (.bl (!inV (.int i) (ns.map V.int))) H
      rw [inV_int]; exact q _ H Hi (PSt.refl e) (.bl _)
/-! subscripts -/
theorem atI_rp {H : Hp} {vs : List V} {i : Int} (hr : RpAll K H vs ds) (h : atI ds i = some d) : ∃ v, atI vs i = some v ∧ Rp K H v d := by
  unfold atI at h ⊢
  rw [hr.len]
  cases q : ixN ds.length i with
  | none => rw [q] at h; cases h
  | some j =>
    rw [q] at h
    exact hr.get (i := j) h
theorem rv_ixL {i : Int} (h : atI ds i = some d) : RvD K (rIx K) (.list ds) (.int i) d := fun Hi x y H Q e rx ry q => by
  cases ry
  cases rx with
  | lst hl hr =>
    obtain ⟨v, h1, h2⟩ := atI_rp hr h
    exact .inl ⟨_, _, i, v, rfl, rfl, .inl (.inl (e _ _ hl)), h1, q _ H Hi (PSt.refl e) h2⟩
theorem rv_ixT {i : Int} (h : atI ds i = some d) : RvD K (rIx K) (.tuple ds) (.int i) d := fun Hi x y H Q e rx ry q => by
  cases ry
  cases rx with
  | tup hl hr =>
    obtain ⟨v, h1, h2⟩ := atI_rp hr h
    exact .inr (.inl ⟨_, _, i, v, rfl, rfl, e.tup hl, h1, q _ H Hi (PSt.refl e) h2⟩)
theorem de_ix {op : PyData} {i : Int} (ha : DE X ρ S a da S1) (hb : DE X ρ S1 b (.int i) S2) (hr : RvD X.K (rIx X.K) da (.int i) d) (hs : PlainIx b := by intro _ _; rfl) : DE X ρ S (.Subscript a b pos) d S2 :=
  ⟨ha.like.trans hb.like, pe_mono (pe_ix ix_seq ha.pe hb.pe hs) (tOp_of ha.like hb.like hr)⟩
theorem de_ixL {i : Int} (ha : DE X ρ S a (.list ds) S1) (hb : DE X ρ S1 b (.int i) S2) (h : atI ds i = some d) (hs : PlainIx b := by intro _ _; rfl) : DE X ρ S (.Subscript a b pos) d S2 := de_ix (op := .none) ha hb (rv_ixL h) hs
theorem de_ixT {i : Int} (ha : DE X ρ S a (.tuple ds) S1) (hb : DE X ρ S1 b (.int i) S2) (h : atI ds i = some d) (hs : PlainIx b := by intro _ _; rfl) : DE X ρ S (.Subscript a b pos) d S2 := de_ix (op := .none) ha hb (rv_ixT h) hs
/-! list + list -/
theorem rv_cat {ds es : List PyData} (hz : ds.length + es.length ≤ 100000) : RvD K rCat (.list ds) (.list es) (.list (ds ++ es)) := fun Hi x y H Q e rx ry q => by
  cases rx with
  | lst h1 r1 =>
    cases ry with
    | lst h2 r2 =>
      refine ⟨_, _, _, _, rfl, rfl, e _ _ h1, e _ _ h2, Evl.sz_of (by rw [r1.len, r2.len]; exact hz), fun p hp => ?_⟩
      exact q _ _ _ (PSt.lay e hp) (.lst upd_same ((r1.mono (PSt.lay e hp).exi).app (r2.mono (PSt.lay e hp).exi)))
theorem de_cat {ds es : List PyData} (ha : DE X ρ S a (.list ds) S1) (hb : DE X ρ S1 b (.list es) S2) (hz : ds.length + es.length ≤ 100000) : DE X ρ S (.BinOp a .Add b pos) (.list (ds ++ es)) S2 := de_op op_cat ha hb (rv_cat hz)
/-! built-in functions -/
theorem rc_len (h : da = .list ds ∨ da = .tuple ds) : RcD K (fun xs H Q => ∃ p ys, xs = [.ref p] ∧ (SqL K H p ys ∨ SqT K H p ys) ∧ Q (.int ys.length) H) [da] (.int ds.length) := fun Hi xs H Q e r q => by
  cases r with
  | cons r1 r2 =>
    cases r2
    rcases h with h | h
    · subst h
      cases r1 with
      | lst hl hr => exact ⟨_, _, rfl, .inl (.inl (.inl (e _ _ hl))), by rw [hr.len]; exact q _ H Hi (PSt.refl e) (.int _)⟩
    · subst h
      cases r1 with
      | tup hl hr => exact ⟨_, _, rfl, .inr (e.tup hl), by rw [hr.len]; exact q _ H Hi (PSt.refl e) (.int _)⟩
theorem rc_abs {i : Int} : RcD K (fun xs H Q => ∃ i, xs = [.int i] ∧ Q (.int (if i < 0 then -i else i)) H) [.int i] (.int i.natAbs) := fun Hi xs H Q e r q => by
  cases r with
  | cons r1 r2 =>
    cases r2; cases r1
    refine ⟨i, rfl, ?_⟩
    have h : (if i < 0 then -i else i) = (i.natAbs : Int) := by split <;> omega
    rw [h]; exact q _ H Hi (PSt.refl e) (.int _)
theorem rc_max {i j : Int} : RcD K (fun xs H Q => ∃ i j, xs = [.int i, .int j] ∧ Q (.int (if j > i then j else i)) H) [.int i, .int j] (.int (max i j)) := fun Hi xs H Q e r q => by
  cases r with
  | cons r1 r2 =>
    cases r2 with
    | cons r2 r3 =>
      cases r3; cases r1; cases r2
      refine ⟨i, j, rfl, ?_⟩
      have h : (if j > i then j else i) = max i j := by split <;> omega
      rw [h]; exact q _ H Hi (PSt.refl e) (.int _)
theorem rc_min {i j : Int} : RcD K (fun xs H Q => ∃ i j, xs = [.int i, .int j] ∧ Q (.int (if j < i then j else i)) H) [.int i, .int j] (.int (min i j)) := fun Hi xs H Q e r q => by
  cases r with
  | cons r1 r2 =>
    cases r2 with
    | cons r2 r3 =>
      cases r3; cases r1; cases r2
      refine ⟨i, j, rfl, ?_⟩
      have h : (if j < i then j else i) = min i j := by split <;> omega
      rw [h]; exact q _ H Hi (PSt.refl e) (.int _)
theorem Vals.three : ∀ {x y z : V} {us : List Value}, Vals [x, y, z] us → ∃ u v w, us = [u, v, w] ∧ RelV x u ∧ RelV y v ∧ RelV z w
  | _, _, _, _, .cons a (.cons b (.cons c .nil)) => ⟨_, _, _, rfl, a, b, c⟩
def rMin3 : List V → Hp → VK → Prop := fun xs H Q => ∃ i j k : Int, xs = [.int i, .int j, .int k] ∧ Q (.int (min (min i j) k)) H
theorem call_min3 (hc : X.calm = true) : CallR X (.builtin "min") rMin3 := by
  intro pins s σ H xs us Q I r h
  obtain ⟨i, j, k, rfl, q⟩ := h
  obtain ⟨u, v, w, rfl, ⟨t, rfl⟩, ⟨t', rfl⟩, ⟨t'', rfl⟩⟩ := Vals.three r
  refine min_three_ints (I.ok.hd hc) fun h' tk k' => ⟨_, H, I.kept k', ?_, q⟩
  have e : min (min i j) k = if j < i then (if k < j then k else j) else (if k < i then k else i) := by
    split <;> split <;> omega
  rw [e]
  split <;> split <;> exact ⟨_, rfl⟩
theorem rc_min3 {i j k : Int} : RcD K rMin3 [.int i, .int j, .int k] (.int (min (min i j) k)) := fun Hi xs H Q e r q => by
  cases r with
  | cons r1 r2 =>
    cases r2 with
    | cons r2 r3 =>
      cases r3 with
      | cons r3 r4 =>
        cases r4; cases r1; cases r2; cases r3
        exact ⟨i, j, k, rfl, q _ H Hi (PSt.refl e) (.int _)⟩
theorem rc_int {i : Int} : RcD K (fun xs H Q => (∃ i, xs = [.int i] ∧ Q (.int i) H) ∨ ∃ k, xs = [.bl k] ∧ Q (.int (if k then 1 else 0)) H) [.int i] (.int i) := fun Hi xs H Q e r q => by
  cases r with
  | cons r1 r2 =>
    cases r2; cases r1
    exact .inl ⟨i, rfl, q _ H Hi (PSt.refl e) (.int _)⟩
theorem rc_tupL : RcD K (fun xs H Q => ∃ p ys, xs = [.ref p] ∧ ((SqL K H p ys ∧ ∀ l, H l = none → Q (.ref l) (upd H l (.tup ys))) ∨ (SqT K H p ys ∧ Q (.ref p) H))) [.list ds] (.tuple ds) := fun Hi xs H Q e r q => by
  cases r with
  | cons r1 r2 =>
    cases r2
    cases r1 with
    | lst hl hr =>
      refine ⟨_, _, rfl, .inl ⟨.inl (.inl (e _ _ hl)), fun p hp => ?_⟩⟩
      exact q _ _ _ (PSt.lay e hp) (.tup (SqT.of upd_same) (hr.mono (PSt.lay e hp).exi))
theorem rc_listT : RcD K (fun xs H Q => ∃ p ys, xs = [.ref p] ∧ (SqL K H p ys ∨ SqT K H p ys) ∧ ∀ l, H l = none → Q (.ref l) (upd H l (.lst ys))) [.tuple ds] (.list ds) := fun Hi xs H Q e r q => by
  cases r with
  | cons r1 r2 =>
    cases r2
    cases r1 with
    | tup hl hr =>
      refine ⟨_, _, rfl, .inr (e.tup hl), fun p hp => ?_⟩
      exact q _ _ _ (PSt.lay e hp) (.lst upd_same (hr.mono (PSt.lay e hp).exi))
theorem rc_all {bs : List Bool} : RcD K (rAll K) [.list (bs.map .bool)] (.bool (bs.all id)) := fun Hi xs H Q e r q => by
  cases r with
  | cons r1 r2 =>
    cases r2
    cases r1 with
    | lst hl hr =>
      rw [hr.bools] at hl
      exact ⟨_, bs, rfl, .inl (.inl (e _ _ hl)), q _ H Hi (PSt.refl e) (.bl _)⟩
theorem rc_gcd {i j : Int} : RcD K rGcd [.int i, .int j] (.int (Nat.gcd i.natAbs j.natAbs : Nat)) := fun Hi xs H Q e r q => by
  cases r with
  | cons r1 r2 =>
    cases r2 with
    | cons r2 r3 =>
      cases r3; cases r1; cases r2
      exact ⟨i, j, rfl, q _ H Hi (PSt.refl e) (.int _)⟩
theorem g4_args (a b c d : Value) : argsOk "math.gcd" ⟨[a, b, c, d], []⟩ := by unfold argsOk; kernel_rfl
theorem g4_run (a : Int) (t : Tok) (b : Int) (u : Tok) (c : Int) (v : Tok) (d : Int) (w : Tok) :
    PySem.Gives (Builtin.«math.gcd» ⟨[.int a t, .int b u, .int c v, .int d w], []⟩) (.int ((((((Nat.gcd 0 a.natAbs).gcd b.natAbs).gcd c.natAbs).gcd d.natAbs : Nat) : Int))) :=
  .of_wp fun M A E s Q h => by obtain ⟨hp, g, d, tk, os⟩ := s; wp_walk; exact ⟨_, rfl, h⟩
def rGcd4 : List V → Hp → VK → Prop := fun vs H Q => ∃ a b c d : Int, vs = [.int a, .int b, .int c, .int d] ∧ Q (.int ((((Nat.gcd a.natAbs b.natAbs).gcd c.natAbs).gcd d.natAbs : Nat) : Int)) H
theorem Vals.four : ∀ {x y z z' : V} {us : List Value}, Vals [x, y, z, z'] us → ∃ u v w w', us = [u, v, w, w'] ∧ RelV x u ∧ RelV y v ∧ RelV z w ∧ RelV z' w'
  | _, _, _, _, _, .cons a (.cons b (.cons c (.cons d .nil))) => ⟨_, _, _, _, rfl, a, b, c, d⟩
theorem cr_gcd4 : CallR X (.builtin "math.gcd") rGcd4 := by
  intro pins s σ H vs us Q I r h
  obtain ⟨a, b, c, d, rfl, q⟩ := h
  obtain ⟨u, v, w, w', rfl, ⟨t, rfl⟩, ⟨t', rfl⟩, ⟨t'', rfl⟩, ⟨t3, rfl⟩⟩ := Vals.four r
  have g := g4_run a t b t' c t'' d t3
  rw [Nat.gcd_zero_left] at g
  exact call_function_meets PySem.W.MGF.kind_gcd PySem.W.MGF.plain_gcd PySem.W.MGF.entry_gcd (g4_args _ _ _ _) g.meets (⟨.int _, H, I.tok _, ⟨_, rfl⟩, q⟩)
theorem rc_gcd4 {i j k l : Int} : RcD K rGcd4 [.int i, .int j, .int k, .int l] (.int ((((Nat.gcd i.natAbs j.natAbs).gcd k.natAbs).gcd l.natAbs : Nat) : Int)) := fun Hi xs H Q e r q => by
  cases r with
  | cons r1 r2 =>
    cases r2 with
    | cons r2 r3 =>
      cases r3 with
      | cons r3 r4 =>
        cases r4 with
        | cons r4 r5 =>
          cases r5; cases r1; cases r2; cases r3; cases r4
          exact ⟨i, j, k, l, rfl, q _ H Hi (PSt.refl e) (.int _)⟩
/-! isinstance -/
def tyN : PyData → String
  | .none => "NoneType"
  | .bool _ => "bool"
  | .int _ => "int"
  | .str _ => "str"
  | .list _ => "list"
  | .tuple _ => "tuple"
  | .dict _ => "dict"
theorem tyX_of {Hi H : Hp} {v : V} (e : Ex Hi H) (h : Rp K Hi v d) : TyX K H v (.type (tyN d)) := by
  cases h with
  | non => exact .base .non
  | bl b => exact .base (.bl b)
  | int i => exact .base (.int i)
  | str x => exact .base (.str x)
  | lst h _ => exact .base (.lst (e _ _ h))
  | tup h _ =>
    rcases h with (h | ⟨o, h⟩) | ⟨o, its, n, h1, h2, _⟩
    · exact .base (.tup (e _ _ h))
    · exact .fTuple (e _ _ h)
    · exact .kTuple h1 h2
  | emp h => exact .base (.dK (e _ _ h))
theorem rc_isi {T : String} {c : V} {k : Bool} (hk : kitB (tyN d) T = some k) : ∀ Hi x H (Q : VK), Ex Hi H → Rp K Hi x d → (∀ v H' Hi', PSt H H' Hi Hi' → Rp K Hi' v (.bool k) → Q v H') → rIsi K [x, .ty T] H Q := fun Hi x H Q e r q =>
  ⟨x, .ty T, .type (tyN d), .type T, k, rfl, .ty T, tyX_of e r, kit_ty hk, q _ H Hi (PSt.refl e) (.bl k)⟩
end
end G
namespace G
open PySem PySem.Spec PyProof.Rows L2
section
variable {X : Cx} {K : PySem.W.Frag} {ρ ρ1 ρ2 : Rho} {S S1 S2 S3 : MS} {e a b c : Expr} {es : List Expr} {d da db dc : PyData} {ds : List PyData} {pos p p2 : Pos} {x y z : Bool}

/-! ### built-ins by name -/
theorem de_cb {id : String} {x : Str} {r : List V → Hp → VK → Prop} (hc : CallR X (.builtin id) r) (hm : X.mg x = none) (hv : bootBuiltins x = some (.builtin id)) (ha : DA X ρ S (e :: es) ds S1) (hr : RcD X.K r ds d) (hg : Gl X x := by rfl) (hn : x ≠ "__name__" := by decide) (hdb : (x == ("__debug__" : Str)) = false := by decide)
    (he : starEach (e :: es) X.env = (false, eval e X.env) :: starEach es X.env := by rfl) (hpl : (backTo pos (starEach es X.env)).any (·.1) = false := by rfl) : DE X ρ S (.Call (.Name x p) (e :: es) [] pos) d S1 :=
  de_callR (fun hp => pe_callB hc hg hm hv hp hn hdb he hpl) ha hr
theorem de_ct {T : String} {x : Str} {r : List V → Hp → VK → Prop} (hc : CallR X (.type T) r) (hm : X.mg x = none) (hv : bootBuiltins x = some (.type T)) (ha : DA X ρ S (e :: es) ds S1) (hr : RcD X.K r ds d) (hg : Gl X x := by rfl) (hn : x ≠ "__name__" := by decide) (hdb : (x == ("__debug__" : Str)) = false := by decide)
    (he : starEach (e :: es) X.env = (false, eval e X.env) :: starEach es X.env := by rfl) (hpl : (backTo pos (starEach es X.env)).any (·.1) = false := by rfl) : DE X ρ S (.Call (.Name x p) (e :: es) [] pos) d S1 :=
  de_callR (fun hp => pe_callTy hc hg hm hv hp hn hdb he hpl) ha hr
theorem de_cf {id : String} {x : Str} {r : List V → Hp → VK → Prop} (hc : CallR X (.builtin id) r) (hm : X.mg x = some (.builtin id)) (ha : DA X ρ S (e :: es) ds S1) (hr : RcD X.K r ds d) (hg : Gl X x := by rfl) (hdb : (x == ("__debug__" : Str)) = false := by decide)
    (he : starEach (e :: es) X.env = (false, eval e X.env) :: starEach es X.env := by rfl) (hpl : (backTo pos (starEach es X.env)).any (·.1) = false := by rfl) : DE X ρ S (.Call (.Name x p) (e :: es) [] pos) d S1 :=
  de_callR (fun hp => pe_callBfun hc hg hm hp hdb he hpl) ha hr
theorem de_isi {T : String} {Tn : Str} {k : Bool} {p3 : Pos} (he : DE X ρ S e d S1) (hk : kitB (tyN d) T = some k) (hmi : X.mg "isinstance" = none) (hmT : X.mg Tn = none) (hv : bootBuiltins Tn = some (.type T)) (hg : Gl X "isinstance" := by rfl) (hg2 : Gl X Tn := by rfl) (hn : Tn ≠ "__name__" := by decide) (hdb : (Tn == ("__debug__" : Str)) = false := by decide)
    (h1 : starEach [e, .Name Tn p3] X.env = (false, eval e X.env) :: starEach [.Name Tn p3] X.env := by rfl) (h2 : starEach [.Name Tn p3] X.env = (false, eval (.Name Tn p3) X.env) :: starEach [] X.env := by rfl) (hpl : (backTo pos (starEach [.Name Tn p3] X.env)).any (·.1) = false := by rfl) :
    DE X ρ S (.Call (.Name "isinstance" p) [e, .Name Tn p3] [] pos) (.bool k) S1 :=
  ⟨he.like, pe_mono (pe_callB call_isi hg hmi (by decide +kernel) (pa_cons he.pe (pa_cons (pe_bltn (v := .ty T) hg2 hmT hv rfl hn hdb) pa_nil h2) h1) (by decide) (by decide) h1 hpl) fun σ H Q ⟨Hi, a, ok, f⟩ =>
    ⟨Hi, a, ok, fun v H1 Hi1 s1 ok1 r1 => rc_isi (c := .non) hk Hi1 v H1 Q ok1.ex r1 fun v' H' Hi' ps rv => f v' H' Hi' (s1.trans he.like ps.stp) (ok1.pure ps) rv⟩⟩
/-- a module's constant tuple -/
theorem de_glob {x : Str} {u : Value} {v : V} (hg : Gl X x) (hm : X.mg x = some u) (r : RelV v u) (hv : ∀ Hi, Rp X.K Hi v d) (hd : (x == ("__debug__" : Str)) = false := by decide) : DE X ρ S (.Name x pos) d S := de_c (pe_glob hg hm r hd) hv

/-! ### slices -/
theorem cut_rp {H : Hp} {vs : List V} {lo hi : Option Int} (hr : RpAll K H vs ds) : RpAll K H (cutV vs lo hi) ((ds.drop (HT.sIx ds.length 0 lo)).take (HT.sIx ds.length ds.length hi - HT.sIx ds.length 0 lo)) := by
  have tk : ∀ {vs : List V} {ds : List PyData} (n : Nat), RpAll K H vs ds → RpAll K H (vs.take n) (ds.take n) := by
    intro vs
    induction vs with
    | nil => intro ds n h; cases h; simp; exact .nil
    | cons v vs ih =>
      intro ds n h
      cases h with
      | cons a b =>
        cases n with
        | zero => exact .nil
        | succ n => exact .cons a (ih n b)
  have dr : ∀ {vs : List V} {ds : List PyData} (n : Nat), RpAll K H vs ds → RpAll K H (vs.drop n) (ds.drop n) := by
    intro vs
    induction vs with
    | nil => intro ds n h; cases h; simp; exact .nil
    | cons v vs ih =>
      intro ds n h
      cases h with
      | cons a b =>
        cases n with
        | zero => exact .cons a b
        | succ n => exact ih n b
  unfold cutV
  rw [hr.len]
  exact tk _ (dr _ hr)
theorem de_cutL {i : Int} {pp : Pos} (ha : DE X ρ S a (.list ds) S1) (hb : DE X ρ S1 b (.int i) S2) : DE X ρ S (.Subscript a (.Slice none (some b) none pp) pos) (.list (ds.take (HT.sIx ds.length ds.length (some i)))) S2 := by
  refine ⟨ha.like.trans hb.like, pe_mono (pe_slice sl_list ha.pe po_none (po_some hb.pe)) fun σ H Q ⟨Hi, a, ok, f⟩ => ⟨Hi, a, ok, fun v H1 Hi1 s1 ok1 r1 => ⟨Hi1, a, ok1, fun u H2 Hi2 s2 ok2 r2 => ⟨i, int_inv r2, ?_⟩⟩⟩⟩
  cases r1 with
  | lst hl hr =>
    rename_i l vs
    refine ⟨l, vs, rfl, .inl (.inl (ok2.ex _ _ (s2.exi _ _ hl))), fun p hp => ?_⟩
    have c := cut_rp (lo := none) (hi := some i) (hr.mono s2.exi)
    have ps := PSt.lay (o := .lst (cutV vs none (some i))) ok2.ex hp
    refine f _ _ _ ((s1.trans ha.like s2).trans (ha.like.trans hb.like) ps.stp) (ok2.pure ps) (.lst upd_same ?_)
    have := c.mono ps.exi
    rw [HT.sIx_none] at this
    simpa using this
theorem de_cutT {i : Int} {pp : Pos} (ha : DE X ρ S a (.tuple ds) S1) (hb : DE X ρ S1 b (.int i) S2) : DE X ρ S (.Subscript a (.Slice none (some b) none pp) pos) (.tuple (ds.take (HT.sIx ds.length ds.length (some i)))) S2 := by
  refine ⟨ha.like.trans hb.like, pe_mono (pe_slice sl_tupA ha.pe po_none (po_some hb.pe)) fun σ H Q ⟨Hi, a, ok, f⟩ => ⟨Hi, a, ok, fun v H1 Hi1 s1 ok1 r1 => ⟨Hi1, a, ok1, fun u H2 Hi2 s2 ok2 r2 => ⟨i, int_inv r2, ?_⟩⟩⟩⟩
  cases r1 with
  | tup hl hr =>
    rename_i l vs
    refine ⟨l, vs, rfl, ok2.ex.tup (s2.exi.tup hl), fun hw => ?_, fun hw p hp => ?_⟩
    · have e : ds.take (HT.sIx ds.length ds.length (some i)) = ds := by
        have h2 := hw.2
        rw [hr.len] at h2
        rw [h2, List.take_length]
      rw [e] at f
      exact f _ _ _ (s1.trans ha.like s2) ok2 (.tup (s2.exi.tup hl) (hr.mono s2.exi))
    · have c := cut_rp (lo := none) (hi := some i) (hr.mono s2.exi)
      have ps := PSt.lay (o := .tup (cutV vs none (some i))) ok2.ex hp
      refine f _ _ _ ((s1.trans ha.like s2).trans (ha.like.trans hb.like) ps.stp) (ok2.pure ps) (.tup (SqT.of upd_same) ?_)
      have := c.mono ps.exi
      rw [HT.sIx_none] at this
      simpa using this
theorem dg_lst {k : Nat} {n : Nat} (hc : X.calm = true) (h : DGs X es ρ ds ρ1) (hn : (assignEach es X.env).length = n := by rfl) (hst : (assignEach es X.env).findIdx? (·.1) = none := by rfl) (hl : ds.length = n := by rfl) : DG X (.Tuple es k pos) ρ (.list ds) ρ1 :=
  pg_mono (pg_unl hc h hn hst) fun v σ H Q ⟨Hi, a, S, ok, r, q⟩ => by
    cases r with
    | lst t rs => exact ⟨_, _, rfl, .inl (.inl (ok.ex _ _ t)), rs.len.trans hl, Hi, a, S, ok, rs, q⟩

/-! ### a list of one's own -/
def notOwn : Sl → Bool
  | .own => false
  | _ => true
theorem dss_own {i : Nat} {x : Str} {pos' : Pos} {sts : List Stmt} {o : Out} (hN : X.N.Nodup) (hi : X.N[i]? = some x) (hx : Loc X.env.scope x) (ha : DA X ρ S es ds S) (hz : ds.length ≤ 100000) (ho : S.own = none) (hno : ρ.all notOwn = true)
    (k : DSs X (ρ.set i .own) { S with own := some ds } sts o) (hs : swapsWith (.List es p) (some (.Name x pos')) pos.line X.env = pure false := by rfl)
    (hf : X.fn x = true ∨ X.env.scope.names.lookup x = some .local := by first | exact .inl rfl | exact .inr rfl | assumption) : DSs X ρ S (.Assign [.Name x pos'] (.List es p) pos :: sts) o := by
  refine ⟨pss_mono (pss_cons (ps_set hN hi hx (pe_lst ha.pa) hs hf) k.ps) fun D σ H ⟨Hi, a, ok, f⟩ => ?_⟩
  refine ⟨Hi, a, ok, fun vs H1 Hi1 s1 ok1 r1 => ⟨Evl.sz_of (by rw [r1.len]; exact hz), fun l hl => ?_⟩⟩
  have lH : H l = none := by
    cases q : H l with
    | none => rfl
    | some u => exact absurd hl (s1.there l (by rw [q]; exact fun z => by cases z))
  have lHi : Hi1 l = none := by
    cases q : Hi1 l with
    | none => rfl
    | some u => rw [ok1.ex l u q] at hl; cases hl
  have hq : S.src.isSome = true → a.p ≠ l ∧ a.q ≠ l := fun h => by
    obtain ⟨s, e⟩ := Option.isSome_iff_exists.mp h
    obtain ⟨h1, h2, h3, h4⟩ := ok1.src s e
    exact ⟨fun z => (by rw [z, hl] at h3; cases h3), fun z => (by rw [z, hl] at h4; cases h4)⟩
  refine ⟨Hi1, ⟨l, a.p, a.q⟩, ⟨?_, ?_, ?_, ?_, ?_, ?_⟩, ?_⟩
  · exact ok1.ex.trans (Ex.new hl)
  · rw [List.length_set, List.length_set]; exact ok1.len
  · intro j y e
    by_cases hj : j = i
    · subst hj
      by_cases hjl : j < ρ.length
      · rw [List.getElem?_set_self hjl] at e
        cases e
        show (σ.set j (some (V.ref l)))[j]? = _
        rw [List.getElem?_set_self (by rw [← ok1.len]; exact hjl)]
      · rw [List.getElem?_eq_none (by rw [List.length_set]; omega)] at e
        cases e
    · rw [List.getElem?_set_ne (Ne.symm hj)] at e
      have := ok1.sl j y e
      cases y with
      | no => trivial
      | dat d => obtain ⟨w, h1, h2⟩ := this; exact ⟨w, by rw [List.getElem?_set_ne (Ne.symm hj)]; exact h1, h2⟩
      | own => exact absurd (List.all_eq_true.mp hno _ (List.mem_of_getElem? e)) (by simp [notOwn])
      | src => show (σ.set i (some (V.ref l)))[j]? = _; rw [List.getElem?_set_ne (Ne.symm hj)]; exact this
      | cel => show (σ.set i (some (V.ref l)))[j]? = _; rw [List.getElem?_set_ne (Ne.symm hj)]; exact this
      | scr ns => obtain ⟨w, h1, h2⟩ := this; exact ⟨w, by rw [List.getElem?_set_ne (Ne.symm hj)]; exact h1, h2⟩
  · intro ds' e
    cases e
    exact ⟨lHi, vs, upd_same, r1⟩
  · intro s e
    obtain ⟨h1, h2, h3, h4⟩ := ok1.src s e
    have hne := hq (by rw [e]; rfl)
    exact ⟨h1, h2, by rw [upd_ne hne.1]; exact h3, by rw [upd_ne hne.2]; exact h4⟩
  · intro _ h2
    exact fun z => (hq h2).2 z.symm
  · refine f.step (SStp.trans (SStp.of Like.rfl' s1) ⟨?_, ?_, Ex.rfl', fun b _ _ z => z, fun _ => .inr hl, fun h => ⟨h, rfl, rfl⟩, fun h => .inl h⟩)
    · exact fun b u e _ => Ex.new hl b u e
    · exact fun b h => ex_there (Ex.new hl) b h

theorem own_ne {Hi H : Hp} {a : Ad} {σ : L2.St} (ok : Ok K Hi a σ H ρ S) (h : S.own = some ds) (hs : S.src.isSome = true) : a.p ≠ a.o ∧ a.q ≠ a.o := by
  obtain ⟨s, e⟩ := Option.isSome_iff_exists.mp hs
  obtain ⟨h1, h2, h3, h4⟩ := ok.src s e
  obtain ⟨g1, vs, g2, g3⟩ := ok.own ds h
  exact ⟨fun z => (by rw [z, g2] at h3; cases h3), fun z => ok.apart (by rw [h]; rfl) hs z.symm⟩
/-- x.append(e) on it -/
theorem ds_app {i : Nat} {x : Str} {apos cpos np : Pos} (hi : ρ[i]? = some .own) (hp : PE X (.Name x np) (tVar i)) (ho : S.own = some ds) (he : DE X ρ S e d S1) (hz : ds.length < 100000)
    (h1 : starEach [e] X.env = (false, eval e X.env) :: starEach [] X.env := by rfl)
    (pb : ∀ {to : TE} {t : TA}, PE X (.Name x np) to → PA X [e] t → PE X (.Call (.Attribute (.Name x np) "append" apos) [e] [] cpos) (tBM X.K "list" rAppend to t) := by intro to t h1 h2; exact pe_bm PySem.F.plainAttrs_list PySem.F.slot_list_append PySem.F.type_list_append mt_append h1 h2)
    (hs : swapsWith (.Call (.Attribute (.Name x np) "append" apos) [e] [] cpos) none pos.line X.env = pure false := by rfl) :
    DS X ρ S (.Expr (.Call (.Attribute (.Name x np) "append" apos) [e] [] cpos) pos) (.nx ρ { S1 with own := some (ds ++ [d]) }) := by
  have hpa : PA X [e] (tCons (tD X.K ρ S d S1) tNil) := pa_cons he.pe pa_nil h1
  refine ⟨ps_mono (ps_expr (pb hp hpa) hs) fun D σ H ⟨Hi, a, ok, f⟩ => ?_⟩
  have hsl := ok.sl i _ hi
  obtain ⟨g1, vs, g2, g3⟩ := ok.own ds ho
  refine ⟨.ref a.o, hsl, .inl ⟨rfl, vs, .inl (.inl g2)⟩, Hi, a, ok, fun v H1 Hi1 s1 ok1 r1 => ?_⟩
  have e1 : S1.own = some ds := he.like.1.trans ho
  obtain ⟨k1, vs1, k2, k3⟩ := ok1.own ds e1
  refine ⟨a.o, vs1, v, rfl, rfl, k2, Evl.sz_lt (by rw [k3.len]; exact hz), ?_⟩
  refine f σ _ Hi1 a ?_ ⟨?_, ok1.len, ok1.sl, ?_, ?_, fun _ h2 => ok1.apart (by rw [e1]; rfl) h2⟩
  · refine (SStp.of he.like s1).trans ⟨?_, ?_, Ex.rfl', fun b _ _ z => z, fun _ => .inl ⟨by rw [e1]; rfl, rfl⟩, fun h => ⟨h, rfl, rfl⟩, fun h => .inl h⟩
    · intro b u e n
      have : b ≠ a.o := fun z => n (.inl ⟨by rw [e1]; rfl, z⟩)
      rw [upd_ne this]; exact e
    · intro b h
      by_cases hb : b = a.o
      · subst hb; rw [upd_same]; exact fun z => by cases z
      · rw [upd_ne hb]; exact h
  · intro b u e
    by_cases hb : b = a.o
    · subst hb; rw [k1] at e; cases e
    · rw [upd_ne hb]; exact ok1.ex b u e
  · intro ds' h
    cases h
    exact ⟨k1, vs1 ++ [v], upd_same, k3.app (.cons r1 .nil)⟩
  · intro s h
    obtain ⟨q1, q2, q3, q4⟩ := ok1.src s h
    obtain ⟨n1, n2⟩ := own_ne ok1 e1 (by rw [show S1.src = some s from h]; rfl)
    exact ⟨q1, q2, by rw [upd_ne n1]; exact q3, by rw [upd_ne n2]; exact q4⟩
/-- an item of it -/
theorem de_ixOwn {i : Nat} {j : Int} {x : Str} {np : Pos} (hi : ρ[i]? = some .own) (hp : PE X (.Name x np) (tVar i)) (ho : S.own = some ds) (hb : DE X ρ S b (.int j) S) (h : atI ds j = some d) (hs : PlainIx b := by intro _ _; rfl) : DE X ρ S (.Subscript (.Name x np) b pos) d S := by
  refine ⟨Like.rfl', pe_mono (pe_ix ix_seq hp hb.pe hs) fun σ H Q ⟨Hi, a, ok, f⟩ => ?_⟩
  refine ⟨.ref a.o, ok.sl i _ hi, Hi, a, ok, fun v H1 Hi1 s1 ok1 r1 => ?_⟩
  obtain ⟨k1, vs1, k2, k3⟩ := ok1.own ds ho
  obtain ⟨w, h1, h2⟩ := atI_rp k3 h
  cases r1
  exact .inl ⟨_, _, j, w, rfl, rfl, .inl (.inl k2), h1, f w H1 Hi1 s1 ok1 h2⟩
/-- from here on it is as any other -/
theorem dss_frz {i : Nat} {sts : List Stmt} {o : Out} (hi : ρ[i]? = some .own) (ho : S.own = some ds) (hno : (ρ.set i .no).all notOwn = true) (k : DSs X (ρ.set i (.dat (.list ds))) { S with own := none } sts o) : DSs X ρ S sts o := by
  refine ⟨pss_mono k.ps fun D σ H ⟨Hi, a, ok, f⟩ => ?_⟩
  obtain ⟨k1, vs, k2, k3⟩ := ok.own ds ho
  have hsl := ok.sl i _ hi
  have hil : i < ρ.length := (List.getElem?_eq_some_iff.mp hi).1
  have exi : Ex Hi (upd Hi a.o (.lst vs)) := Ex.new k1
  refine ⟨upd Hi a.o (.lst vs), a, ⟨?_, by rw [List.length_set]; exact ok.len, ?_, fun ds' h => (by cases h), ?_, fun h => (by cases h)⟩, f.step ?_⟩
  · intro b u e
    by_cases hb : b = a.o
    · subst hb; rw [upd_same] at e; rw [k2]; exact e
    · rw [upd_ne hb] at e; exact ok.ex b u e
  · intro j y e
    by_cases hj : j = i
    · subst hj
      rw [List.getElem?_set_self hil] at e
      cases e
      exact ⟨.ref a.o, hsl, .lst upd_same (k3.mono exi)⟩
    · rw [List.getElem?_set_ne (Ne.symm hj)] at e
      have := ok.sl j y e
      cases y with
      | no => trivial
      | dat d => obtain ⟨w, h1, h2⟩ := this; exact ⟨w, h1, h2.mono exi⟩
      | own =>
        have : (ρ.set i .no)[j]? = some .own := by rw [List.getElem?_set_ne (Ne.symm hj)]; exact e
        exact absurd (List.all_eq_true.mp hno _ (List.mem_of_getElem? this)) (by simp [notOwn])
      | src => exact this
      | cel => exact this
      | scr ns => obtain ⟨w, h1, h2⟩ := this; exact ⟨w, h1, exi.sql h2⟩
  · intro s h
    obtain ⟨q1, q2, q3, q4⟩ := ok.src s h
    obtain ⟨n1, n2⟩ := own_ne ok ho (by rw [show S.src = some s from h]; rfl)
    exact ⟨by rw [upd_ne n1]; exact q1, by rw [upd_ne n2]; exact q2, q3, q4⟩
  · refine ⟨fun b u e _ => e, fun b h => h, exi, fun b h1 n h2 => ?_, fun h => (by cases h), fun h => ⟨h, rfl, rfl⟩, fun h => .inl h⟩
    have hb : b ≠ a.o := fun z => n (.inl ⟨by rw [ho]; rfl, z⟩)
    rw [upd_ne hb] at h2; exact h2
end

/-! ### defs -/
/-- what a def of data promises: R tells the datum that comes back -/
def spF (K : PySem.W.Frag) (R : List PyData → PyData → Prop) : Sp := fun vs H Q _ => ∃ ds d Hi, R ds d ∧ Ex Hi H ∧ RpAll K Hi vs ds ∧ ∀ v H' Hi', PSt H H' Hi Hi' → Rp K Hi' v d → Q v H'
/-- the same of a def whose first parameter is the source of draws -/
def spS (K : PySem.W.Frag) (R : Src → List PyData → PyData → Src → Prop) : Sp := fun vs H Q _ => ∃ s ds d s' Hi p q ws, vs = .ref p :: ws ∧ R s ds d s' ∧ Ok K Hi ⟨0, p, q⟩ [] H [] { src := some s } ∧ RpAll K Hi ws ds ∧
  ∀ v H' Hi', Stp { src := some s } ⟨0, p, q⟩ H H' Hi Hi' → Ok K Hi' ⟨0, p, q⟩ [] H' [] { src := some s' } → Rp K Hi' v d → Q v H'
structure Good (P : Program) (w : World) (K : PySem.W.Frag) (mg : Str → Option Value) (base : Heap) (k : Nat) (x : Str) (ps : List Str) (sp : Sp) : Prop where
  ex : ∃ f fd, FnOk P w K mg base CX0 k f fd ps sp ∧ mg x = some (.ref f) ∧ PySem.W.keepIn K (.ref f) = true ∧ Binds K fd ps []
theorem Good.mono {P : Program} {w : World} {K : PySem.W.Frag} {mg : Str → Option Value} {base : Heap} {j k : Nat} {x : Str} {ps : List Str} {sp : Sp} (h : Good P w K mg base j x ps sp) (l : j ≤ k) : Good P w K mg base k x ps sp := by
  obtain ⟨f, fd, F, a, b, c⟩ := h.ex
  exact ⟨f, fd, F.mono l, a, b, c⟩
section
variable {X : Cx} {ρ : Rho} {S S1 : MS} {e : Expr} {es : List Expr} {d : PyData} {ds : List PyData} {pos p : Pos}
theorem de_call {k : Nat} {x : Str} {ps : List Str} {R : List PyData → PyData → Prop} (hG : Good X.prog X.w X.K X.mg X.base k x ps (spF X.K R)) (hr : Room k X.A) (ha : DA X ρ S (e :: es) ds S1) (h : R ds d) (hg : Gl X x := by rfl)
    (hdb : (x == ("__debug__" : Str)) = false := by decide) (he : starEach (e :: es) X.env = (false, eval e X.env) :: starEach es X.env := by rfl) (hpl : (backTo pos (starEach es X.env)).any (·.1) = false := by rfl) : DE X ρ S (.Call (.Name x p) (e :: es) [] pos) d S1 := by
  obtain ⟨f, fd, F, m, kp, b⟩ := hG.ex
  refine ⟨ha.like, pe_mono (pe_call (E := E0) F hr hg m kp b .nil pass0 ha.pa hdb he hpl) fun σ H Q ⟨Hi, a, ok, q⟩ => ⟨Hi, a, ok, fun vs H1 Hi1 s1 ok1 r1 => ?_⟩⟩
  show spF X.K R (vs ++ []) H1 Q E0
  rw [List.append_nil]
  exact ⟨ds, d, Hi1, h, ok1.ex, r1, fun v H' Hi' ps rv => q v H' Hi' (s1.trans ha.like ps.stp) (ok1.pure ps) rv⟩
theorem de_call0 {k : Nat} {x : Str} {ps : List Str} {R : List PyData → PyData → Prop} (hG : Good X.prog X.w X.K X.mg X.base k x ps (spF X.K R)) (hr : Room k X.A) (h : R [] d) (hg : Gl X x := by rfl)
    (hdb : (x == ("__debug__" : Str)) = false := by decide) : DE X ρ S (.Call (.Name x p) [] [] pos) d S := by
  obtain ⟨f, fd, F, m, kp, b⟩ := hG.ex
  refine ⟨Like.rfl', pe_mono (pe_call0 (E := E0) F hr hg m kp b .nil pass0 hdb) fun σ H Q ⟨Hi, a, ok, q⟩ => ?_⟩
  exact ⟨[], d, Hi, h, ok.ex, .nil, fun v H' Hi' ps rv => q v H' Hi' (ps.stp) (ok.pure ps) rv⟩
theorem de_callS {k i : Nat} {x y : Str} {ps : List Str} {np : Pos} {s s' : Src} {R : Src → List PyData → PyData → Src → Prop} (hG : Good X.prog X.w X.K X.mg X.base k x ps (spS X.K R)) (hr : Room k X.A) (hi : ρ[i]? = some .src) (hp : PE X (.Name y np) (tVar i))
    (ha : DA X ρ S es ds S1) (hs : S1.src = some s) (h : R s ds d s') (hg : Gl X x := by rfl) (h1 : starEach (.Name y np :: es) X.env = (false, eval (.Name y np) X.env) :: starEach es X.env := by rfl)
    (hdb : (x == ("__debug__" : Str)) = false := by decide) (hpl : (backTo pos (starEach es X.env)).any (·.1) = false := by rfl) : DE X ρ S (.Call (.Name x p) (.Name y np :: es) [] pos) d { S1 with src := some s' } := by
  obtain ⟨f, fd, F, m, kp, b⟩ := hG.ex
  refine ⟨⟨ha.like.1, by rw [← ha.like.2, hs]; rfl⟩, pe_mono (pe_call (E := E0) F hr hg m kp b .nil pass0 (pa_cons hp ha.pa h1) hdb h1 hpl) fun σ H Q ⟨Hi, a, ok, q⟩ => ⟨.ref a.p, ok.sl i _ hi, Hi, a, ok, fun vs H1 Hi1 s1 ok1 r1 => ?_⟩⟩
  show spS X.K R (.ref a.p :: (vs ++ [])) H1 Q E0
  rw [List.append_nil]
  obtain ⟨o1, o2, o3, o4⟩ := ok1.src s hs
  have lk : Like S1 { S1 with src := some s' } := ⟨rfl, by rw [hs]; rfl⟩
  refine ⟨s, ds, d, s', Hi1, a.p, a.q, vs, rfl, h, ⟨ok1.ex, rfl, fun j y e => (by simp at e), fun _ z => (by cases z), fun t z => ?_, fun z => (by cases z)⟩, r1, fun v H' Hi' st ok' rv => ?_⟩
  · cases z
    exact ⟨o1, o2, o3, o4⟩
  · have so : ∀ b, mutd { src := some s } ⟨0, a.p, a.q⟩ b → mutd S1 a b := fun b z => by
      rcases z with ⟨z, _⟩ | ⟨_, z⟩
      · cases z
      · exact .inr ⟨by rw [hs]; rfl, z⟩
    have st1 : Stp S1 a H1 H' Hi1 Hi' := ⟨fun b u e n => st.keep b u e fun z => n (so b z), st.there, st.exi, fun b h1 n h2 => st.new b h1 (fun z => n (so b z)) h2⟩
    obtain ⟨p1, p2, p3, p4⟩ := ok'.src s' rfl
    refine q v H' Hi' (s1.trans ha.like st1) ⟨ok'.ex, ok1.len, fun j y e => (ok1.sl j y e).mono st.exi, fun es' z => ?_, fun t z => ?_, fun z1 z2 => ok1.apart z1 (by rw [hs]; rfl)⟩ rv
    · obtain ⟨g1, ws, g2, g3⟩ := ok1.own es' z
      have hn := own_ne ok1 z (by rw [hs]; rfl)
      have nm : ¬ mutd { src := some s } ⟨0, a.p, a.q⟩ a.o := fun y => by
        rcases y with ⟨y, _⟩ | ⟨_, y | y⟩
        · cases y
        · exact hn.1 y.symm
        · exact hn.2 y.symm
      refine ⟨?_, ws, st.keep _ _ g2 nm, g3.mono st.exi⟩
      cases hq : Hi' a.o with
      | none => rfl
      | some u => exact absurd g1 (st.new a.o (by rw [g2]; exact fun z => by cases z) nm (by rw [hq]; exact fun z => by cases z))
    · cases z
      exact ⟨p1, p2, p3, p4⟩
end
/-- the slots at a def's entry -/
def rho0 (n : Nat) (ds : List PyData) : Rho := ds.map Sl.dat ++ List.replicate (n - ds.length) Sl.no
theorem start_ok {K : PySem.W.Frag} {Hi H : Hp} {a : Ad} {N : List Str} {vs : List V} {ds : List PyData} (e : Ex Hi H) (r : RpAll K Hi vs ds) : Ok K Hi a (L2.start N vs) H (rho0 N.length ds) {} where
  ex := e
  len := by unfold L2.start rho0; simp [r.len]
  sl := fun i x h => by
    unfold rho0 at h
    by_cases hi : i < ds.length
    · rw [List.getElem?_append_left (by simpa using hi), List.getElem?_map] at h
      cases q : ds[i]? with
      | none => rw [q] at h; cases h
      | some d =>
        rw [q] at h
        cases h
        obtain ⟨v, h1, h2⟩ := r.get q
        refine ⟨v, ?_, h2⟩
        unfold L2.start
        rw [List.getElem?_append_left (by rw [List.length_map, r.len]; exact hi), List.getElem?_map, h1]
        rfl
    · rw [List.getElem?_append_right (by simpa using hi)] at h
      have := List.mem_of_getElem? h
      rw [List.mem_replicate] at this
      rw [this.2]
      trivial
  own := fun _ z => by cases z
  src := fun _ z => by cases z
  apart := fun z => by cases z
theorem good_F {P : Program} {w : World} {K : PySem.W.Frag} {mg : Str → Option Value} {base : Heap} {k : Nat} {x : Str} {st : Stmt} {N ps : List Str} {R : List PyData → PyData → Prop} {f : Addr} {fd : FuncData}
    (F : FunD K x x (defArgs st) (defBody st) (defScope st) [] [] f fd) (hm : mg x = some (.ref f)) (S : FnScope N ps (defScope st)) (hb : Binds K fd ps []) (hl : ∀ ds d, R ds d → ds.length = ps.length)
    (body : ∀ (cdv : Value) (A : Around) (outer : List Env) (s : Shared) (H : Hp) (E : XK) (ds : List PyData) (d : PyData), Room k (A.deeper (envOfC x (defScope st) s.heap.objs.size f cdv)) → R ds d →
      ∃ S', DSs (cxOf CX0 P w K mg base N x (defScope st) f cdv A outer s H E).nox (rho0 N.length ds) {} (defBody st) (.rt d S')) : Good P w K mg base (k + 1) x ps (spF K R) := by
  refine ⟨f, fd, F.ok S (fun vs H Q E ⟨ds, d, Hi, h, _, r, _⟩ => r.len.trans (hl ds d h)) (fun cdv A outer s H vs Q E hr h => ?_), hm, F.kp, hb⟩
  obtain ⟨ds, d, Hi, h, e, r, q⟩ := h
  obtain ⟨S', B⟩ := body cdv A outer s H E ds d hr h
  refine ⟨_, PSs.nox B.ps, Hi, ⟨0, 0, 0⟩, start_ok e r, fun v σ' ρ' H' Hi' a' x ok' rv => ?_⟩
  have nm : ∀ b, ¬ mutd {} ⟨0, 0, 0⟩ b := fun b z => by
    rcases z with ⟨z, _⟩ | ⟨z, _⟩ <;> cases z
  exact q v H' Hi' ⟨fun b u e => x.keep b u e (nm b), x.exi, ok'.ex, fun b h1 h2 => x.new b h1 (nm b) h2⟩ rv
def rhoS (n : Nat) (ds : List PyData) : Rho := Sl.src :: ds.map Sl.dat ++ List.replicate (n - (ds.length + 1)) Sl.no
theorem startS_ok {K : PySem.W.Frag} {Hi H : Hp} {p q : Addr} {N : List Str} {vs : List V} {ds : List PyData} {s : Src} (o : Ok K Hi ⟨0, p, q⟩ [] H [] { src := some s }) (r : RpAll K Hi vs ds) : Ok K Hi ⟨0, p, q⟩ (L2.start N (.ref p :: vs)) H (rhoS N.length ds) { src := some s } where
  ex := o.ex
  len := by unfold L2.start rhoS; simp [r.len]
  sl := fun i x h => by
    unfold rhoS at h
    cases i with
    | zero =>
      have h' : some Sl.src = some x := h
      cases h'
      rfl
    | succ i =>
      have h' : (ds.map Sl.dat ++ List.replicate (N.length - (ds.length + 1)) Sl.no)[i]? = some x := h
      by_cases hi : i < ds.length
      · rw [List.getElem?_append_left (by simpa using hi), List.getElem?_map] at h'
        cases q : ds[i]? with
        | none => rw [q] at h'; cases h'
        | some d =>
          rw [q] at h'
          cases h'
          obtain ⟨v, h1, h2⟩ := r.get q
          refine ⟨v, ?_, h2⟩
          unfold L2.start
          show (vs.map some ++ _)[i]? = _
          rw [List.getElem?_append_left (by rw [List.length_map, r.len]; exact hi), List.getElem?_map, h1]
          rfl
      · rw [List.getElem?_append_right (by simpa using hi)] at h'
        have := List.mem_of_getElem? h'
        rw [List.mem_replicate] at this
        rw [this.2]
        trivial
  own := fun _ z => by cases z
  src := o.src
  apart := fun z => by cases z
theorem good_S {P : Program} {w : World} {K : PySem.W.Frag} {mg : Str → Option Value} {base : Heap} {k : Nat} {x : Str} {st : Stmt} {N ps : List Str} {R : Src → List PyData → PyData → Src → Prop} {f : Addr} {fd : FuncData}
    (F : FunD K x x (defArgs st) (defBody st) (defScope st) [] [] f fd) (hm : mg x = some (.ref f)) (S : FnScope N ps (defScope st)) (hb : Binds K fd ps []) (hl : ∀ s ds d s', R s ds d s' → ds.length + 1 = ps.length)
    (body : ∀ (cdv : Value) (A : Around) (outer : List Env) (s : Shared) (H : Hp) (E : XK) (s0 : Src) (ds : List PyData) (d : PyData) (s1 : Src), Room k (A.deeper (envOfC x (defScope st) s.heap.objs.size f cdv)) → R s0 ds d s1 →
      ∃ S', S'.src = some s1 ∧ DSs (cxOf CX0 P w K mg base N x (defScope st) f cdv A outer s H E).nox (rhoS N.length ds) { src := some s0 } (defBody st) (.rt d S')) : Good P w K mg base (k + 1) x ps (spS K R) := by
  refine ⟨f, fd, F.ok S (fun vs H Q E ⟨s, ds, d, s', Hi, p, q, ws, hv, h, _, r, _⟩ => by rw [hv, ← hl s ds d s' h]; exact congrArg Nat.succ r.len) (fun cdv A outer s H vs Q E hr h => ?_), hm, F.kp, hb⟩
  obtain ⟨s0, ds, d, s1, Hi, p, q, ws, rfl, h, o, r, k⟩ := h
  obtain ⟨S', hS, B⟩ := body cdv A outer s H E s0 ds d s1 hr h
  refine ⟨_, PSs.nox B.ps, Hi, ⟨0, p, q⟩, startS_ok o r, fun v σ' ρ' H' Hi' a' x ok' rv => ?_⟩
  obtain ⟨_, e1, e2⟩ := x.src0 rfl
  obtain ⟨p1, p2, p3, p4⟩ := ok'.src s1 hS
  rw [e1] at p1 p3
  rw [e2] at p2 p3 p4
  refine k v H' Hi' ⟨fun b u e n => x.keep b u e n, x.there, x.exi, fun b h1 n h2 => x.new b h1 n h2⟩ ⟨ok'.ex, rfl, fun j y e => (by simp at e), fun _ z => (by cases z), fun t z => ?_, fun z => (by cases z)⟩ rv
  cases z
  exact ⟨p1, p2, p3, p4⟩
end G
namespace G
open PySem PySem.Spec PyProof.Rows L2
/-! ### comprehensions -/
def outs (t : Nat → Bool) (v : Nat → PyData) (i : Nat) : List PyData := ((List.range i).filter t).map v
theorem outs_yes {t : Nat → Bool} {v : Nat → PyData} {i : Nat} (h : t i = true) : outs t v (i + 1) = outs t v i ++ [v i] := by
  unfold outs
  rw [List.range_succ, List.filter_append, List.map_append, List.filter_cons, if_pos h]
  rfl
theorem outs_no {t : Nat → Bool} {v : Nat → PyData} {i : Nat} (h : t i = false) : outs t v (i + 1) = outs t v i := by
  unfold outs
  rw [List.range_succ, List.filter_append, List.map_append, List.filter_cons, if_neg (by rw [h]; decide)]
  show _ ++ [] = _
  rw [List.append_nil]
theorem outs_len (t : Nat → Bool) (v : Nat → PyData) (i : Nat) : (outs t v i).length ≤ i := by
  unfold outs
  rw [List.length_map]
  have h := List.length_filter_le t (List.range i)
  rwa [List.length_range] at h
section
variable {X : Cx} {K : PySem.W.Frag} {ρ : Rho} {S S0 S1 : MS} {a : Ad} {σ : L2.St} {H H1 Hi Hi1 : Hp} {M : Nat → MS} {t : Nat → Bool} {v : Nat → PyData} {xs : Nat → PyData} {n : Nat}
theorem mut_there (ok : Ok K Hi a σ H ρ S) {b : Addr} (h : mutd S a b) : H b ≠ none := by
  rcases h with ⟨h, e⟩ | ⟨h, e⟩
  · obtain ⟨ds, q⟩ := Option.isSome_iff_exists.mp h
    obtain ⟨_, vs, g, _⟩ := ok.own ds q
    subst e
    rw [g]; exact fun z => by cases z
  · obtain ⟨s, q⟩ := Option.isSome_iff_exists.mp h
    obtain ⟨_, _, g1, g2⟩ := ok.src s q
    rcases e with e | e <;> subst e
    · rw [g1]; exact fun z => by cases z
    · rw [g2]; exact fun z => by cases z
structure LcP (K : PySem.W.Frag) (ρ : Rho) (σ : L2.St) (a : Ad) (D : Addr) (S1 : MS) (H1 Hi1 : Hp) (M : Nat → MS) (t : Nat → Bool) (v : Nat → PyData) (i : Nat) (H : Hp) : Prop where
  like : Like S1 (M i)
  ex : ∃ Hi', Ok K Hi' a σ H ρ (M i) ∧ Stp S1 a H1 H Hi1 Hi' ∧ Hi' D = none ∧ ∃ acc, H D = some (.lst acc) ∧ RpAll K Hi' acc (outs t v i)
/-- the tests of a block -/
structure DTs (X : Cx) (ρ : Rho) (S : MS) (ifs : List Expr) (b : Bool) (tt : TT) : Prop where
  pts : PTs X ifs tt
/-- what a block's tests read: the answer t i at the slots of turn i -/
def Tst (K : PySem.W.Frag) (R : Nat → Rho) (M : Nat → MS) (t : Nat → Bool) (n : Nat) (tt : TT) : Prop :=
  ∀ i, i < n → ∀ σ H Q, tDT K (R i) (M i) (t i) (M i) σ H Q → tt σ H Q
theorem tst_yes {R : Nat → Rho} : Tst K R M (fun _ => true) n tYes := fun i hi σ H Q ⟨Hi, a, ok, q⟩ => q H Hi Stp.refl ok
structure LcI (n : Nat) (t : Nat → Bool) where
  i : Nat
  lt : i < n
  yes : t i = true
def teOf (K : PySem.W.Frag) (R : Nat → Rho) (M : Nat → MS) (t : Nat → Bool) (v : Nat → PyData) (n : Nat) : TE := eAny (fun j : LcI n t => tD K (R j.i) (M j.i) (v j.i) (M (j.i + 1)))
theorem set_wipe (σ : L2.St) (j : Nat) (x : V) : (wipe σ [j]).set j (some x) = σ.set j (some x) := by
  show (σ.set j none).set j (some x) = _
  rw [List.set_set]
theorem wipe_set (σ : L2.St) (j : Nat) (x : V) : wipe ((wipe σ [j]).set j (some x)) [j] = wipe σ [j] := by
  rw [set_wipe]
  show (σ.set j (some x)).set j none = σ.set j none
  rw [List.set_set]
/-- where the slot j held nothing that counts, it may be anything -/
theorem Ok.back {j : Nat} {x : V} {d : PyData} (h : Ok K Hi a (σ.set j (some x)) H (ρ.set j (.dat d)) S) (hj : ρ[j]? = some .no) (hl : σ.length = ρ.length) : Ok K Hi a σ H ρ S :=
  ⟨h.ex, hl.symm, fun i y e => by
    by_cases hij : i = j
    · subst hij
      rw [hj] at e
      cases e
      trivial
    · have := h.sl i y (by rw [List.getElem?_set_ne (Ne.symm hij)]; exact e)
      cases y with
      | no => trivial
      | dat d =>
        obtain ⟨w, h1, h2⟩ := this
        exact ⟨w, by rw [List.getElem?_set_ne (Ne.symm hij)] at h1; exact h1, h2⟩
      | own => have h1 : (σ.set j (some x))[i]? = _ := this; rw [List.getElem?_set_ne (Ne.symm hij)] at h1; exact h1
      | src => have h1 : (σ.set j (some x))[i]? = _ := this; rw [List.getElem?_set_ne (Ne.symm hij)] at h1; exact h1
      | cel => have h1 : (σ.set j (some x))[i]? = _ := this; rw [List.getElem?_set_ne (Ne.symm hij)] at h1; exact h1
      | scr ns =>
        obtain ⟨w, h1, h2⟩ := this
        exact ⟨w, by rw [List.getElem?_set_ne (Ne.symm hij)] at h1; exact h1, h2⟩, h.own, h.src, h.apart⟩
theorem lc_turn {D : Addr} {j : Nat} {tt : TT} (hn : n ≤ 50000) (hD : H1 D = none) (hmt : ∀ b, mutd S1 a b → H1 b ≠ none) (hj : ρ[j]? = some .no) (htt : Tst K (fun i => ρ.set j (.dat (xs i))) M t n tt)
    (hM : ∀ i, i < n → Like (M i) (M (i + 1))) (hno : ∀ i, i < n → t i = false → M (i + 1) = M i) {i : Nat} (hi : i < n) {x : V} (hx : ∀ Hi', Ex Hi1 Hi' → Rp K Hi' x (xs i)) {H : Hp} (p : LcP K ρ σ a D S1 H1 Hi1 M t v i H) :
    gName j x (wipe σ [j]) H fun σ2 H2 => wipe σ2 [j] = wipe σ [j] ∧ tt σ2 H2 fun b H3 => if b = true then teOf K (fun i => ρ.set j (.dat (xs i))) M t v n σ2 H3 fun y H4 => ∃ acc, H4 D = some (.lst acc) ∧ acc.length < sizeLine ∧ LcP K ρ σ a D S1 H1 Hi1 M t v (i + 1) (upd H4 D (.lst (acc ++ [y]))) else LcP K ρ σ a D S1 H1 Hi1 M t v (i + 1) H3 := by
  obtain ⟨lk, Hi', ok, st, dn, acc, hacc, racc⟩ := p
  show wipe ((wipe σ [j]).set j (some x)) [j] = wipe σ [j] ∧ tt ((wipe σ [j]).set j (some x)) H _
  refine ⟨wipe_set σ j x, ?_⟩
  rw [set_wipe]
  have ok2 := ok.put (i := j) (hx Hi' st.exi)
  have hl : σ.length = ρ.length := ok.len.symm
  have nD : ∀ S', Like S1 S' → ¬ mutd S' a D := fun S' l z => by
    rw [l.mutd] at z
    exact hmt D z hD
  refine htt i hi _ H _ ⟨Hi', a, ok2, fun H3 Hi3 s3 ok3 => ?_⟩
  have keepD : H3 D = some (.lst acc) := s3.keep D _ hacc (nD _ lk)
  have d3 : Hi3 D = none := by
    cases q : Hi3 D with
    | none => rfl
    | some u => exact absurd dn (s3.new D (by rw [hacc]; exact fun z => by cases z) (nD _ lk) (by rw [q]; exact fun z => by cases z))
  cases ht : t i with
  | false =>
    refine L2.iteF ?_
    refine ⟨by rw [hno i hi ht]; exact lk, Hi3, ?_, st.trans lk s3, d3, acc, keepD, ?_⟩
    · rw [hno i hi ht]; exact ok3.back hj hl
    · rw [outs_no ht]; exact racc.mono s3.exi
  | true =>
    refine L2.iteT ?_
    refine ⟨⟨i, hi, ht⟩, Hi3, a, ok3, fun y H4 Hi4 s4 ok4 r4 => ?_⟩
    have keep4 : H4 D = some (.lst acc) := s4.keep D _ keepD (nD _ lk)
    have d4 : Hi4 D = none := by
      cases q : Hi4 D with
      | none => rfl
      | some u => exact absurd d3 (s4.new D (by rw [keepD]; exact fun z => by cases z) (nD _ lk) (by rw [q]; exact fun z => by cases z))
    have lk' : Like S1 (M (i + 1)) := lk.trans (hM i hi)
    have st' : Stp S1 a H1 H4 Hi1 Hi4 := (st.trans lk s3).trans lk s4
    have ok4' := ok4.back hj hl
    refine ⟨acc, keep4, Evl.sz_lt (by have := outs_len t v i; rw [racc.len]; omega), lk', Hi4, ⟨?_, ok4'.len, ok4'.sl, ?_, ?_, ok4'.apart⟩, ⟨?_, ?_, st'.exi, ?_⟩, d4, acc ++ [y], upd_same, ?_⟩
    · intro b u e
      have hb : b ≠ D := fun z => by subst z; rw [d4] at e; cases e
      rw [upd_ne hb]; exact ok4'.ex b u e
    · intro ds e
      obtain ⟨g1, ws, g2, g3⟩ := ok4'.own ds e
      have hb : a.o ≠ D := fun z => nD _ lk' (.inl ⟨by rw [e]; rfl, z.symm⟩)
      exact ⟨g1, ws, by rw [upd_ne hb]; exact g2, g3⟩
    · intro s e
      obtain ⟨g1, g2, g3, g4⟩ := ok4'.src s e
      have hb : a.p ≠ D := fun z => nD _ lk' (.inr ⟨by rw [e]; rfl, .inl z.symm⟩)
      have hb' : a.q ≠ D := fun z => nD _ lk' (.inr ⟨by rw [e]; rfl, .inr z.symm⟩)
      exact ⟨g1, g2, by rw [upd_ne hb]; exact g3, by rw [upd_ne hb']; exact g4⟩
    · intro b u e hm
      have hb : b ≠ D := fun z => by subst z; rw [hD] at e; cases e
      rw [upd_ne hb]; exact st'.keep b u e hm
    · intro b h
      have hb : b ≠ D := fun z => by subst z; exact h hD
      rw [upd_ne hb]; exact st'.there b h
    · intro b h hm h2
      exact st'.new b h hm h2
    · rw [outs_yes ht]
      exact (racc.mono (s3.exi.trans s4.exi)).app (.cons r4 .nil)
theorem lc_end {D : Addr} {Q : VK} (hD : H1 D = none) (hmt : ∀ b, mutd S1 a b → H1 b ≠ none) (hQ : ∀ v' H' Hi', Stp S1 a H1 H' Hi1 Hi' → Ok K Hi' a σ H' ρ (M n) → Rp K Hi' v' (.list (outs t v n)) → Q v' H') {H : Hp} (p : LcP K ρ σ a D S1 H1 Hi1 M t v n H) : Q (.ref D) H := by
  obtain ⟨lk, Hi', ok, st, dn, acc, hacc, racc⟩ := p
  have exi : Ex Hi' (upd Hi' D (.lst acc)) := Ex.new dn
  have nD : ¬ mutd (M n) a D := fun z => by
    rw [lk.mutd] at z
    exact hmt D z hD
  refine hQ _ H (upd Hi' D (.lst acc)) ⟨st.keep, st.there, st.exi.trans exi, fun b h hm h2 => ?_⟩ ⟨?_, ok.len, fun i y e => (ok.sl i y e).mono exi, ?_, ?_, ok.apart⟩ (.lst upd_same (racc.mono exi))
  · have hb : b ≠ D := fun z => by subst z; exact h hD
    rw [upd_ne hb] at h2
    exact st.new b h hm h2
  · intro b u e
    by_cases hb : b = D
    · subst hb; rw [upd_same] at e; rw [hacc]; exact e
    · rw [upd_ne hb] at e; exact ok.ex b u e
  · intro ds e
    obtain ⟨g1, ws, g2, g3⟩ := ok.own ds e
    have hb : a.o ≠ D := fun z => nD (.inl ⟨by rw [e]; rfl, z.symm⟩)
    exact ⟨by rw [upd_ne hb]; exact g1, ws, g2, g3.mono exi⟩
  · intro s e
    obtain ⟨g1, g2, g3, g4⟩ := ok.src s e
    have hb : a.p ≠ D := fun z => nD (.inr ⟨by rw [e]; rfl, .inl z.symm⟩)
    have hb' : a.q ≠ D := fun z => nD (.inr ⟨by rw [e]; rfl, .inr z.symm⟩)
    exact ⟨by rw [upd_ne hb]; exact g1, by rw [upd_ne hb']; exact g2, g3, g4⟩
theorem lc_begin {D : Addr} (hD : H1 D = none) (ok1 : Ok K Hi1 a σ H1 ρ (M 0)) : LcP K ρ σ a D (M 0) H1 Hi1 M t v 0 (upd H1 D (.lst [])) := by
  have hi : Hi1 D = none := by
    cases q : Hi1 D with
    | none => rfl
    | some u => rw [ok1.ex D u q] at hD; cases hD
  have ps : PSt H1 (upd H1 D (.lst [])) Hi1 Hi1 := PSt.lay0 ok1.ex hD
  exact ⟨Like.rfl', Hi1, ok1.pure ps, ps.stp, hi, [], upd_same, .nil⟩
/-- the readings: over a list, over a tuple, over a range -/
theorem lc_readsL {ys : List PyData} {j : Nat} {tt : TT} (lk0 : Like S (M 0)) (hn : ys.length ≤ 50000) (hj : ρ[j]? = some .no) (htt : Tst K (fun i => ρ.set j (.dat (ys.getD i .none))) M t ys.length tt) (hM : ∀ i, i < ys.length → Like (M i) (M (i + 1))) (hno : ∀ i, i < ys.length → t i = false → M (i + 1) = M i)
    (lk : Like S (M ys.length)) (σ : L2.St) (H : Hp) (Q : VK) (h : tD K ρ S (.list (outs t v ys.length)) (M ys.length) σ H Q) : tLc (iList K (tD K ρ S (.list ys) (M 0))) (gName j) tt (teOf K (fun i => ρ.set j (.dat (ys.getD i .none))) M t v ys.length) [j] σ H Q := by
  obtain ⟨Hi, a, ok, q⟩ := h
  refine ⟨Hi, a, ok, fun u H1 Hi1 s1 ok1 r1 => ?_⟩
  cases r1 with
  | lst hl hr =>
    rename_i l vs
    refine ⟨l, rfl, ⟨vs, .inl (.inl (ok1.ex _ _ hl))⟩, fun D hD => ?_⟩
    refine lc_list (K := K) (a := l) (xs := vs) (LcP K ρ σ a D (M 0) H1 Hi1 M t v) (lc_begin hD ok1) (fun i H' _ p => ?_) (fun i x H' hx p => ?_) (fun H' p => ?_)
    · obtain ⟨_, Hi', ok', st, _⟩ := p
      exact .inl (.inl (ok'.ex _ _ (st.exi _ _ hl)))
    · obtain ⟨d, hd, rd⟩ := hr.getV hx
      exact lc_turn hn hD (fun b => mut_there ok1) hj htt hM hno (by rw [← hr.len]; exact (List.getElem?_eq_some_iff.mp hx).1) (fun Hi' e => by
        show Rp K Hi' x (ys.getD i .none)
        rw [getD_of hd]; exact rd.mono e) p
    · rw [hr.len] at p
      exact lc_end hD (fun b => mut_there ok1) (fun v' H'' Hi'' st ok'' r => q v' H'' Hi'' (s1.trans lk0 st) ok'' r) p
theorem lc_readsT {ys : List PyData} {j : Nat} {tt : TT} (lk0 : Like S (M 0)) (hn : ys.length ≤ 50000) (hj : ρ[j]? = some .no) (htt : Tst K (fun i => ρ.set j (.dat (ys.getD i .none))) M t ys.length tt) (hM : ∀ i, i < ys.length → Like (M i) (M (i + 1))) (hno : ∀ i, i < ys.length → t i = false → M (i + 1) = M i)
    (lk : Like S (M ys.length)) (σ : L2.St) (H : Hp) (Q : VK) (h : tD K ρ S (.list (outs t v ys.length)) (M ys.length) σ H Q) : tLc (iTup K (tD K ρ S (.tuple ys) (M 0))) (gName j) tt (teOf K (fun i => ρ.set j (.dat (ys.getD i .none))) M t v ys.length) [j] σ H Q := by
  obtain ⟨Hi, a, ok, q⟩ := h
  refine ⟨Hi, a, ok, fun u H1 Hi1 s1 ok1 r1 => ?_⟩
  cases r1 with
  | tup hl hr =>
    rename_i l vs
    refine ⟨l, rfl, ⟨vs, ok1.ex.tup hl⟩, fun D hD => ?_⟩
    refine lc_tup (K := K) (a := l) (xs := vs) (LcP K ρ σ a D (M 0) H1 Hi1 M t v) (lc_begin hD ok1) (fun i H' _ p => ?_) (fun i x H' hx p => ?_) (fun H' p => ?_)
    · obtain ⟨_, Hi', ok', st, _⟩ := p
      exact ok'.ex.tup (st.exi.tup hl)
    · obtain ⟨d, hd, rd⟩ := hr.getV hx
      exact lc_turn hn hD (fun b => mut_there ok1) hj htt hM hno (by rw [← hr.len]; exact (List.getElem?_eq_some_iff.mp hx).1) (fun Hi' e => by
        show Rp K Hi' x (ys.getD i .none)
        rw [getD_of hd]; exact rd.mono e) p
    · rw [hr.len] at p
      exact lc_end hD (fun b => mut_there ok1) (fun v' H'' Hi'' st ok'' r => q v' H'' Hi'' (s1.trans lk0 st) ok'' r) p
theorem lc_readsR {lo : Int} {j : Nat} {tt : TT} (lk0 : Like S (M 0)) (hn : n ≤ 50000) (hj : ρ[j]? = some .no) (htt : Tst K (fun i => ρ.set j (.dat (.int (lo + i)))) M t n tt) (hM : ∀ i, i < n → Like (M i) (M (i + 1))) (hno : ∀ i, i < n → t i = false → M (i + 1) = M i)
    {Q : VK} {D : Addr} (hD : H1 D = none) (ok1 : Ok K Hi1 a σ H1 ρ (M 0)) (q : ∀ v' H' Hi', Stp (M 0) a H1 H' Hi1 Hi' → Ok K Hi' a σ H' ρ (M n) → Rp K Hi' v' (.list (outs t v n)) → Q v' H') :
    ∃ W : Nat → Nat → Hp → Prop, (∃ m, W 0 m (upd H1 D (.lst []))) ∧ ∀ i m H, W i m H → ((Itr lo n).stop i H ∧ Q (.ref D) H) ∨ ((Itr lo n).go i H ∧ ∃ Nx : Hp → Prop, (∀ H', Nx H' → ∃ m', m' < m ∧ W (i + 1) m' H') ∧ ∀ x H', (Itr lo n).yld i H x H' → gName j x (wipe σ [j]) H' fun σ2 H2 => wipe σ2 [j] = wipe σ [j] ∧ tt σ2 H2 fun b H3 =>
      if b = true then teOf K (fun i => ρ.set j (.dat (.int (lo + i)))) M t v n σ2 H3 fun y H4 => ∃ acc, H4 D = some (.lst acc) ∧ acc.length < sizeLine ∧ Nx (upd H4 D (.lst (acc ++ [y]))) else Nx H3) :=
  lc_range (lo := lo) (n := n) (LcP K ρ σ a D (M 0) H1 Hi1 M t v) (lc_begin hD ok1) (fun i H' hi p =>
    lc_turn (xs := fun i => .int (lo + i)) hn hD (fun b => mut_there ok1) hj htt hM hno hi (fun Hi' e => .int _) p) (fun H' p => lc_end hD (fun b => mut_there ok1) q p)
end
section
variable {X : Cx} {ρ : Rho} {S : MS} {M : Nat → MS} {t : Nat → Bool} {v : Nat → PyData} {x : Str} {j : Nat} {elt iter c : Expr} {ifs : List Expr} {scope : Scope} {pos p tp : Pos} {tt : TT}
/-- the context of a block -/
abbrev Blk (X : Cx) (scope : Scope) (f : Cx → Prop) : Prop := ∀ (s : Shared) (H : Hp) (C : Addr) (cl : List (Str × Addr)) (fp : List Addr), f (X.blk s H scope (compEnvC scope cl C X.env) fp)
theorem el_any {R : Nat → Rho} {n : Nat} (h : ∀ i, i < n → t i = true → Blk X scope fun Y => DE Y (R i) (M i) elt (v i) (M (i + 1))) : Blk X scope fun Y => PE Y elt (teOf X.K R M t v n) :=
  fun s H C cl fp => pe_any (ι := LcI n t) (t := fun k => tD X.K (R k.i) (M k.i) (v k.i) (M (k.i + 1))) fun k => (h k.i k.lt k.yes s H C cl fp).pe
structure LtI (n : Nat) where
  i : Nat
  lt : i < n
theorem ts_any {R : Nat → Rho} {n : Nat} (h : ∀ i, i < n → Blk X scope fun Y => DT Y (R i) (M i) c (t i) (M i)) : Blk X scope fun Y => PTs Y [c] (bAny (fun k : LtI n => tDT X.K (R k.i) (M k.i) (t k.i) (M k.i))) :=
  fun s H C cl fp => pts_one (pt_any (ι := LtI n) fun k => (h k.i k.lt s H C cl fp).pt)
theorem tst_any {K : PySem.W.Frag} {R : Nat → Rho} {n : Nat} : Tst K R M t n (bAny (fun k : LtI n => tDT K (R k.i) (M k.i) (t k.i) (M k.i))) := fun i hi σ H Q h => ⟨⟨i, hi⟩, h⟩
theorem like_all {n : Nat} (hM : ∀ i, i < n → Like (M i) (M (i + 1))) : Like (M 0) (M n) := by
  have : ∀ k, k ≤ n → Like (M 0) (M k) := by
    intro k
    induction k with
    | zero => exact fun _ => Like.rfl'
    | succ k ih => exact fun h => (ih (by omega)).trans (hM k (by omega))
  exact this n (Nat.le_refl _)
theorem de_lcL {ys : List PyData} (hc : X.calm = true) (hN : X.N.Nodup) (hi : DE X ρ S iter (.list ys) (M 0)) (ok : BlkOk X.N X.env.scope scope [(x, j)]) (hg : Blk X scope fun Y => PG Y (.Name x tp) (gName j)) (hj : ρ[j]? = some .no) (hn : ys.length ≤ 50000)
    (hts : Blk X scope fun Y => PTs Y ifs tt) (htt : Tst X.K (fun i => ρ.set j (.dat (ys.getD i .none))) M t ys.length tt) (hM : ∀ i, i < ys.length → Like (M i) (M (i + 1))) (hno : ∀ i, i < ys.length → t i = false → M (i + 1) = M i)
    (he : ∀ i, i < ys.length → t i = true → Blk X scope fun Y => DE Y (ρ.set j (.dat (ys.getD i .none))) (M i) elt (v i) (M (i + 1))) (hs : ∀ x, foldedSetIterable iter X.env x = pure x := by intro _; rfl) :
    DE X ρ S (.ListComp elt [⟨.Name x tp, iter, ifs, 0⟩] scope pos) (.list (outs t v ys.length)) (M ys.length) :=
  ⟨hi.like.trans (like_all hM), pe_mono (pe_lc hc hN (pi_list hi.pe) ok hg hts (el_any he) hs) (lc_readsL hi.like hn hj htt hM hno (hi.like.trans (like_all hM)))⟩
theorem de_lcT {ys : List PyData} (hc : X.calm = true) (hN : X.N.Nodup) (hi : DE X ρ S iter (.tuple ys) (M 0)) (ok : BlkOk X.N X.env.scope scope [(x, j)]) (hg : Blk X scope fun Y => PG Y (.Name x tp) (gName j)) (hj : ρ[j]? = some .no) (hn : ys.length ≤ 50000)
    (hts : Blk X scope fun Y => PTs Y ifs tt) (htt : Tst X.K (fun i => ρ.set j (.dat (ys.getD i .none))) M t ys.length tt) (hM : ∀ i, i < ys.length → Like (M i) (M (i + 1))) (hno : ∀ i, i < ys.length → t i = false → M (i + 1) = M i)
    (he : ∀ i, i < ys.length → t i = true → Blk X scope fun Y => DE Y (ρ.set j (.dat (ys.getD i .none))) (M i) elt (v i) (M (i + 1))) (hs : ∀ x, foldedSetIterable iter X.env x = pure x := by intro _; rfl) :
    DE X ρ S (.ListComp elt [⟨.Name x tp, iter, ifs, 0⟩] scope pos) (.list (outs t v ys.length)) (M ys.length) :=
  ⟨hi.like.trans (like_all hM), pe_mono (pe_lc hc hN (pi_tup hi.pe) ok hg hts (el_any he) hs) (lc_readsT hi.like hn hj htt hM hno (hi.like.trans (like_all hM)))⟩
theorem de_lcR1 {e : Expr} {m : Int} {rp rp2 : Pos} (hc : X.calm = true) (hN : X.N.Nodup) (hgl : Gl X "range") (hm : X.mg "range" = none) (ha : DA X ρ S [e] [.int m] (M 0)) (hm2 : -(2 ^ 62) ≤ m ∧ m < 2 ^ 62) (ok : BlkOk X.N X.env.scope scope [(x, j)]) (hg : Blk X scope fun Y => PG Y (.Name x tp) (gName j)) (hj : ρ[j]? = some .no) (hn : m.toNat ≤ 50000)
    (hts : Blk X scope fun Y => PTs Y ifs tt) (htt : Tst X.K (fun i => ρ.set j (.dat (.int (0 + i)))) M t m.toNat tt) (hM : ∀ i, i < m.toNat → Like (M i) (M (i + 1))) (hno : ∀ i, i < m.toNat → t i = false → M (i + 1) = M i)
    (he : ∀ i : Nat, i < m.toNat → t i = true → Blk X scope fun Y => DE Y (ρ.set j (.dat (.int (0 + i)))) (M i) elt (v i) (M (i + 1))) (hst : starEach [e] X.env = [(false, eval e X.env)] := by rfl) (hs : ∀ x, foldedSetIterable (.Call (.Name "range" rp) [e] [] rp2) X.env x = pure x := by intro _; rfl) :
    DE X ρ S (.ListComp elt [⟨.Name x tp, .Call (.Name "range" rp) [e] [] rp2, ifs, 0⟩] scope pos) (.list (outs t v m.toNat)) (M m.toNat) := by
  refine ⟨ha.like.trans (like_all hM), pe_mono (pe_lc hc hN (pi_range1 hgl hm ha.pa hst) ok hg hts (el_any (R := fun i => ρ.set j (.dat (.int (0 + i)))) he) hs) fun σ H Q ⟨Hi, a, ok', q⟩ => ⟨Hi, a, ok', fun vs H1 Hi1 s1 ok1 r1 => ?_⟩⟩
  cases r1 with
  | cons r1 r2 =>
    cases r2
    cases r1
    exact ⟨m, rfl, hm2.1, hm2.2, fun D hD => lc_readsR (S := S) ha.like hn hj htt hM hno hD ok1 fun v' H' Hi' st ok'' r => q v' H' Hi' (s1.trans ha.like st) ok'' r⟩
theorem de_lcR2 {e e2 : Expr} {lo m : Int} {rp rp2 : Pos} (hc : X.calm = true) (hN : X.N.Nodup) (hgl : Gl X "range") (hm : X.mg "range" = none) (ha : DA X ρ S [e, e2] [.int lo, .int m] (M 0)) (hm2 : -(2 ^ 62) ≤ lo ∧ lo < 2 ^ 62 ∧ -(2 ^ 62) ≤ m ∧ m < 2 ^ 62) (ok : BlkOk X.N X.env.scope scope [(x, j)]) (hg : Blk X scope fun Y => PG Y (.Name x tp) (gName j)) (hj : ρ[j]? = some .no) (hn : (m - lo).toNat ≤ 50000)
    (hts : Blk X scope fun Y => PTs Y ifs tt) (htt : Tst X.K (fun i => ρ.set j (.dat (.int (lo + i)))) M t (m - lo).toNat tt) (hM : ∀ i, i < (m - lo).toNat → Like (M i) (M (i + 1))) (hno : ∀ i, i < (m - lo).toNat → t i = false → M (i + 1) = M i)
    (he : ∀ i : Nat, i < (m - lo).toNat → t i = true → Blk X scope fun Y => DE Y (ρ.set j (.dat (.int (lo + i)))) (M i) elt (v i) (M (i + 1))) (hst : starEach [e, e2] X.env = [(false, eval e X.env), (false, eval e2 X.env)] := by rfl) (hst2 : starEach [e2] X.env = [(false, eval e2 X.env)] := by rfl)
    (hs : ∀ x, foldedSetIterable (.Call (.Name "range" rp) [e, e2] [] rp2) X.env x = pure x := by intro _; rfl) :
    DE X ρ S (.ListComp elt [⟨.Name x tp, .Call (.Name "range" rp) [e, e2] [] rp2, ifs, 0⟩] scope pos) (.list (outs t v (m - lo).toNat)) (M (m - lo).toNat) := by
  refine ⟨ha.like.trans (like_all hM), pe_mono (pe_lc hc hN (pi_range2 hgl hm ha.pa hst hst2) ok hg hts (el_any (R := fun i => ρ.set j (.dat (.int (lo + i)))) he) hs) fun σ H Q ⟨Hi, a, ok', q⟩ => ⟨Hi, a, ok', fun vs H1 Hi1 s1 ok1 r1 => ?_⟩⟩
  cases r1 with
  | cons r1 r2 =>
    cases r2 with
    | cons r2 r3 =>
      cases r3
      cases r1
      cases r2
      exact ⟨lo, m, rfl, hm2, fun D hD => lc_readsR (S := S) ha.like hn hj htt hM hno hD ok1 fun v' H' Hi' st ok'' r => q v' H' Hi' (s1.trans ha.like st) ok'' r⟩
end
end G
namespace G
open PySem PySem.Spec PyProof.Rows L2
section
variable {X : Cx} {ρ : Rho} {S S1 : MS} {e c : Expr} {d d' : PyData} {A rest : List Stmt} {o : Out} {x : Bool} {pos : Pos}
theorem de_eq (h : DE X ρ S e d' S1) (hd : d' = d) : DE X ρ S e d S1 := hd ▸ h
theorem dt_eq {y : Bool} (h : DT X ρ S e y S1) (hd : y = x) : DT X ρ S e x S1 := hd ▸ h
theorem dss_ifr {S' : MS} (h : DT X ρ S c x S1) (h1 : x = true → DSs X ρ S1 A (.rt d S')) (h2 : x = false → DSs X ρ S1 rest (.rt d S')) : DSs X ρ S (.If c A [] pos :: rest) (.rt d S') := by
  cases x with
  | true => exact dss_rt (ds_if h h1 (fun z => by cases z))
  | false => exact dss_cons (ds_if h (fun z => by cases z) (fun _ => dss_nil)) (h2 rfl)
theorem dss_nx {ρ1 ρ2 : Rho} (h : DSs X ρ S A (.nx ρ1 S1)) (e : ρ1 = ρ2) : DSs X ρ S A (.nx ρ2 S1) := e ▸ h
theorem dss_rteq (h : DSs X ρ S A (.rt d' S1)) (e : d' = d) : DSs X ρ S A (.rt d S1) := e ▸ h
theorem dss_while {α : Type} {body : List Stmt} (hp : PassesOwn (model X.prog X.w) X.A X.env X.xe) (R : α → Rho) (M : α → MS) (Pr : α → Prop) (m : α → Nat) (t : α → Bool) (nxt : α → α) (a0 : α) (h0 : Pr a0) (hρ : ρ = R a0) (hS : S = M a0)
    (hc : ∀ a, Pr a → DT X (R a) (M a) c (t a) (M a)) (hb : ∀ a, Pr a → t a = true → Pr (nxt a) ∧ m (nxt a) < m a ∧ DSs X (R a) (M a) body (.nx (R (nxt a)) (M (nxt a))))
    (hr : ∀ a, Pr a → t a = false → DSs X (R a) (M a) rest o) : DSs X ρ S (.While c body [] pos :: rest) o := by
  obtain ⟨a1, h1, h2, W⟩ := ds_while (pos := pos) hp R M Pr m t nxt hc hb a0 h0
  rw [hρ, hS]
  exact dss_cons W (hr a1 h1 h2)
theorem oAt_lt {R : Nat → Rho} {M : Nat → MS} {stop i : Nat} (h : i < stop) : oAt R M stop o i = .nx (R (i + 1)) (M (i + 1)) := if_pos h
theorem oAt_eq {R : Nat → Rho} {M : Nat → MS} {stop : Nat} : oAt R M stop o stop = o := if_neg (Nat.lt_irrefl _)
/-- a whole loop, then the rest -/
theorem dss_forR1 {n : Int} {e tg : Expr} {p p2 : Pos} {S0 : MS} {body : List Stmt} (hc : X.calm = true) (hp : PassesOwn (model X.prog X.w) X.A X.env X.xe) (hm : X.mg "range" = none) (ha : DA X ρ S [e] [.int n] S0) (hn : -(2 ^ 62) ≤ n ∧ n < 2 ^ 62) (R T : Nat → Rho) (M : Nat → MS) (h0 : R 0 = ρ) (hM : M 0 = S0)
    (hg : ∀ i : Nat, i < n.toNat → DG X tg (R i) (.int (0 + i)) (T i)) (hb : ∀ i, i < n.toNat → DSs X (T i) (M i) body (.nx (R (i + 1)) (M (i + 1)))) (hr : DSs X (R n.toNat) (M n.toNat) rest o) (hgl : Gl X "range" := by rfl)
    (hst : starEach [e] X.env = [(false, eval e X.env)] := by rfl) (hs : ∀ x, foldedSetIterable (.Call (.Name "range" p) [e] [] p2) X.env x = pure x := by intro _; rfl) : DSs X ρ S (.For tg (.Call (.Name "range" p) [e] [] p2) body [] pos :: rest) o :=
  dss_cons (ds_forR1 hc hp hgl hm ha hn R T M n.toNat h0 hM (fun i _ hi => hg i hi) (fun i hi _ => by rw [oAt_lt hi]; exact hb i hi) (.inl ⟨rfl, rfl⟩) hst hs) hr
theorem dss_forR2 {lo n : Int} {e e2 tg : Expr} {p p2 : Pos} {S0 : MS} {body : List Stmt} (hc : X.calm = true) (hp : PassesOwn (model X.prog X.w) X.A X.env X.xe) (hm : X.mg "range" = none) (ha : DA X ρ S [e, e2] [.int lo, .int n] S0) (hn : -(2 ^ 62) ≤ lo ∧ lo < 2 ^ 62 ∧ -(2 ^ 62) ≤ n ∧ n < 2 ^ 62) (R T : Nat → Rho) (M : Nat → MS) (h0 : R 0 = ρ) (hM : M 0 = S0)
    (hg : ∀ i : Nat, i < (n - lo).toNat → DG X tg (R i) (.int (lo + i)) (T i)) (hb : ∀ i, i < (n - lo).toNat → DSs X (T i) (M i) body (.nx (R (i + 1)) (M (i + 1)))) (hr : DSs X (R (n - lo).toNat) (M (n - lo).toNat) rest o) (hgl : Gl X "range" := by rfl)
    (hst : starEach [e, e2] X.env = [(false, eval e X.env), (false, eval e2 X.env)] := by rfl) (hst2 : starEach [e2] X.env = [(false, eval e2 X.env)] := by rfl) (hs : ∀ x, foldedSetIterable (.Call (.Name "range" p) [e, e2] [] p2) X.env x = pure x := by intro _; rfl) : DSs X ρ S (.For tg (.Call (.Name "range" p) [e, e2] [] p2) body [] pos :: rest) o :=
  dss_cons (ds_forR2 hc hp hgl hm ha hn R T M (n - lo).toNat h0 hM (fun i _ hi => hg i hi) (fun i hi _ => by rw [oAt_lt hi]; exact hb i hi) (.inl ⟨rfl, rfl⟩) hst hst2 hs) hr
/-- a loop left by return at turn stop -/
theorem ds_forR1s {n : Int} {e tg : Expr} {p p2 : Pos} {S0 S' : MS} {body : List Stmt} (stop : Nat) (hc : X.calm = true) (hp : PassesOwn (model X.prog X.w) X.A X.env X.xe) (hm : X.mg "range" = none) (ha : DA X ρ S [e] [.int n] S0) (hn : -(2 ^ 62) ≤ n ∧ n < 2 ^ 62) (R T : Nat → Rho) (M : Nat → MS) (h0 : R 0 = ρ) (hM : M 0 = S0) (hst0 : stop < n.toNat)
    (hg : ∀ i : Nat, i < n.toNat → DG X tg (R i) (.int (0 + i)) (T i)) (hb : ∀ i, i < stop → DSs X (T i) (M i) body (.nx (R (i + 1)) (M (i + 1)))) (hr : DSs X (T stop) (M stop) body (.rt d S')) (hgl : Gl X "range" := by rfl)
    (hst : starEach [e] X.env = [(false, eval e X.env)] := by rfl) (hs : ∀ x, foldedSetIterable (.Call (.Name "range" p) [e] [] p2) X.env x = pure x := by intro _; rfl) : DS X ρ S (.For tg (.Call (.Name "range" p) [e] [] p2) body [] pos) (.rt d S') :=
  ds_forR1 hc hp hgl hm ha hn R T M stop h0 hM (fun i _ hi => hg i hi) (fun i hi hle => by
    by_cases hl : i < stop
    · rw [oAt_lt hl]; exact hb i hl
    · have : i = stop := by omega
      subst this
      rw [oAt_eq]; exact hr) (.inr ⟨hst0, _, _, rfl⟩) hst hs
theorem ds_forR2s {lo n : Int} {e e2 tg : Expr} {p p2 : Pos} {S0 S' : MS} {body : List Stmt} (stop : Nat) (hc : X.calm = true) (hp : PassesOwn (model X.prog X.w) X.A X.env X.xe) (hm : X.mg "range" = none) (ha : DA X ρ S [e, e2] [.int lo, .int n] S0) (hn : -(2 ^ 62) ≤ lo ∧ lo < 2 ^ 62 ∧ -(2 ^ 62) ≤ n ∧ n < 2 ^ 62) (R T : Nat → Rho) (M : Nat → MS) (h0 : R 0 = ρ) (hM : M 0 = S0) (hst0 : stop < (n - lo).toNat)
    (hg : ∀ i : Nat, i < (n - lo).toNat → DG X tg (R i) (.int (lo + i)) (T i)) (hb : ∀ i, i < stop → DSs X (T i) (M i) body (.nx (R (i + 1)) (M (i + 1)))) (hr : DSs X (T stop) (M stop) body (.rt d S')) (hgl : Gl X "range" := by rfl)
    (hst : starEach [e, e2] X.env = [(false, eval e X.env), (false, eval e2 X.env)] := by rfl) (hst2 : starEach [e2] X.env = [(false, eval e2 X.env)] := by rfl) (hs : ∀ x, foldedSetIterable (.Call (.Name "range" p) [e, e2] [] p2) X.env x = pure x := by intro _; rfl) : DS X ρ S (.For tg (.Call (.Name "range" p) [e, e2] [] p2) body [] pos) (.rt d S') :=
  ds_forR2 hc hp hgl hm ha hn R T M stop h0 hM (fun i _ hi => hg i hi) (fun i hi hle => by
    by_cases hl : i < stop
    · rw [oAt_lt hl]; exact hb i hl
    · have : i = stop := by omega
      subst this
      rw [oAt_eq]; exact hr) (.inr ⟨hst0, _, _, rfl⟩) hst hst2 hs
theorem dss_forL {xs : List PyData} {iter tg : Expr} {S0 : MS} {body : List Stmt} (hc : X.calm = true) (hp : PassesOwn (model X.prog X.w) X.A X.env X.xe) (hi : DE X ρ S iter (.list xs) S0) (R T : Nat → Rho) (M : Nat → MS) (h0 : R 0 = ρ) (hM : M 0 = S0)
    (hg : ∀ i x, xs[i]? = some x → DG X tg (R i) x (T i)) (hb : ∀ i, i < xs.length → DSs X (T i) (M i) body (.nx (R (i + 1)) (M (i + 1)))) (hr : DSs X (R xs.length) (M xs.length) rest o) (hs : ∀ x, foldedSetIterable iter X.env x = pure x := by intro _; rfl) : DSs X ρ S (.For tg iter body [] pos :: rest) o :=
  dss_cons (ds_forL hc hp hi R T M xs.length h0 hM (fun i x _ hx => hg i x hx) (fun i hi _ => by rw [oAt_lt hi]; exact hb i hi) (.inl ⟨rfl, rfl⟩) hs) hr
theorem dss_forT {xs : List PyData} {iter tg : Expr} {S0 : MS} {body : List Stmt} (hc : X.calm = true) (hp : PassesOwn (model X.prog X.w) X.A X.env X.xe) (hi : DE X ρ S iter (.tuple xs) S0) (R T : Nat → Rho) (M : Nat → MS) (h0 : R 0 = ρ) (hM : M 0 = S0)
    (hg : ∀ i x, xs[i]? = some x → DG X tg (R i) x (T i)) (hb : ∀ i, i < xs.length → DSs X (T i) (M i) body (.nx (R (i + 1)) (M (i + 1)))) (hr : DSs X (R xs.length) (M xs.length) rest o) (hs : ∀ x, foldedSetIterable iter X.env x = pure x := by intro _; rfl) : DSs X ρ S (.For tg iter body [] pos :: rest) o :=
  dss_cons (ds_forT hc hp hi R T M xs.length h0 hM (fun i x _ hx => hg i x hx) (fun i hi _ => by rw [oAt_lt hi]; exact hb i hi) (.inl ⟨rfl, rfl⟩) hs) hr
theorem ds_forLs {xs : List PyData} {iter tg : Expr} {S0 S' : MS} {body : List Stmt} (stop : Nat) (hc : X.calm = true) (hp : PassesOwn (model X.prog X.w) X.A X.env X.xe) (hi : DE X ρ S iter (.list xs) S0) (R T : Nat → Rho) (M : Nat → MS) (h0 : R 0 = ρ) (hM : M 0 = S0) (hst0 : stop < xs.length)
    (hg : ∀ i x, xs[i]? = some x → DG X tg (R i) x (T i)) (hb : ∀ i, i < stop → DSs X (T i) (M i) body (.nx (R (i + 1)) (M (i + 1)))) (hr : DSs X (T stop) (M stop) body (.rt d S')) (hs : ∀ x, foldedSetIterable iter X.env x = pure x := by intro _; rfl) : DS X ρ S (.For tg iter body [] pos) (.rt d S') :=
  ds_forL hc hp hi R T M stop h0 hM (fun i x _ hx => hg i x hx) (fun i hi hle => by
    by_cases hl : i < stop
    · rw [oAt_lt hl]; exact hb i hl
    · have : i = stop := by omega
      subst this
      rw [oAt_eq]; exact hr) (.inr ⟨hst0, _, _, rfl⟩) hs
theorem ds_forTs {xs : List PyData} {iter tg : Expr} {S0 S' : MS} {body : List Stmt} (stop : Nat) (hc : X.calm = true) (hp : PassesOwn (model X.prog X.w) X.A X.env X.xe) (hi : DE X ρ S iter (.tuple xs) S0) (R T : Nat → Rho) (M : Nat → MS) (h0 : R 0 = ρ) (hM : M 0 = S0) (hst0 : stop < xs.length)
    (hg : ∀ i x, xs[i]? = some x → DG X tg (R i) x (T i)) (hb : ∀ i, i < stop → DSs X (T i) (M i) body (.nx (R (i + 1)) (M (i + 1)))) (hr : DSs X (T stop) (M stop) body (.rt d S')) (hs : ∀ x, foldedSetIterable iter X.env x = pure x := by intro _; rfl) : DS X ρ S (.For tg iter body [] pos) (.rt d S') :=
  ds_forT hc hp hi R T M stop h0 hM (fun i x _ hx => hg i x hx) (fun i hi hle => by
    by_cases hl : i < stop
    · rw [oAt_lt hl]; exact hb i hl
    · have : i = stop := by omega
      subst this
      rw [oAt_eq]; exact hr) (.inr ⟨hst0, _, _, rfl⟩) hs
end
/-! what isinstance says -/
def isIntN : PyData → Bool
  | .int _ | .bool _ => true
  | _ => false
def isBoolN : PyData → Bool
  | .bool _ => true
  | _ => false
def isTupN : PyData → Bool
  | .tuple _ => true
  | _ => false
def isStrN : PyData → Bool
  | .str _ => true
  | _ => false
theorem kit_int (d : PyData) : kitB (tyN d) "int" = some (isIntN d) := by cases d <;> simp only [tyN, isIntN] <;> decide +kernel
theorem kit_bool (d : PyData) : kitB (tyN d) "bool" = some (isBoolN d) := by cases d <;> simp only [tyN, isBoolN] <;> decide +kernel
theorem kit_tup (d : PyData) : kitB (tyN d) "tuple" = some (isTupN d) := by cases d <;> simp only [tyN, isTupN] <;> decide +kernel
theorem kit_str (d : PyData) : kitB (tyN d) "str" = some (isStrN d) := by cases d <;> simp only [tyN, isStrN] <;> decide +kernel
end G
namespace Bm
open PySem PySem.Spec PyProof.Rows L2 G
def top (i : Nat) : Stmt := PySem.Challenge.pw_ballmoves_k59_whole_judged.main.body.getD i (.Pass ⟨0, 0, 0, 0⟩)
/-- the def st stands behind the top under the name x -/
structure Has (K : PySem.W.Frag) (mg : Str → Option Value) (x : Str) (st : Stmt) : Prop where
  ex : ∃ f fd, FunD K x x (defArgs st) (defBody st) (defScope st) [] [] f fd ∧ mg x = some (.ref f)
/-- the built-ins' names are free -/
structure Bl (mg : Str → Option Value) : Prop where
  len : mg "len" = none
  isinstance : mg "isinstance" = none
  all : mg "all" = none
  max : mg "max" = none
  min : mg "min" = none
  abs : mg "abs" = none
  int : mg "int" = none
  bool : mg "bool" = none
  str : mg "str" = none
  tuple : mg "tuple" = none
  list : mg "list" = none
  sorted : mg "sorted" = none
  repr : mg "repr" = none
  range : mg "range" = none
  enumerate : mg "enumerate" = none
  gcd : mg "gcd" = some (.builtin "math.gcd")
/-- the module's constants -/
structure Cst (K : PySem.W.Frag) (mg : Str → Option Value) : Prop where
  ex : ∀ x d, (x, d) ∈ ([("ZERO", .tuple [.int 0, .int 1]), ("START", .tuple [.int 0, .tuple [.int 0, .int 1]]), ("STILL", .tuple [.int 1, .int 0, .int 0, .int 1]), ("PRIMES", .tuple (P97.map fun (p : Nat) => .int (p : Int)))] : List (Str × PyData)) → ∃ a, mg x = some (.ref a) ∧ ∀ H, Rp K H (.ref a) d
/-! encodings -/
abbrev eF (x : Rat) : PyData := .tuple [.int x.num, .int (x.den : Int)]
abbrev eM (m : M4) : PyData := .tuple [.int m.a, .int m.b, .int m.c, .int m.d]
abbrev eB (β : Bq) : PyData := .tuple [.int β.n, eF β.q]
def eW (w : Wd) : PyData := .tuple (w.map fun l => .tuple [.int l.1, .int l.2])
/-- any datum, looked at -/
def isNum : PyData → Bool
  | .int _ => true
  | _ => false
def isRow (d : PyData) (n : Nat) : Bool := match d with
  | .tuple ds => decide (ds.length = n) && ds.all isNum
  | _ => false
theorem isNum_eq (d : PyData) : (isIntN d && !isBoolN d) = isNum d := by cases d <;> rfl
theorem outs_all (f : PyData → Bool) (ds : List PyData) : ((List.range ds.length).map fun i => f (ds.getD i .none)).all id = ds.all f := by
  induction ds with
  | nil => rfl
  | cons d ds ih =>
    rw [List.length_cons, List.range_succ_eq_map, List.map_cons, List.all_cons, List.map_map, List.all_cons, ← ih]
    rfl
theorem filter_true (n : Nat) : (List.range n).filter (fun _ => true) = List.range n := by simp
theorem outs_bool (f : Nat → Bool) (n : Nat) : outs (fun _ => true) (fun i => .bool (f i)) n = ((List.range n).map f).map .bool := by
  unfold outs; rw [filter_true, List.map_map]; rfl
end Bm
namespace G
open PySem PySem.Spec PyProof.Rows L2
section
variable {X : Cx} {ρ : Rho} {S : MS} {e c iter elt : Expr} {d d' : PyData} {pos tp : Pos} {scope : Scope} {x : Str} {j : Nat} {t : Nat → Bool} {v : Nat → PyData}
/-! comprehensions that change nothing, with no test or with one -/
theorem de_lcT0 {ys : List PyData} (hc : X.calm = true) (hN : X.N.Nodup) (hi : DE X ρ S iter (.tuple ys) S) (ok : BlkOk X.N X.env.scope scope [(x, j)]) (hg : Blk X scope fun Y => PG Y (.Name x tp) (gName j)) (hj : ρ[j]? = some .no) (hn : ys.length ≤ 50000)
    (he : ∀ i, i < ys.length → Blk X scope fun Y => DE Y (ρ.set j (.dat (ys.getD i .none))) S elt (v i) S) (hs : ∀ x, foldedSetIterable iter X.env x = pure x := by intro _; rfl) :
    DE X ρ S (.ListComp elt [⟨.Name x tp, iter, [], 0⟩] scope pos) (.list (outs (fun _ => true) v ys.length)) S :=
  de_lcT (M := fun _ => S) hc hN hi ok hg hj hn (fun _ _ _ _ _ => pts_nil) tst_yes (fun _ _ => Like.rfl') (fun _ _ _ => rfl) (fun i hi _ => he i hi) hs
theorem de_lcTi {ys : List PyData} (hc : X.calm = true) (hN : X.N.Nodup) (hi : DE X ρ S iter (.tuple ys) S) (ok : BlkOk X.N X.env.scope scope [(x, j)]) (hg : Blk X scope fun Y => PG Y (.Name x tp) (gName j)) (hj : ρ[j]? = some .no) (hn : ys.length ≤ 50000)
    (ht : ∀ i, i < ys.length → Blk X scope fun Y => DT Y (ρ.set j (.dat (ys.getD i .none))) S c (t i) S)
    (he : ∀ i, i < ys.length → t i = true → Blk X scope fun Y => DE Y (ρ.set j (.dat (ys.getD i .none))) S elt (v i) S) (hs : ∀ x, foldedSetIterable iter X.env x = pure x := by intro _; rfl) :
    DE X ρ S (.ListComp elt [⟨.Name x tp, iter, [c], 0⟩] scope pos) (.list (outs t v ys.length)) S :=
  de_lcT (M := fun _ => S) hc hN hi ok hg hj hn (ts_any (M := fun _ => S) (R := fun i => ρ.set j (.dat (ys.getD i .none))) ht) tst_any (fun _ _ => Like.rfl') (fun _ _ _ => rfl) he hs
theorem de_lcL0 {ys : List PyData} (hc : X.calm = true) (hN : X.N.Nodup) (hi : DE X ρ S iter (.list ys) S) (ok : BlkOk X.N X.env.scope scope [(x, j)]) (hg : Blk X scope fun Y => PG Y (.Name x tp) (gName j)) (hj : ρ[j]? = some .no) (hn : ys.length ≤ 50000)
    (he : ∀ i, i < ys.length → Blk X scope fun Y => DE Y (ρ.set j (.dat (ys.getD i .none))) S elt (v i) S) (hs : ∀ x, foldedSetIterable iter X.env x = pure x := by intro _; rfl) :
    DE X ρ S (.ListComp elt [⟨.Name x tp, iter, [], 0⟩] scope pos) (.list (outs (fun _ => true) v ys.length)) S :=
  de_lcL (M := fun _ => S) hc hN hi ok hg hj hn (fun _ _ _ _ _ => pts_nil) tst_yes (fun _ _ => Like.rfl') (fun _ _ _ => rfl) (fun i hi _ => he i hi) hs
theorem de_lcLi {ys : List PyData} (hc : X.calm = true) (hN : X.N.Nodup) (hi : DE X ρ S iter (.list ys) S) (ok : BlkOk X.N X.env.scope scope [(x, j)]) (hg : Blk X scope fun Y => PG Y (.Name x tp) (gName j)) (hj : ρ[j]? = some .no) (hn : ys.length ≤ 50000)
    (ht : ∀ i, i < ys.length → Blk X scope fun Y => DT Y (ρ.set j (.dat (ys.getD i .none))) S c (t i) S)
    (he : ∀ i, i < ys.length → t i = true → Blk X scope fun Y => DE Y (ρ.set j (.dat (ys.getD i .none))) S elt (v i) S) (hs : ∀ x, foldedSetIterable iter X.env x = pure x := by intro _; rfl) :
    DE X ρ S (.ListComp elt [⟨.Name x tp, iter, [c], 0⟩] scope pos) (.list (outs t v ys.length)) S :=
  de_lcL (M := fun _ => S) hc hN hi ok hg hj hn (ts_any (M := fun _ => S) (R := fun i => ρ.set j (.dat (ys.getD i .none))) ht) tst_any (fun _ _ => Like.rfl') (fun _ _ _ => rfl) he hs
theorem de_lcQ1 {m : Int} {rp rp2 : Pos} (hc : X.calm = true) (hN : X.N.Nodup) (hm : X.mg "range" = none) (ha : DA X ρ S [e] [.int m] S) (hm2 : 0 ≤ m ∧ m ≤ 50000) (ok : BlkOk X.N X.env.scope scope [(x, j)]) (hg : Blk X scope fun Y => PG Y (.Name x tp) (gName j)) (hj : ρ[j]? = some .no)
    (he : ∀ i : Nat, i < m.toNat → Blk X scope fun Y => DE Y (ρ.set j (.dat (.int (0 + i)))) S elt (v i) S) (hgl : Gl X "range" := by rfl) (hst : starEach [e] X.env = [(false, eval e X.env)] := by rfl) (hs : ∀ x, foldedSetIterable (.Call (.Name "range" rp) [e] [] rp2) X.env x = pure x := by intro _; rfl) :
    DE X ρ S (.ListComp elt [⟨.Name x tp, .Call (.Name "range" rp) [e] [] rp2, [], 0⟩] scope pos) (.list (outs (fun _ => true) v m.toNat)) S :=
  de_lcR1 (M := fun _ => S) hc hN hgl hm ha (by omega) ok hg hj (by omega) (fun _ _ _ _ _ => pts_nil) tst_yes (fun _ _ => Like.rfl') (fun _ _ _ => rfl) (fun i hi _ => he i hi) hst hs
theorem de_lcQ1i {m : Int} {rp rp2 : Pos} (hc : X.calm = true) (hN : X.N.Nodup) (hm : X.mg "range" = none) (ha : DA X ρ S [e] [.int m] S) (hm2 : 0 ≤ m ∧ m ≤ 50000) (ok : BlkOk X.N X.env.scope scope [(x, j)]) (hg : Blk X scope fun Y => PG Y (.Name x tp) (gName j)) (hj : ρ[j]? = some .no)
    (ht : ∀ i : Nat, i < m.toNat → Blk X scope fun Y => DT Y (ρ.set j (.dat (.int (0 + i)))) S c (t i) S)
    (he : ∀ i : Nat, i < m.toNat → t i = true → Blk X scope fun Y => DE Y (ρ.set j (.dat (.int (0 + i)))) S elt (v i) S) (hgl : Gl X "range" := by rfl) (hst : starEach [e] X.env = [(false, eval e X.env)] := by rfl) (hs : ∀ x, foldedSetIterable (.Call (.Name "range" rp) [e] [] rp2) X.env x = pure x := by intro _; rfl) :
    DE X ρ S (.ListComp elt [⟨.Name x tp, .Call (.Name "range" rp) [e] [] rp2, [c], 0⟩] scope pos) (.list (outs t v m.toNat)) S :=
  de_lcR1 (M := fun _ => S) hc hN hgl hm ha (by omega) ok hg hj (by omega) (ts_any (M := fun _ => S) (R := fun i => ρ.set j (.dat (.int (0 + i)))) ht) tst_any (fun _ _ => Like.rfl') (fun _ _ _ => rfl) he hst hs
theorem de_lcQ2 {e2 : Expr} {lo m : Int} {rp rp2 : Pos} (hc : X.calm = true) (hN : X.N.Nodup) (hm : X.mg "range" = none) (ha : DA X ρ S [e, e2] [.int lo, .int m] S) (hm2 : 0 ≤ lo ∧ lo ≤ 50000 ∧ 0 ≤ m ∧ m ≤ 50000) (ok : BlkOk X.N X.env.scope scope [(x, j)]) (hg : Blk X scope fun Y => PG Y (.Name x tp) (gName j)) (hj : ρ[j]? = some .no)
    (he : ∀ i : Nat, i < (m - lo).toNat → Blk X scope fun Y => DE Y (ρ.set j (.dat (.int (lo + i)))) S elt (v i) S) (hgl : Gl X "range" := by rfl) (hst : starEach [e, e2] X.env = [(false, eval e X.env), (false, eval e2 X.env)] := by rfl) (hst2 : starEach [e2] X.env = [(false, eval e2 X.env)] := by rfl)
    (hs : ∀ x, foldedSetIterable (.Call (.Name "range" rp) [e, e2] [] rp2) X.env x = pure x := by intro _; rfl) :
    DE X ρ S (.ListComp elt [⟨.Name x tp, .Call (.Name "range" rp) [e, e2] [] rp2, [], 0⟩] scope pos) (.list (outs (fun _ => true) v (m - lo).toNat)) S :=
  de_lcR2 (M := fun _ => S) hc hN hgl hm ha (by omega) ok hg hj (by omega) (fun _ _ _ _ _ => pts_nil) tst_yes (fun _ _ => Like.rfl') (fun _ _ _ => rfl) (fun i hi _ => he i hi) hst hst2 hs
theorem de_lcQ2i {e2 : Expr} {lo m : Int} {rp rp2 : Pos} (hc : X.calm = true) (hN : X.N.Nodup) (hm : X.mg "range" = none) (ha : DA X ρ S [e, e2] [.int lo, .int m] S) (hm2 : 0 ≤ lo ∧ lo ≤ 50000 ∧ 0 ≤ m ∧ m ≤ 50000) (ok : BlkOk X.N X.env.scope scope [(x, j)]) (hg : Blk X scope fun Y => PG Y (.Name x tp) (gName j)) (hj : ρ[j]? = some .no)
    (ht : ∀ i : Nat, i < (m - lo).toNat → Blk X scope fun Y => DT Y (ρ.set j (.dat (.int (lo + i)))) S c (t i) S)
    (he : ∀ i : Nat, i < (m - lo).toNat → t i = true → Blk X scope fun Y => DE Y (ρ.set j (.dat (.int (lo + i)))) S elt (v i) S) (hgl : Gl X "range" := by rfl) (hst : starEach [e, e2] X.env = [(false, eval e X.env), (false, eval e2 X.env)] := by rfl) (hst2 : starEach [e2] X.env = [(false, eval e2 X.env)] := by rfl)
    (hs : ∀ x, foldedSetIterable (.Call (.Name "range" rp) [e, e2] [] rp2) X.env x = pure x := by intro _; rfl) :
    DE X ρ S (.ListComp elt [⟨.Name x tp, .Call (.Name "range" rp) [e, e2] [] rp2, [c], 0⟩] scope pos) (.list (outs t v (m - lo).toNat)) S :=
  de_lcR2 (M := fun _ => S) hc hN hgl hm ha (by omega) ok hg hj (by omega) (ts_any (M := fun _ => S) (R := fun i => ρ.set j (.dat (.int (lo + i)))) ht) tst_any (fun _ _ => Like.rfl') (fun _ _ _ => rfl) he hst hst2 hs
end
end G
/-! enumerate over a tuple, in the hand layer's terms. -/
namespace G
open PySem PySem.Spec PyProof.Rows L2
open AutoSeq1 (wpAny_loadPart')
theorem newEnumT (tp : Addr) (cells : Array Value) (cnt : Nat) (dd : Option Addr) (so : Array (Option Value)) :
    Meets (Builtin.«enumerate.__new__» ⟨[.type "enumerate", .ref tp], []⟩) (fun _ R z => z.heap.get? tp = some { cls := .type "tuple", dict := dd, data := .seq cells cnt, slots := so } ∧
      R (.ok (.ret (.ref (z.heap.push { cls := .type "tuple_iterator", data := .fields #[.ref tp, .int 0 0] }).objs.size)))
        { z with heap := (z.heap.push { cls := .type "tuple_iterator", data := .fields #[.ref tp, .int 0 0] }).push { cls := .type "enumerate", data := .fields #[.none, .bool false, .ref z.heap.objs.size, rawInt 0, .none, .none] } }) :=
  .of_wp fun pg wo Ar R z hz => by
    obtain ⟨hp, gl, dr, tk, os⟩ := z
    obtain ⟨got, go⟩ := hz
    have sub1 := sub_enumerate
    have isT : Heap.IsTuple (Shared.heap ⟨hp, gl, dr, tk, os⟩) tp cells := ⟨_, got, rfl, cnt, rfl⟩
    wp_walk using wpAny_loadPart' got
    refine wpAny_stack_any fun stk => wpAny_pure ?_
    split
    · rename_i cc _ _ _ _ _
      cases (cc == Value.type "enumerate")
      · wp_walk using wpAny_loadPart' got, wpAny_pyIter_tuple isT
        exact ⟨_, rfl, go⟩
      · wp_walk using wpAny_loadPart' got, wpAny_pyIter_tuple isT
        exact ⟨_, rfl, go⟩
    · wp_walk using wpAny_loadPart' got, wpAny_pyIter_tuple isT
      exact ⟨_, rfl, go⟩
theorem callEnumT {pg : Program} {wo : World} {Ar : Around} {E : Value → Shared → Prop} {z : Shared} {tp : Addr} {cells : Array Value} {Q : Value → Shared → Prop} (isT : z.heap.IsTuple tp cells)
    (go : ∀ h1, IsEnum h1 (z.heap.objs.size + 1) z.heap.objs.size 0 .none → h1.IsTupleIter z.heap.objs.size tp 0 →
      (∀ b o, z.heap.get? b = some o → h1.get? b = some o) → Q (.ref (z.heap.objs.size + 1)) { z with heap := h1 }) : wpAny (model pg wo) Ar (call (.type "enumerate") [.ref tp]) Q E z := by
  obtain ⟨⟨c, dd, dt, so⟩, got, hc, cnt, hd⟩ := isT
  replace hc : c = .type "tuple" := hc
  replace hd : dt = .seq cells cnt := hd
  subst hc hd
  refine callType_new F.called_enumerate (by decide) (F.typeCall_enumerate_1 _) (F.newCall_enumerate_1 _)
    (fun obj => F.args_object_init_2 obj _) F.entry_enumerate_new (newEnumT tp cells cnt dd so) ⟨got, ?_⟩
  have sz : (z.heap.push { cls := .type "tuple_iterator", data := .fields #[.ref tp, .int 0 0] }).objs.size = z.heap.objs.size + 1 := Heap.size_push ..
  show _ ∧ _
  rw [sz]
  have ie : IsEnum ((z.heap.push { cls := .type "tuple_iterator", data := .fields #[.ref tp, .int 0 0] }).push
      { cls := .type "enumerate", data := .fields #[.none, .bool false, .ref z.heap.objs.size, rawInt 0, .none, .none] }) (z.heap.objs.size + 1) z.heap.objs.size 0 .none := by
    have at1 := Heap.get?_push_size (z.heap.push { cls := .type "tuple_iterator", data := .fields #[.ref tp, .int 0 0] })
      (o := { cls := .type "enumerate", data := .fields #[.none, .bool false, .ref z.heap.objs.size, rawInt 0, .none, .none] }) rfl
    rw [sz] at at1; exact at1
  exact ⟨⟨_, ie, rfl⟩, go _ ie ⟨_, Heap.get?_push_of_some _ (Heap.get?_push_size _ rfl), rfl, rfl⟩ fun b o x => Heap.get?_push_of_some _ (Heap.get?_push_of_some _ x)⟩
/-- the tuple at a, each item in a new pair -/
def IteT (K : PySem.W.Frag) (a : Addr) : It :=
  ⟨fun i H => ∃ (vs : List V) (v : V), SqT K H a vs ∧ vs[i]? = some v, fun i H y H' => ∃ T v, y = .ref T ∧ H T = none ∧ H' = upd H T (.tup [.int (i : Nat), v]) ∧ ∀ vs, SqT K H a vs → vs[i]? = some v, fun i H => ∃ vs : List V, SqT K H a vs ∧ vs.length ≤ i⟩
theorem iter_ne {h : Heap} {it a : Addr} {i : Nat} {cells : Array Value} (x : h.IsTupleIter it a i) (y : h.IsTuple a cells) : a ≠ it := by
  intro e
  subst e
  obtain ⟨o, h1, h2, _⟩ := x
  obtain ⟨o', g1, g2, _⟩ := y
  rw [h1] at g1
  cases g1
  rw [h2] at g2
  exact absurd g2 (by decide)
theorem turnEnumT {P : Program} {w : World} {K : PySem.W.Frag} {tgs : List Expr} {kk : Nat} {tp : Pos} (a e it : Addr) :
    Turn P w K (.Tuple tgs kk tp) (IteT K a) [e, it] e (fun i h => (∃ old, IsEnum h e it ((i : Nat) : Int) old) ∧ h.IsTupleIter it a i ∧ e ≠ it) where
  mem := by simp
  obj := fun i h st b hb => by
    obtain ⟨⟨old, h1⟩, ⟨o, ho, _, hd⟩, _⟩ := st
    rcases (show b = e ∨ b = it by simpa using hb) with z | z
    · exact z ▸ ⟨_, h1, fun v q => nomatch q⟩
    · exact z ▸ ⟨o, ho, fun v q => by rw [hd] at q; cases q⟩
  keep := fun i h h' st k => ⟨st.1.imp fun old q => k e (by simp) _ q, st.2.1.at fun o q => k it (by simp) o q, st.2.2⟩
  item := by
    intro X hP hw hK hc i pins s σ H E I hf st hg
    subst hP hw hK
    obtain ⟨⟨old, h1⟩, h2, h3⟩ := st
    obtain ⟨vs, v, hq, hv⟩ := hg
    obtain ⟨cells, rv, isT, hz⟩ := I.tuple hq
    have isT' : s.heap.IsTuple a cells.toArray := isT
    obtain ⟨u, hu, ru⟩ := rv.get hv
    have el : e < s.heap.objs.size := Heap.lt_size h1
    have il : it < s.heap.objs.size := by obtain ⟨_, q, _⟩ := h2; exact Heap.lt_size q
    have al : a < s.heap.objs.size := by obtain ⟨_, q, _⟩ := isT'; exact Heap.lt_size q
    have nai := iter_ne h2 isT'
    have nae : e ≠ a := fun z => by
      obtain ⟨o, q1, q2, _⟩ := isT'
      have h1' : s.heap.get? e = some _ := h1
      rw [z, q1] at h1'
      cases h1'
      exact absurd q2 (by simp)
    refine wpAny_pyNext_enum_itemD (Draws.tuple (prog := X.prog) (w := X.w) (A := X.A.in1) (I.ok.hd hc) it a nai cells.toArray) h1 ⟨h2, isT'⟩ (by
      have := rv.length
      have := (List.getElem?_eq_some_iff.mp hv).1
      simp; omega) h3 (by simp; exact ⟨h3, nae⟩) fun x h' tk hx ho hst hT hsz hk => ?_
    have ex : x = u := by
      have q : cells.toArray[i]? = some u := by simpa using hu
      rw [q] at hx; cases hx; rfl
    subst ex
    refine ⟨_, rfl, wpAny_letOwnedTupleGo_enum (s := { s with heap := h', toks := tk + 1 }) ho fun h'' he' sb => ?_⟩
    have hT2 : h''.get? s.heap.objs.size = some { cls := .type "tuple", data := .seq #[.int i tk, x] } := (sb.2 _ (Nat.ne_of_gt el)).trans hT
    have nw : ObjOk X.prog X.w (upd H s.heap.objs.size (.tup [.int (i : Nat), v])) h'' s.heap.objs.size (.tup [.int (i : Nat), v]) :=
      ⟨by show 2 ≤ sizeLine; decide, [.int i tk, x], .cons ⟨_, rfl⟩ (.cons ru .nil), ⟨_, hT2, rfl, _, rfl⟩⟩
    have I1 : Inv X pins σ (upd H s.heap.objs.size (.tup [.int (i : Nat), v])) { s with heap := h'', toks := tk + 1 } :=
      I.turnedNew (ch := [e, it]) (fun b ob hb q => (sb.2 b fun z => hb (by simp [z])).trans (hk b ob (fun z => hb (by simp [z])) (fun z => hb (by simp [z])) q)) hf (Nat.le_refl _) nw
    refine ⟨.ref s.heap.objs.size, _, I1, rfl, ⟨_, v, rfl, I.hok.fresh (Nat.le_refl _), rfl, fun ws hy => by rw [I.tuple_inj hy hq]; exact hv⟩, ⟨⟨x, ?_⟩, hst.1.at fun o q => (sb.2 it (Ne.symm h3)).trans q, h3⟩, fun b hb => ?_⟩
    · have ez : ((i + 1 : Nat) : Int) = (i : Int) + 1 := by omega
      rw [ez]; exact he'
    · have hl : b < s.heap.objs.size := by
        rcases (show b = e ∨ b = it by simpa using hb) with z | z
        · exact z ▸ el
        · exact z ▸ il
      rw [upd_ne (Nat.ne_of_lt hl)]
      exact (hf b hb).1
  done := by
    intro X hP hw hK hc i pins s σ H E I hf st hg
    subst hP hw hK
    obtain ⟨⟨old, h1⟩, h2, h3⟩ := st
    obtain ⟨vs, hq, hv⟩ := hg
    obtain ⟨cells, rv, isT, hz⟩ := I.tuple hq
    have isT' : s.heap.IsTuple a cells.toArray := isT
    obtain ⟨f0, f1, f2, f3, f4, f5⟩ := hf it (by simp)
    have hl := rv.length
    have hT : s.TypeIs (.ref e) "enumerate" := ⟨_, h1, rfl⟩
    unfold pyNext
    refine wpAny_bind (wpAny_attempt (wpAny_callSpecial?_slot (name := Str.ofString "__next__") hT F.slot_enumerate_next
      (wpAny_call_entry F.slot_enumerate_next hT F.entry_enumerate_next ?_ (F.args_enumerate_next_1 _))))
    show wpAny _ _ (field (.ref e) 2 >>= _) _ _ _
    refine wpAny_bind (wpAny_field h1 rfl (x := .ref it) rfl ?_)
    refine wpAny_bind (wpAny_nextOf_tuple_end (I.ok.hd hc) h2 isT' (by simp; omega) fun h' x he' hx' => ?_)
    obtain ⟨o, ho, hcl⟩ := hx'
    refine wpAny_bind (wpAny_isInstance (T := "StopIteration") (b := true) ⟨o, ho, hcl⟩ isSubtype_stop ?_)
    exact wpAny_pure ⟨rfl, I.turned (t' := s.toks) (fun b o hb q => he' b o hb q) f0 f1 f3 f4 f5⟩
  self := fun A i s Q E st h => wpAny_pyIter_enum st.1.choose_spec h
def iEnumT (K : PySem.W.Frag) (ta : TA) : TI := fun σ H R => ta σ H fun vs H1 => ∃ a xs, vs = [.ref a] ∧ SqT K H1 a xs ∧ R (IteT K a) H1
theorem pi_enumT {X : Cx} {e : Expr} {ta : TA} {p pos tp : Pos} {tgs : List Expr} {kk : Nat} (hg : Gl X "enumerate") (hm : X.mg "enumerate" = none) (ha : PA X [e] ta) (hs : starEach [e] X.env = [(false, eval e X.env)] := by rfl) :
    PI X (.Tuple tgs kk tp) (.Call (.Name "enumerate" p) [e] [] pos) (iEnumT X.K ta) := by
  refine ⟨fun pins s σ H R I h => Call_ (ld_blt I hg hm boot_enumerate (PyProof.Rows.callWith_type1 (thn (ha.run pos pins s σ H _ I h) fun us s1 ⟨vs, H1, I1, r1, q1⟩ => ?_) hs rfl))⟩
  obtain ⟨a, xs, ex, hq, q⟩ := q1
  subst ex
  cases r1 with
  | cons r rr =>
    cases rr
    cases r
    obtain ⟨cells, rv, isT, hz⟩ := I1.tuple hq
    refine callEnumT (show s1.heap.IsTuple a cells.toArray from isT) fun h' he hit hk => wpAny_pyIter_enum he ?_
    refine ⟨s1.heap.objs.size + 1, [s1.heap.objs.size + 1, s1.heap.objs.size], _, _, H1, rfl, I1.kept (t' := s1.toks) hk, turnEnumT a (s1.heap.objs.size + 1) s1.heap.objs.size, ⟨⟨.none, he⟩, hit, Nat.succ_ne_self _⟩, fun b hb => ?_, q⟩
    have le : s1.heap.objs.size ≤ b := by
      rcases (show b = s1.heap.objs.size + 1 ∨ b = s1.heap.objs.size by simpa using hb) with z | z
      · rw [z]; exact Nat.le_add_right _ _
      · rw [z]; exact Nat.le_refl _
    exact I1.fpOk le (I1.hok.fresh le)
end G
/-! for k, x in enumerate(xs), over data. -/
namespace G
open PySem PySem.Spec PyProof.Rows L2
/-- what an enumerating walk gives -/
structure EnumW (J : It) (vs : List V) (Pv : Nat → L2.St → Hp → Prop) : Prop where
  stop : ∀ i σ H, Pv i σ H → vs.length ≤ i → J.stop i H
  go : ∀ i σ H, Pv i σ H → i < vs.length → J.go i H
  yld : ∀ i σ H x H', Pv i σ H → J.yld i H x H' → ∃ T v, x = .ref T ∧ H T = none ∧ H' = upd H T (.tup [.int (i : Nat), v]) ∧ vs[i]? = some v
theorem for_enum {J : It} {vs : List V} {g : TG} {tb : TS} {D : Ends} {σ : L2.St} {H : Hp} (Pv : Nat → L2.St → Hp → Prop) (e : EnumW J vs Pv) (h0 : Pv 0 σ H)
    (hs : ∀ i T v σ H, vs[i]? = some v → Pv i σ H → H T = none → g (.ref T) σ (upd H T (.tup [.int (i : Nat), v])) fun σ2 H2 => tb { D with nx := Pv (i + 1), ct := Pv (i + 1), bk := D.nx } σ2 H2) (hd : ∀ σ H, Pv vs.length σ H → D.nx σ H) :
    ∃ W : Nat → Nat → L2.St → Hp → Prop, (∃ m, W 0 m σ H) ∧ ∀ i m σ H, W i m σ H →
      (J.stop i H ∧ D.nx σ H) ∨ (J.go i H ∧ ∃ N : L2.St → Hp → Prop, (∀ σ' H', N σ' H' → ∃ m', m' < m ∧ W (i + 1) m' σ' H') ∧ ∀ x H', J.yld i H x H' → g x σ H' fun σ2 H2 => tb { D with nx := N, ct := N, bk := D.nx } σ2 H2) := by
  refine ⟨fun i m σ H => m = vs.length - i ∧ i ≤ vs.length ∧ Pv i σ H, ⟨vs.length, by simp, Nat.zero_le _, h0⟩, ?_⟩
  intro i m σ H ⟨hm, hi, p⟩
  rcases Nat.lt_or_ge i vs.length with hlt | hge
  · refine .inr ⟨e.go i σ H p hlt, Pv (i + 1), fun σ' H' p' => ⟨vs.length - (i + 1), by omega, rfl, hlt, p'⟩, fun x H' y => ?_⟩
    obtain ⟨T, v, rfl, hT, rfl, hv⟩ := e.yld i σ H x H' p y
    exact hs i T v σ H hv p hT
  · have ee : i = vs.length := by omega
    exact .inl ⟨e.stop i σ H p hge, hd σ H (ee ▸ p)⟩
section
variable {X : Cx} {ρ : Rho} {S S0 : MS} {e tg : Expr} {body : List Stmt} {pos : Pos} {o : Out}
theorem enum_reads {K : PySem.W.Frag} {J : It} {vs : List V} {xs : List PyData} {R T : Nat → Rho} {M : Nat → MS} {stop : Nat} {a : Ad} {H1 Hi1 : Hp} {D : Ends} {σ : L2.St} (r : RpAll K Hi1 vs xs) (ew : EnumW J vs (fun i σ' H' => i ≤ stop ∧ LPv K R M S0 a H1 Hi1 i σ' H')) (h0 : R 0 = ρ) (hM : M 0 = S0)
    (hf : (stop = xs.length ∧ o = .nx (R xs.length) (M xs.length)) ∨ (stop < xs.length ∧ ∃ d S', o = .rt d S')) (ok1 : Ok K Hi1 a σ H1 ρ S0) (f1 : Fol K S0 a H1 Hi1 D o) :
    ∃ W : Nat → Nat → L2.St → Hp → Prop, (∃ m, W 0 m σ H1) ∧ ∀ i m σ H, W i m σ H → (J.stop i H ∧ D.nx σ H) ∨ (J.go i H ∧ ∃ N : L2.St → Hp → Prop, (∀ σ' H', N σ' H' → ∃ m', m' < m ∧ W (i + 1) m' σ' H') ∧
      ∀ x H', J.yld i H x H' → (gAny (fun j : LoopI xs.length stop => tG K (R j.i) (.tuple [.int (j.i : Nat), xs.getD j.i .none]) (T j.i))) x σ H' fun σ2 H2 => (tAny (fun j : LoopI xs.length stop => tS K (T j.i) (M j.i) (oAt R M stop o j.i))) { D with nx := N, ct := N, bk := D.nx } σ2 H2) := by
  have len := r.len
  refine for_enum (vs := vs) _ ew (loop_start h0 hM ok1) (fun i Tp v σ' H' hv ⟨hst, p⟩ hT => ?_) (fun σ' H' p => loop_end hf f1 (by rw [← len]; exact p))
  obtain ⟨Hi', a', ok, st⟩ := p.ex
  obtain ⟨d, hd, rd⟩ := r.getV hv
  have ps : PSt H' (upd H' Tp (.tup [.int (i : Nat), v])) Hi' (upd Hi' Tp (.tup [.int (i : Nat), v])) := PSt.lay ok.ex hT
  have p2 : LPv K R M S0 a H1 Hi1 i σ' (upd H' Tp (.tup [.int (i : Nat), v])) := ⟨_, a', ok.pure ps, st.trans (.of Like.rfl' ps.stp)⟩
  have hlt : i < xs.length := by rw [← len]; exact (List.getElem?_eq_some_iff.mp hv).1
  obtain ⟨Hi2, a2, ok2, st2⟩ := p2.ex
  refine ⟨⟨i, hlt, hst⟩, upd Hi' Tp (.tup [.int (i : Nat), v]), a', M i, ok.pure ps, ?_, fun σ2 ok2 => ⟨⟨i, hlt, hst⟩, _, a', ok2, ?_⟩⟩
  · show Rp K _ (.ref Tp) (.tuple [.int (i : Nat), xs.getD i .none])
    rw [getD_of hd]
    exact .tup (SqT.of upd_same) (.cons (.int _) (.cons (rd.mono (st.exi.trans ps.exi)) .nil))
  · have st3 := st.trans (SStp.of (S := M i) Like.rfl' ps.stp)
    show Fol K (M i) a' _ _ _ (oAt R M stop o i)
    unfold oAt
    by_cases hl : i < stop
    · rw [if_pos hl]
      exact fun σ3 H3 Hi3 a3 y ok3 => ⟨hl, ⟨Hi3, a3, ok3, st3.trans y⟩⟩
    · rw [if_neg hl]
      rcases hf with ⟨h1, _⟩ | ⟨h1, d, S', h2⟩
      · omega
      · subst h2
        exact f1.step st3
variable {xs : List PyData} {p p2 tp : Pos} {tgs : List Expr} {kk : Nat} {sts : List Stmt}
theorem ds_forE {dl : PyData} (hd : dl = .list xs ∨ dl = .tuple xs) (hc : X.calm = true) (hp : PassesOwn (model X.prog X.w) X.A X.env X.xe) (hm : X.mg "enumerate" = none) (ha : DA X ρ S [e] [dl] S0) (R T : Nat → Rho) (M : Nat → MS) (stop : Nat) (h0 : R 0 = ρ) (hM : M 0 = S0)
    (hg : ∀ i x, i ≤ stop → xs[i]? = some x → DG X (.Tuple tgs kk tp) (R i) (.tuple [.int (i : Nat), x]) (T i)) (hb : ∀ i, i < xs.length → i ≤ stop → DSs X (T i) (M i) body (oAt R M stop o i))
    (hf : (stop = xs.length ∧ o = .nx (R xs.length) (M xs.length)) ∨ (stop < xs.length ∧ ∃ d S', o = .rt d S')) (hgl : Gl X "enumerate" := by rfl) (hst : starEach [e] X.env = [(false, eval e X.env)] := by rfl)
    (hs : ∀ x, foldedSetIterable (.Call (.Name "enumerate" p) [e] [] p2) X.env x = pure x := by intro _; rfl) : DS X ρ S (.For (.Tuple tgs kk tp) (.Call (.Name "enumerate" p) [e] [] p2) body [] pos) o := by
  have gAll : PG X (.Tuple tgs kk tp) (gAny (fun j : LoopI xs.length stop => tG X.K (R j.i) (.tuple [.int (j.i : Nat), xs.getD j.i .none]) (T j.i))) := pg_any fun j => hg j.i _ j.le (get_lt j.lt)
  have bAll : PSs X body (tAny (fun j : LoopI xs.length stop => tS X.K (T j.i) (M j.i) (oAt R M stop o j.i))) := pss_any fun j => (hb j.i j.lt j.le).ps
  rcases hd with rfl | rfl
  · refine ⟨ps_mono (ps_for hp hc (pi_enum hgl hm ha.pa hst) gAll bAll hs) fun D σ H ⟨Hi, a, ok, f⟩ => ?_⟩
    refine ⟨Hi, a, ok, fun vs H1 Hi1 s1 ok1 r1 => ?_⟩
    cases r1 with
    | cons r1 r2 =>
      cases r2
      cases r1 with
      | lst hl hr =>
        rename_i l ws
        refine ⟨l, ws, rfl, .inl (.inl (ok1.ex _ _ hl)), enum_reads (S0 := S0) (a := a) (ρ := ρ) hr ?_ h0 hM hf ok1 (f.step (SStp.of ha.like s1))⟩
        have sq : ∀ i σ' H', (i ≤ stop ∧ LPv X.K R M S0 a H1 Hi1 i σ' H') → SqL X.K H' l ws := fun i σ' H' ⟨_, q⟩ => by
          obtain ⟨Hi', a', ok', st'⟩ := q.ex
          exact .inl (.inl (ok'.ex _ _ (st'.exi _ _ hl)))
        exact ⟨fun i σ' H' q hi => ⟨ws, sq i σ' H' q, hi⟩, fun i σ' H' q hi => ⟨ws, ws[i], sq i σ' H' q, List.getElem?_eq_getElem hi⟩, fun i σ' H' x H'' q ⟨T, v, e1, e2, e3, e4⟩ => ⟨T, v, e1, e2, e3, e4 ws (sq i σ' H' q)⟩⟩
  · refine ⟨ps_mono (ps_for hp hc (pi_enumT hgl hm ha.pa hst) gAll bAll hs) fun D σ H ⟨Hi, a, ok, f⟩ => ?_⟩
    refine ⟨Hi, a, ok, fun vs H1 Hi1 s1 ok1 r1 => ?_⟩
    cases r1 with
    | cons r1 r2 =>
      cases r2
      cases r1 with
      | tup hl hr =>
        rename_i l ws
        refine ⟨l, ws, rfl, ok1.ex.tup hl, enum_reads (S0 := S0) (a := a) (ρ := ρ) hr ?_ h0 hM hf ok1 (f.step (SStp.of ha.like s1))⟩
        have sq : ∀ i σ' H', (i ≤ stop ∧ LPv X.K R M S0 a H1 Hi1 i σ' H') → SqT X.K H' l ws := fun i σ' H' ⟨_, q⟩ => by
          obtain ⟨Hi', a', ok', st'⟩ := q.ex
          exact ok'.ex.tup (st'.exi.tup hl)
        exact ⟨fun i σ' H' q hi => ⟨ws, sq i σ' H' q, hi⟩, fun i σ' H' q hi => ⟨ws, ws[i], sq i σ' H' q, List.getElem?_eq_getElem hi⟩, fun i σ' H' x H'' q ⟨T, v, e1, e2, e3, e4⟩ => ⟨T, v, e1, e2, e3, e4 ws (sq i σ' H' q)⟩⟩
end
end G
namespace G
open PySem PySem.Spec PyProof.Rows L2
section
variable {X : Cx} {ρ : Rho} {S S1 : MS} {a b c : Expr} {da db dc : PyData} {pos : Pos}
theorem ds_par3 {i j l : Nat} {x y z : Str} {px py pz pt : Pos} {kt k2 pt2} (hc : X.calm = true) (hN : X.N.Nodup) (hi : X.N[i]? = some x) (hj : X.N[j]? = some y) (hl : X.N[l]? = some z) (hij : i ≠ j) (hil : i ≠ l) (hjl : j ≠ l)
    (hx : X.env.scope.names.lookup x = some .local) (hy : X.env.scope.names.lookup y = some .local) (hz : X.env.scope.names.lookup z = some .local) (ha : DA X ρ S [a, b, c] [da, db, dc] S1)
    (hw : swappedStores [.Tuple [.Name x px, .Name y py, .Name z pz] kt pt] (.Tuple [a, b, c] k2 pt2) X.env = pure (some [x, y, z]))
    (hs : swapsWithSole [.Tuple [.Name x px, .Name y py, .Name z pz] kt pt] (.Tuple [a, b, c] k2 pt2) pos.line X.env = pure false := by rfl) :
    DS X ρ S (.Assign [.Tuple [.Name x px, .Name y py, .Name z pz] kt pt] (.Tuple [a, b, c] k2 pt2) pos) (.nx (((ρ.set i (.dat da)).set j (.dat db)).set l (.dat dc)) S1) :=
  ⟨ps_mono (ps_par3 hc hN hi hj hl hij hil hjl hx hy hz ha.pa hw hs) fun D σ H ⟨Hi, a, ok, f⟩ => ⟨Hi, a, ok, fun vs H' Hi' s1 ok1 r1 => by
    cases r1 with
    | cons h1 h2 =>
      cases h2 with
      | cons h2 h3 =>
        cases h3 with
        | cons h3 h4 =>
          cases h4
          exact ⟨_, _, _, rfl, f _ H' Hi' a (.of ha.like s1) (((ok1.put h1).put h2).put h3)⟩⟩⟩
end
end G
namespace G
open PySem PySem.Spec PyProof.Rows L2
section
variable {X : Cx} {ρ : Rho} {S S1 : MS} {sts : List Stmt} {o : Out}
theorem Ok.drop {K : PySem.W.Frag} {Hi H : Hp} {a : Ad} {σ : L2.St} {i : Nat} (ok : Ok K Hi a σ H ρ S) : Ok K Hi a σ H (ρ.set i .no) S where
  ex := ok.ex
  len := by rw [List.length_set]; exact ok.len
  sl := fun j x e => by
    by_cases hj : j = i
    · subst hj
      by_cases hl : j < ρ.length
      · rw [List.getElem?_set_self hl] at e; cases e; trivial
      · rw [List.getElem?_eq_none (by rw [List.length_set]; omega)] at e; cases e
    · rw [List.getElem?_set_ne (Ne.symm hj)] at e
      exact ok.sl j x e
  own := ok.own
  src := ok.src
  apart := ok.apart
/-- a slot that is not looked at any more -/
theorem dss_drop (i : Nat) (k : DSs X (ρ.set i .no) S sts o) : DSs X ρ S sts o := ⟨pss_mono k.ps fun D σ H ⟨Hi, a, ok, f⟩ => ⟨Hi, a, ok.drop, f⟩⟩
theorem dss_eqR {ρ' : Rho} (e : ρ = ρ') (k : DSs X ρ' S sts o) : DSs X ρ S sts o := e ▸ k
end
end G
namespace G
open PySem PySem.Spec PyProof.Rows L2
section
variable {X : Cx} {ρ : Rho} {S S' : MS} {M : Nat → MS} {t : Nat → Bool} {v : Nat → PyData} {x y : Str} {i j : Nat} {elt iter c : Expr} {ifs : List Expr} {scope : Scope} {pos p tp py spos : Pos} {tt : TT} {d : PyData}
/-- y = [..] with the list kept aside on the way -/
theorem set_of {st : Stmt} {te : TE} (h : PS X st (tAsg te (gName i))) (l : Like S S') (m : ∀ σ H Q, tD X.K ρ S d S' σ H Q → te σ H Q) : DS X ρ S st (.nx (ρ.set i (.dat d)) S') :=
  ⟨ps_mono h fun D σ H ⟨Hi, a, ok, f⟩ => m σ H _ ⟨Hi, a, ok, fun v H' Hi' s1 ok1 r1 => f _ H' Hi' a (.of l s1) (ok1.put r1)⟩⟩
theorem ds_setLcL {ys : List PyData} (hc : X.calm = true) (hN : X.N.Nodup) (hy : X.N[i]? = some y) (hyl : X.env.scope.names.lookup y = some .local) (hsw : swapsWith (.ListComp elt [⟨.Name x tp, iter, ifs, 0⟩] scope pos) (some (.Name y py)) spos.line X.env = pure true) (hi : DE X ρ S iter (.list ys) (M 0)) (ok : BlkOk X.N X.env.scope scope [(x, j)]) (hg : Blk X scope fun Y => PG Y (.Name x tp) (gName j)) (hj : ρ[j]? = some .no) (hn : ys.length ≤ 50000)
    (hts : Blk X scope fun Y => PTs Y ifs tt) (htt : Tst X.K (fun i => ρ.set j (.dat (ys.getD i .none))) M t ys.length tt) (hM : ∀ i, i < ys.length → Like (M i) (M (i + 1))) (hno : ∀ i, i < ys.length → t i = false → M (i + 1) = M i)
    (he : ∀ i, i < ys.length → t i = true → Blk X scope fun Y => DE Y (ρ.set j (.dat (ys.getD i .none))) (M i) elt (v i) (M (i + 1))) (hs : ∀ x, foldedSetIterable iter X.env x = pure x := by intro _; rfl) :
    DS X ρ S (.Assign [.Name y py] (.ListComp elt [⟨.Name x tp, iter, ifs, 0⟩] scope pos) spos) (.nx (ρ.set i (.dat (.list (outs t v ys.length)))) (M ys.length)) :=
  set_of (ps_setLc hc hN hy hyl hsw (pi_list hi.pe) ok hg hts (el_any he) hs) (hi.like.trans (like_all hM)) (lc_readsL hi.like hn hj htt hM hno (hi.like.trans (like_all hM)))
theorem ds_setLcR1 {e : Expr} {m : Int} {rp rp2 : Pos} (hc : X.calm = true) (hN : X.N.Nodup) (hy : X.N[i]? = some y) (hyl : X.env.scope.names.lookup y = some .local) (hsw : swapsWith (.ListComp elt [⟨.Name x tp, .Call (.Name "range" rp) [e] [] rp2, ifs, 0⟩] scope pos) (some (.Name y py)) spos.line X.env = pure true) (hm : X.mg "range" = none) (ha : DA X ρ S [e] [.int m] (M 0)) (hm2 : 0 ≤ m ∧ m ≤ 50000) (ok : BlkOk X.N X.env.scope scope [(x, j)]) (hg : Blk X scope fun Y => PG Y (.Name x tp) (gName j)) (hj : ρ[j]? = some .no)
    (hts : Blk X scope fun Y => PTs Y ifs tt) (htt : Tst X.K (fun i => ρ.set j (.dat (.int (0 + i)))) M t m.toNat tt) (hM : ∀ i, i < m.toNat → Like (M i) (M (i + 1))) (hno : ∀ i, i < m.toNat → t i = false → M (i + 1) = M i)
    (he : ∀ i : Nat, i < m.toNat → t i = true → Blk X scope fun Y => DE Y (ρ.set j (.dat (.int (0 + i)))) (M i) elt (v i) (M (i + 1))) (hgl : Gl X "range" := by rfl) (hst : starEach [e] X.env = [(false, eval e X.env)] := by rfl) (hs : ∀ x, foldedSetIterable (.Call (.Name "range" rp) [e] [] rp2) X.env x = pure x := by intro _; rfl) :
    DS X ρ S (.Assign [.Name y py] (.ListComp elt [⟨.Name x tp, .Call (.Name "range" rp) [e] [] rp2, ifs, 0⟩] scope pos) spos) (.nx (ρ.set i (.dat (.list (outs t v m.toNat)))) (M m.toNat)) := by
  refine set_of (ps_setLc hc hN hy hyl hsw (pi_range1 hgl hm ha.pa hst) ok hg hts (el_any (R := fun i => ρ.set j (.dat (.int (0 + i)))) he) hs) (ha.like.trans (like_all hM)) fun σ H Q ⟨Hi, a, ok', q⟩ => ⟨Hi, a, ok', fun vs H1 Hi1 s1 ok1 r1 => ?_⟩
  cases r1 with
  | cons r1 r2 =>
    cases r2
    cases r1
    exact ⟨m, rfl, by omega, by omega, fun D hD => lc_readsR (S := S) ha.like (by omega) hj htt hM hno hD ok1 fun v' H' Hi' st ok'' r => q v' H' Hi' (s1.trans ha.like st) ok'' r⟩
end
end G
/-! the source of draws: its entries read and written, its cells popped; a list of one's own made by other ways. -/
namespace G
open PySem PySem.Spec PyProof.Rows L2
theorem upd_id {H : Hp} {a : Addr} {o : HO} (h : H a = some o) : upd H a o = H := by
  funext b
  by_cases e : b = a
  · subst e; rw [upd_same, h]
  · rw [upd_ne e]
section
variable {X : Cx} {ρ : Rho} {S S1 : MS} {s s' : Src} {e : Expr} {n : Int} {key x y : Str} {np kp pos pos' : Pos} {i ic jj : Nat} {K : PySem.W.Frag} {Hi H : Hp} {a : Ad} {σ : L2.St} {sts : List Stmt} {o : Out} {d : PyData}
theorem src_ne (ok : Ok K Hi a σ H ρ S) (hs : S.src = some s) : a.p ≠ a.q := fun z => by
  obtain ⟨_, _, h3, h4⟩ := ok.src s hs
  rw [z, h4] at h3; cases h3
/-- the source, written anew -/
theorem Ok.setSrc (ok : Ok K Hi a σ H ρ S) (hs : S.src = some s) (s' : Src) : Ok K Hi a σ (upd (upd H a.q (.lst (s'.cells.map V.int))) a.p (.dK (srcKv a.q s'))) ρ { S with src := some s' } where
  ex := fun b u eb => by
    obtain ⟨h1, h2, _, _⟩ := ok.src s hs
    have n1 : b ≠ a.p := fun z => by rw [z, h1] at eb; cases eb
    have n2 : b ≠ a.q := fun z => by rw [z, h2] at eb; cases eb
    rw [upd_ne n1, upd_ne n2]; exact ok.ex b u eb
  len := ok.len
  sl := ok.sl
  own := fun ds h => by
    obtain ⟨h1, vs, h2, h3⟩ := ok.own ds h
    obtain ⟨n1, n2⟩ := own_ne ok h (by rw [hs]; rfl)
    exact ⟨h1, vs, by rw [upd_ne n1.symm, upd_ne n2.symm]; exact h2, h3⟩
  src := fun t h => by
    cases h
    obtain ⟨h1, h2, _, _⟩ := ok.src s hs
    exact ⟨h1, h2, upd_same, by rw [upd_ne (src_ne ok hs).symm]; exact upd_same⟩
  apart := fun h _ => ok.apart h (by rw [hs]; rfl)
theorem SStp.setSrc (hs : S.src = some s) {o1 o2 : HO} : SStp S { S with src := some s' } a a H (upd (upd H a.q o1) a.p o2) Hi Hi := by
  refine .of ⟨rfl, by rw [hs]; rfl⟩ ⟨fun b u eb nb => ?_, fun b hb => ?_, Ex.rfl', fun _ _ _ z => z⟩
  · have h1 : S.src.isSome = true := by rw [hs]; rfl
    rw [upd_ne (fun z => nb (.inr ⟨h1, .inl z⟩)), upd_ne (fun z => nb (.inr ⟨h1, .inr z⟩))]; exact eb
  · by_cases n1 : b = a.p
    · subst n1; rw [upd_same]; exact fun z => by cases z
    · rw [upd_ne n1]
      by_cases n2 : b = a.q
      · subst n2; rw [upd_same]; exact fun z => by cases z
      · rw [upd_ne n2]; exact hb
theorem de_srcGet (hu : X.A.units + 1 < cLine) (hi : ρ[i]? = some .src) (hp : PE X (.Name x np) (tVar i)) (hS : S.src = some s) (hv : ∀ q, valV (srcKv q s) (.inr key) = some (.int n)) : DE X ρ S (.Subscript (.Name x np) (.Constant (.str key) jj kp) pos) (.int n) S :=
  ⟨Like.rfl', pe_mono (pe_dget hu hp pe_str (fun _ _ => rfl)) fun σ H Q ⟨Hi, a, ok, q⟩ => by
    obtain ⟨_, _, h3, _⟩ := ok.src s hS
    refine ⟨.ref a.p, ok.sl i _ hi, a.p, .int n, rfl, ?_, q (.int n) H Hi Stp.refl ok (.int n)⟩
    have := DGet.k (k := .inr key) h3
    rw [hv] at this
    exact this⟩
theorem ds_srcSet (hu : X.A.units + 1 < cLine) (hi : ρ[i]? = some .src) (hp : PE X (.Name x np) (tVar i)) (he : DE X ρ S e (.int n) S1) (hS : S1.src = some s) (hk : ∀ q, putK (srcKv q s) (.inr key) (.int n) = srcKv q s') (hc : s'.cells = s.cells)
    (hs : swapsWith e (some (.Subscript (.Name x np) (.Constant (.str key) jj kp) pos')) pos.line X.env = pure false := by rfl) : DS X ρ S (.Assign [.Subscript (.Name x np) (.Constant (.str key) jj kp) pos'] e pos) (.nx ρ { S1 with src := some s' }) :=
  ⟨ps_mono (ps_dput hu hp pe_str he.pe hs) fun D σ H ⟨Hi, a, ok, f⟩ => ⟨Hi, a, ok, fun v H1 Hi1 s1 ok1 r1 => by
    cases r1
    obtain ⟨h1, h2, h3, h4⟩ := ok1.src s hS
    refine ⟨.ref a.p, ok1.sl i _ hi, a.p, _, rfl, DPut.k (k := .inr key) h3 (by show 4 < sizeLine; decide), ?_⟩
    have ok2 := ok1.setSrc hS s'
    have e1 : upd H1 a.q (.lst (s'.cells.map V.int)) = H1 := upd_id (by rw [hc]; exact h4)
    rw [hk]
    rw [e1] at ok2
    have st : SStp S1 { S1 with src := some s' } a a H1 (upd (upd H1 a.q (.lst (s'.cells.map V.int))) a.p (.dK (srcKv a.q s'))) Hi1 Hi1 := SStp.setSrc hS
    rw [e1] at st
    exact f σ _ Hi1 a ((SStp.of he.like s1).trans st) ok2⟩⟩
theorem ds_cells {sp : Pos} (hu : X.A.units + 1 < cLine) (hN : X.N.Nodup) (hy : X.N[ic]? = some y) (hl : Loc X.env.scope y) (hi : ρ[i]? = some .src) (hp : PE X (.Name x np) (tVar i)) (hS : S.src = some s)
    (hs : swapsWith (.Subscript (.Name x np) (.Constant (.str "cells") jj kp) sp) (some (.Name y pos')) pos.line X.env = pure false := by rfl) (hf : X.fn y = true ∨ X.env.scope.names.lookup y = some .local := by first | exact .inl rfl | exact .inr rfl | assumption) :
    DS X ρ S (.Assign [.Name y pos'] (.Subscript (.Name x np) (.Constant (.str "cells") jj kp) sp) pos) (.nx (ρ.set ic .cel) S) :=
  ⟨ps_mono (ps_set hN hy hl (pe_dget hu hp pe_str (fun _ _ => rfl)) hs hf) fun D σ H ⟨Hi, a, ok, f⟩ => by
    obtain ⟨_, _, h3, _⟩ := ok.src s hS
    refine ⟨.ref a.p, ok.sl i _ hi, a.p, .ref a.q, rfl, ?_, ?_⟩
    · have := DGet.k (k := .inr "cells") h3
      rw [show valV (srcKv a.q s) (.inr "cells") = some (.ref a.q) from rfl] at this
      exact this
    · refine f _ H Hi a SStp.refl ⟨ok.ex, by rw [List.length_set, List.length_set]; exact ok.len, fun j z ej => ?_, ok.own, ok.src, ok.apart⟩
      by_cases hj : j = ic
      · subst hj
        by_cases hjl : j < ρ.length
        · rw [List.getElem?_set_self hjl] at ej
          cases ej
          show (σ.set j (some (V.ref a.q)))[j]? = _
          rw [List.getElem?_set_self (by rw [← ok.len]; exact hjl)]
        · rw [List.getElem?_eq_none (by rw [List.length_set]; omega)] at ej
          cases ej
      · rw [List.getElem?_set_ne (Ne.symm hj)] at ej
        have := ok.sl j z ej
        cases z with
        | no => trivial
        | dat d => obtain ⟨w, h1, h2⟩ := this; exact ⟨w, by rw [List.getElem?_set_ne (Ne.symm hj)]; exact h1, h2⟩
        | own => show (σ.set ic (some (V.ref a.q)))[j]? = _; rw [List.getElem?_set_ne (Ne.symm hj)]; exact this
        | src => show (σ.set ic (some (V.ref a.q)))[j]? = _; rw [List.getElem?_set_ne (Ne.symm hj)]; exact this
        | cel => show (σ.set ic (some (V.ref a.q)))[j]? = _; rw [List.getElem?_set_ne (Ne.symm hj)]; exact this
        | scr ns => obtain ⟨w, h1, h2⟩ := this; exact ⟨w, by rw [List.getElem?_set_ne (Ne.symm hj)]; exact h1, h2⟩⟩
theorem de_lenCel (hic : ρ[ic]? = some .cel) (hp : PE X (.Name y np) (tVar ic)) (hS : S.src = some s) (hm : X.mg "len" = none) (hg : Gl X "len" := by rfl) (h1 : starEach [.Name y np] X.env = (false, eval (.Name y np) X.env) :: starEach [] X.env := by rfl)
    (he : starEach [.Name y np] X.env = (false, eval (.Name y np) X.env) :: starEach [] X.env := by rfl) (hpl : (backTo pos (starEach [] X.env)).any (·.1) = false := by rfl) : DE X ρ S (.Call (.Name "len" kp) [.Name y np] [] pos) (.int (s.cells.length : Nat)) S :=
  ⟨Like.rfl', pe_mono (pe_callB call_len_seq hg hm (by decide +kernel) (pa_cons hp pa_nil h1) (by decide) (by decide) he hpl) fun σ H Q ⟨Hi, a, ok, q⟩ => by
    obtain ⟨_, _, _, h4⟩ := ok.src s hS
    refine ⟨.ref a.q, ok.sl ic _ hic, a.q, _, rfl, .inl (.inl (.inl h4)), ?_⟩
    rw [List.length_map]
    exact q _ H Hi Stp.refl ok (.int _)⟩
theorem ds_popLeft {c : List Int} {z : Int} {apos cpos cp : Pos} (hu : X.A.units + 1 < cLine) (hi : ρ[i]? = some .src) (hp : PE X (.Name x np) (tVar i)) (hic : ρ[ic]? = some .cel) (hpc : PE X (.Name y cp) (tVar ic)) (hS : S.src = some s) (hc : s.cells = c ++ [z])
    (pb : ∀ {to : TE}, PE X (.Name y cp) to → PE X (.Call (.Attribute (.Name y cp) "pop" apos) [] [] cpos) (tBM0 X.K "list" rPop to) := by intro to h1; exact pe_bm0 PySem.F.plainAttrs_list PySem.F.slot_list_pop PySem.F.type_list_pop mt_pop h1)
    (hs : swapsWith (.Call (.Attribute (.Name y cp) "pop" apos) [] [] cpos) (some (.Subscript (.Name x np) (.Constant (.str "left") jj kp) pos')) pos.line X.env = pure false := by rfl) :
    DS X ρ S (.Assign [.Subscript (.Name x np) (.Constant (.str "left") jj kp) pos'] (.Call (.Attribute (.Name y cp) "pop" apos) [] [] cpos) pos) (.nx ρ { S with src := some { s with cells := c, left := z } }) :=
  ⟨ps_mono (ps_dput hu hp pe_str (pb hpc) hs) fun D σ H ⟨Hi, a, ok, f⟩ => by
    obtain ⟨h1, h2, h3, h4⟩ := ok.src s hS
    have hne := src_ne ok hS
    have e1 : s.cells.map V.int = c.map V.int ++ [.int z] := by rw [hc, List.map_append]; rfl
    refine ⟨.ref a.q, ok.sl ic _ hic, .inl ⟨rfl, _, .inl (.inl h4)⟩, a.q, s.cells.map V.int, .int z, rfl, rfl, h4, ?_, ?_⟩
    · rw [e1, List.length_append]
      show (c.map V.int ++ [V.int z])[(c.map V.int).length + 1 - 1]? = _
      rw [Nat.add_sub_cancel, List.getElem?_append_right (Nat.le_refl _), Nat.sub_self]; rfl
    · rw [e1, List.dropLast_concat]
      have h3' : (upd H a.q (.lst (c.map V.int))) a.p = some (.dK (srcKv a.q s)) := by rw [upd_ne hne]; exact h3
      refine ⟨.ref a.p, ok.sl i _ hi, a.p, _, rfl, DPut.k (k := .inr "left") h3' (by show 4 < sizeLine; decide), ?_⟩
      have e2 : putK (srcKv a.q s) (.inr "left") (.int z) = srcKv a.q { s with cells := c, left := z } := rfl
      rw [e2]
      exact f σ _ Hi a (SStp.setSrc hS) (ok.setSrc hS { s with cells := c, left := z })⟩
/-! the source, made -/
theorem ds_retSrc {v1 v3 : Expr} {k0 k1 k2 k3 : Nat} {q0 q1 q2 q3 p1 p2 p3 p4 dpos : Pos} {kk : Nat} {cs : List Int} {l0 t0 : Int} (hv : DE X ρ {} e (.list (cs.map .int)) {}) (h1 : DE X ρ {} v1 (.int l0) {}) (h2 : DE X ρ {} (.Name x np) (.int n) {}) (h3 : DE X ρ {} v3 (.int t0) {}) :
    DS X ρ {} (.Return (some (.Dict [some (.Constant (.str "cells") k0 q0), some (.Constant (.str "left") k1 q1), some (.Constant (.str "mixed") k2 q2), some (.Constant (.str "turn") k3 q3)]
      [.Subscript e (.Slice none none (some (.UnaryOp .USub (.Constant (.int 1) kk p1) p2)) p3) p4, v1, .Name x np, v3] dpos)) pos) (.sr ⟨cs.reverse, l0, n, t0⟩) :=
  ⟨ps_mono (ps_ret (pe_disp (pps_cons pe_str (pe_revL hv.pe) (pps_cons pe_str h1.pe (pps_cons pe_str h2.pe (pps_cons pe_str h3.pe pps_nil)))) (by rfl) (by rfl) (fun z => by cases z) (by show 4 ≤ 15; decide))) fun D σ H ⟨Hi, a, ok, f⟩ p hp => by
    have ps0 : PSt H (upd H p (.dK [])) Hi Hi := PSt.lay0 ok.ex hp
    refine ⟨Hi, a, ok.pure ps0, fun v H1 Hi1 s1 ok1 r1 => ?_⟩
    cases r1 with
    | lst hl hr =>
      rename_i l vs
      have evs := hr.ints
      subst evs
      refine ⟨l, _, rfl, .inl (.inl (ok1.ex _ _ hl)), fun q hq => ?_⟩
      have hpH1 : H1 p = some (.dK []) := s1.keep p _ upd_same (by rintro (⟨z, _⟩ | ⟨z, _⟩) <;> cases z)
      have hpi : Hi1 p = none := by
        cases g : Hi1 p with
        | none => rfl
        | some u =>
          have := s1.new p (by rw [upd_same]; exact fun z => by cases z) (by rintro (⟨z, _⟩ | ⟨z, _⟩) <;> cases z) (by rw [g]; exact fun z => by cases z)
          have h0 : Hi p = none := by
            cases g2 : Hi p with
            | none => rfl
            | some u2 => rw [ok.ex p u2 g2] at hp; cases hp
          exact absurd h0 this
      have hpq : p ≠ q := fun z => by rw [← z, hpH1] at hq; cases hq
      have ps1 : PSt H1 (upd H1 q (.lst (cs.map V.int).reverse)) Hi1 Hi1 := PSt.lay0 ok1.ex hq
      refine ⟨Hi1, a, ok1.pure ps1, fun v2 H2 Hi2 s2 ok2 r2 => ?_⟩
      cases r2
      refine ⟨Hi2, a, ok2, fun v3 H3 Hi3 s3 ok3 r3 => ?_⟩
      cases r3
      refine ⟨Hi3, a, ok3, fun v4 H4 Hi4 s4 ok4 r4 => ?_⟩
      cases r4
      have nm : ∀ b, ¬ mutd ({} : MS) a b := by rintro b (⟨z, _⟩ | ⟨z, _⟩) <;> cases z
      have hpa : (upd H1 q (.lst (cs.map V.int).reverse)) p = some (.dK []) := by rw [upd_ne hpq]; exact hpH1
      have hqa : (upd H1 q (.lst (cs.map V.int).reverse)) q = some (.lst (cs.map V.int).reverse) := upd_same
      have p4 : H4 p = some (.dK []) := s4.keep p _ (s3.keep p _ (s2.keep p _ hpa (nm _)) (nm _)) (nm _)
      have q4 : H4 q = some (.lst (cs.map V.int).reverse) := s4.keep q _ (s3.keep q _ (s2.keep q _ hqa (nm _)) (nm _)) (nm _)
      have ihi : ∀ b, (upd H1 q (.lst (cs.map V.int).reverse)) b ≠ none → Hi1 b = none → Hi4 b = none := fun b hb h0 => by
        cases g : Hi4 b with
        | none => rfl
        | some u =>
          have n3 := s4.new b (s3.there b (s2.there b hb)) (nm _) (by rw [g]; exact fun z => by cases z)
          have n2 := s3.new b (s2.there b hb) (nm _) n3
          exact absurd h0 (s2.new b hb (nm _) n2)
      have hqi : Hi1 q = none := by
        cases g : Hi1 q with
        | none => rfl
        | some u => rw [ok1.ex q u g] at hq; cases hq
      have p4i := ihi p (by rw [hpa]; exact fun z => by cases z) hpi
      have q4i := ihi q (by rw [hqa]; exact fun z => by cases z) hqi
      refine ⟨p4, [(.inr "cells", .ref q), (.inr "left", .int l0), (.inr "mixed", .int n), (.inr "turn", .int t0)], rfl, by show 4 ≤ 15; decide, ?_⟩
      have em : mergeK [] [(Sum.inr (Str.ofString "cells"), V.ref q), (.inr "left", .int l0), (.inr "mixed", .int n), (.inr "turn", .int t0)] = srcKv q ⟨cs.reverse, l0, n, t0⟩ := rfl
      refine f σ (ρ.map fun _ => .no) _ Hi4 ⟨a.o, p, q⟩ ?_ ?_
      · have t1 : SStp {} {} a a H H1 Hi Hi1 := (SStp.of Like.rfl' ps0.stp).trans (.of Like.rfl' s1)
        have t2 : SStp {} {} a a H H4 Hi Hi4 := t1.trans ((SStp.of Like.rfl' ps1.stp).trans ((SStp.of Like.rfl' s2).trans ((SStp.of Like.rfl' s3).trans (.of Like.rfl' s4))))
        have hq0 : H q = none := by
          cases g : H q with
          | none => rfl
          | some u => exact absurd hq (t1.there q (by rw [g]; exact fun z => by cases z))
        refine ⟨fun b u eb _ => ?_, fun b hb => ?_, t2.exi, fun b h1 _ h2 => t2.new b h1 (nm _) h2, fun z => (by cases z), fun z => (by cases z), fun _ => .inr ⟨hp, hq0⟩⟩
        · rw [upd_ne (fun z => by rw [z, hp] at eb; cases eb)]; exact t2.keep b u eb (nm _)
        · by_cases hbp : b = p
          · subst hbp; rw [upd_same]; exact fun z => by cases z
          · rw [upd_ne hbp]; exact t2.there b hb
      · refine ⟨fun b u eb => ?_, by rw [List.length_map]; exact ok4.len, fun j z ej => ?_, fun _ z => (by cases z), fun t z => ?_, fun z => (by cases z)⟩
        · rw [upd_ne (fun z => by rw [z, p4i] at eb; cases eb)]; exact ok4.ex b u eb
        · rw [List.getElem?_map] at ej
          cases hg : ρ[j]? with
          | none => rw [hg] at ej; cases ej
          | some w => rw [hg] at ej; cases ej; trivial
        · cases z
          refine ⟨p4i, q4i, ?_, ?_⟩
          · rw [upd_same]; rfl
          · rw [upd_ne hpq.symm, q4, List.map_reverse]⟩
end
end G
namespace G
open PySem PySem.Spec PyProof.Rows L2
section
variable {X : Cx} {ρ : Rho} {S S1 : MS} {s s' : Src} {a b c : Expr} {x y z : Str} {pos pos' : Pos} {i j l : Nat} {sts : List Stmt} {o : Out} {ds es : List PyData} {da db : PyData}
theorem de_emp : DE X ρ S (.Dict [] [] pos) (.dict []) S :=
  ⟨Like.rfl', pe_mono pe_dnewK fun σ H Q ⟨Hi, a, ok, k⟩ p hp => by
    have ps : PSt H (upd H p (.dK [])) Hi (upd Hi p (.dK [])) := PSt.lay ok.ex hp
    exact k (.ref p) _ _ ps.stp (ok.pure ps) (.emp upd_same)⟩
theorem mkOwn {K : PySem.W.Frag} {Hi H : Hp} {a : Ad} {σ : L2.St} {p : Addr} {vs : List V} (ok : Ok K Hi a σ H ρ S) (ho : S.own = none) (hno : ρ.all notOwn = true) (hp : H p = none) (r : RpAll K Hi vs ds) (i : Nat) :
    Ok K Hi ⟨p, a.p, a.q⟩ (σ.set i (some (.ref p))) (upd H p (.lst vs)) (ρ.set i .own) { S with own := some ds } ∧ SStp S { S with own := some ds } a ⟨p, a.p, a.q⟩ H (upd H p (.lst vs)) Hi Hi := by
  have pHi : Hi p = none := by
    cases q : Hi p with
    | none => rfl
    | some u => rw [ok.ex p u q] at hp; cases hp
  have hq : ∀ t, S.src = some t → a.p ≠ p ∧ a.q ≠ p := fun t e => by
    obtain ⟨h1, h2, h3, h4⟩ := ok.src t e
    exact ⟨fun z => (by rw [z, hp] at h3; cases h3), fun z => (by rw [z, hp] at h4; cases h4)⟩
  refine ⟨⟨ok.ex.trans (Ex.new hp), by rw [List.length_set, List.length_set]; exact ok.len, fun j w e => ?_, fun ds' h => ?_, fun t h => ?_, fun _ h => ?_⟩, ?_⟩
  · by_cases hj : j = i
    · subst hj
      by_cases hjl : j < ρ.length
      · rw [List.getElem?_set_self hjl] at e
        cases e
        show (σ.set j (some (V.ref p)))[j]? = _
        rw [List.getElem?_set_self (by rw [← ok.len]; exact hjl)]
      · rw [List.getElem?_eq_none (by rw [List.length_set]; omega)] at e
        cases e
    · rw [List.getElem?_set_ne (Ne.symm hj)] at e
      have := ok.sl j w e
      cases w with
      | no => trivial
      | dat d => obtain ⟨w, h1, h2⟩ := this; exact ⟨w, by rw [List.getElem?_set_ne (Ne.symm hj)]; exact h1, h2⟩
      | own => exact absurd (List.all_eq_true.mp hno _ (List.mem_of_getElem? e)) (by simp [notOwn])
      | src => show (σ.set i (some (V.ref p)))[j]? = _; rw [List.getElem?_set_ne (Ne.symm hj)]; exact this
      | cel => show (σ.set i (some (V.ref p)))[j]? = _; rw [List.getElem?_set_ne (Ne.symm hj)]; exact this
      | scr ns => obtain ⟨w, h1, h2⟩ := this; exact ⟨w, by rw [List.getElem?_set_ne (Ne.symm hj)]; exact h1, h2⟩
  · cases h
    exact ⟨pHi, vs, upd_same, r⟩
  · obtain ⟨h1, h2, h3, h4⟩ := ok.src t h
    obtain ⟨n1, n2⟩ := hq t h
    exact ⟨h1, h2, by rw [upd_ne n1]; exact h3, by rw [upd_ne n2]; exact h4⟩
  · obtain ⟨t, ht⟩ := Option.isSome_iff_exists.mp h
    exact fun z => (hq t ht).2 z.symm
  · refine ⟨fun b u e _ => Ex.new hp b u e, fun b h => ex_there (Ex.new hp) b h, Ex.rfl', fun _ _ _ z => z, fun _ => .inr hp, fun h => ⟨h, rfl, rfl⟩, fun h => .inl h⟩
/-- x = a + b, the new list one's own -/
theorem dss_ownCat {bp : Pos} (hN : X.N.Nodup) (hi : X.N[i]? = some x) (hx : Loc X.env.scope x) (ha : DE X ρ S a (.list ds) S) (hb : DE X ρ S b (.list es) S) (hz : ds.length + es.length ≤ 100000) (ho : S.own = none) (hno : ρ.all notOwn = true)
    (k : DSs X (ρ.set i .own) { S with own := some (ds ++ es) } sts o) (hs : swapsWith (.BinOp a .Add b bp) (some (.Name x pos')) pos.line X.env = pure false := by rfl)
    (hf : X.fn x = true ∨ X.env.scope.names.lookup x = some .local := by first | exact .inl rfl | exact .inr rfl | assumption) : DSs X ρ S (.Assign [.Name x pos'] (.BinOp a .Add b bp) pos :: sts) o := by
  refine ⟨pss_mono (pss_cons (ps_set hN hi hx (pe_op op_cat ha.pe hb.pe) hs hf) k.ps) fun D σ H ⟨Hi, a, ok, f⟩ => ?_⟩
  refine ⟨Hi, a, ok, fun v1 H1 Hi1 s1 ok1 r1 => ⟨Hi1, a, ok1, fun v2 H2 Hi2 s2 ok2 r2 => ?_⟩⟩
  cases r1 with
  | lst h1 q1 =>
    cases r2 with
    | lst h2 q2 =>
      have q1' := q1.mono s2.exi
      refine ⟨_, _, _, _, rfl, rfl, ok2.ex _ _ (s2.exi _ _ h1), ok2.ex _ _ h2, Evl.sz_of (by rw [q1.len, q2.len]; exact hz), fun p hp => ?_⟩
      obtain ⟨m1, m2⟩ := mkOwn ok2 ho hno hp (q1'.app q2) i
      exact ⟨Hi2, _, m1, f.step (((SStp.of Like.rfl' s1).trans (.of Like.rfl' s2)).trans m2)⟩
/-- x, y, z = a, b, [] -/
theorem dss_par3own {px py pz pt p3 : Pos} {kt k2 pt2} {S2 : MS} (hc : X.calm = true) (hN : X.N.Nodup) (hi : X.N[i]? = some x) (hj : X.N[j]? = some y) (hl : X.N[l]? = some z) (hij : i ≠ j) (hil : i ≠ l) (hjl : j ≠ l)
    (hx : X.env.scope.names.lookup x = some .local) (hy : X.env.scope.names.lookup y = some .local) (hz : X.env.scope.names.lookup z = some .local) (ho : S1.own = none) (hno : ((ρ.set i (.dat da)).set j (.dat db)).all notOwn = true)
    (e1 : DE X ρ S a da S2) (e2 : DE X ρ S2 b db S1)
    (hw : swappedStores [.Tuple [.Name x px, .Name y py, .Name z pz] kt pt] (.Tuple [a, b, .List [] p3] k2 pt2) X.env = pure (some [x, y, z]))
    (k : DSs X (((ρ.set i (.dat da)).set j (.dat db)).set l .own) { S1 with own := some [] } sts o)
    (h1 : starEach [a, b, .List [] p3] X.env = (false, eval a X.env) :: starEach [b, .List [] p3] X.env := by rfl) (h2 : starEach [b, .List [] p3] X.env = (false, eval b X.env) :: starEach [.List [] p3] X.env := by rfl) (h3 : starEach [.List [] p3] X.env = (false, eval (.List [] p3) X.env) :: starEach [] X.env := by rfl)
    (hs : swapsWithSole [.Tuple [.Name x px, .Name y py, .Name z pz] kt pt] (.Tuple [a, b, .List [] p3] k2 pt2) pos.line X.env = pure false := by rfl) :
    DSs X ρ S (.Assign [.Tuple [.Name x px, .Name y py, .Name z pz] kt pt] (.Tuple [a, b, .List [] p3] k2 pt2) pos :: sts) o := by
  refine ⟨pss_mono (pss_cons (ps_par3 hc hN hi hj hl hij hil hjl hx hy hz (pa_cons e1.pe (pa_cons e2.pe (pa_cons (pe_lst pa_nil) pa_nil h3) h2) h1) hw hs) k.ps) fun D σ H ⟨Hi, a, ok, f⟩ => ?_⟩
  refine ⟨Hi, a, ok, fun v1 H1 Hi1 s1 ok1 r1 => ⟨Hi1, a, ok1, fun v2 H2 Hi2 s2 ok2 r2 => ⟨by decide, fun p hp => ?_⟩⟩⟩
  have ok3 := (ok2.put (i := i) (r1.mono s2.exi)).put (i := j) r2
  obtain ⟨m1, m2⟩ := mkOwn (ds := []) ok3 ho hno hp .nil l
  exact ⟨_, _, _, rfl, Hi2, _, m1, f.step (((SStp.of e1.like s1).trans (.of e2.like s2)).trans m2)⟩
end
end G
namespace G
open PySem PySem.Spec PyProof.Rows L2
section
variable {X : Cx} {ρ : Rho} {S : MS} {pos : Pos} {iter tg : Expr}
theorem scr_get {ns : List Int} {i : Nat} {x : V} (h : (ns.map V.int)[i]? = some x) : i < ns.length ∧ (ns.map PyData.int)[i]? = some (.int (ns.getD i 0)) ∧ x = .int (ns.getD i 0) := by
  have hl : i < ns.length := by
    rcases Nat.lt_or_ge i ns.length with z | z
    · exact z
    · rw [List.getElem?_eq_none (by simpa using z)] at h; cases h
  rw [List.getElem?_map, List.getElem?_eq_getElem hl] at h
  refine ⟨hl, ?_, ?_⟩
  · rw [List.getElem?_map, List.getElem?_eq_getElem hl, List.getD_eq_getElem?_getD, List.getElem?_eq_getElem hl]; rfl
  · rw [List.getD_eq_getElem?_getD, List.getElem?_eq_getElem hl]
    cases h; rfl
/-- a loop over the script -/
theorem ds_forScr {ns : List Int} {i : Nat} {body : List Stmt} (hc : X.calm = true) (hp : PassesOwn (model X.prog X.w) X.A X.env X.xe) (hn : PE X iter (tVar i)) (hi : ρ[i]? = some (.scr ns)) (R T : Nat → Rho) (M : Nat → MS) (h0 : R 0 = ρ) (hM : M 0 = S)
    (hg : ∀ k x, (ns.map PyData.int)[k]? = some x → DG X tg (R k) x (T k)) (hb : ∀ k, k < ns.length → DSs X (T k) (M k) body (.nx (R (k + 1)) (M (k + 1)))) (hs : ∀ x, foldedSetIterable iter X.env x = pure x := by intro _; rfl) : DS X ρ S (.For tg iter body [] pos) (.nx (R ns.length) (M ns.length)) := by
  have ll : (ns.map PyData.int).length = ns.length := List.length_map ..
  have hb' : ∀ k, k < (ns.map PyData.int).length → k ≤ ns.length → DSs X (T k) (M k) body (oAt R M ns.length (.nx (R ns.length) (M ns.length)) k) := fun k hk _ => by rw [oAt_lt (by omega)]; exact hb k (by omega)
  have hf : (ns.length = (ns.map PyData.int).length ∧ (Out.nx (R ns.length) (M ns.length)) = .nx (R (ns.map PyData.int).length) (M (ns.map PyData.int).length)) ∨ (ns.length < (ns.map PyData.int).length ∧ ∃ d S', (Out.nx (R ns.length) (M ns.length)) = .rt d S') := .inl ⟨ll.symm, by rw [ll]⟩
  refine ⟨ps_mono (ps_for hp hc (pi_list hn) (pg_any (ι := LoopI (ns.map PyData.int).length ns.length) (t := fun j => tG X.K (R j.i) ((ns.map PyData.int).getD j.i .none) (T j.i)) fun j => hg j.i _ (get_lt j.lt))
    (pss_any (ι := LoopI (ns.map PyData.int).length ns.length) (t := fun j => tS X.K (T j.i) (M j.i) (oAt R M ns.length (.nx (R ns.length) (M ns.length)) j.i)) fun j => (hb' j.i j.lt j.le).ps) hs) fun D σ H ⟨Hi, a, ok, f⟩ => ?_⟩
  obtain ⟨l, h1, h2⟩ := ok.sl i _ hi
  have len : (ns.map V.int).length = (ns.map PyData.int).length := by rw [ll, List.length_map]
  refine ⟨.ref l, h1, l, rfl, ⟨ns.map V.int, ok.ex.sql h2⟩, ?_⟩
  refine for_list (K := X.K) (a := l) (xs := ns.map V.int) (fun k σ' H' => k ≤ ns.length ∧ LPv X.K R M S a H Hi k σ' H') (loop_start h0 hM ok) (fun k σ' H' _ ⟨_, p⟩ => ?_) (fun k x σ' H' hx ⟨hst, p⟩ => ?_) (fun σ' H' p => ?_)
  · obtain ⟨Hi', a', ok', st'⟩ := p.ex
    exact ok'.ex.sql (st'.exi.sql h2)
  · obtain ⟨hk, hx1, hx2⟩ := scr_get hx
    exact turn_ok (K := X.K) (n := (ns.map PyData.int).length) (T := T) (xs := fun k => (ns.map PyData.int).getD k .none) hf f (by omega) hst p (v := x) fun Hi' e' => by
      show Rp X.K Hi' x ((ns.map PyData.int).getD k .none)
      rw [getD_of hx1, hx2]; exact .int _
  · exact loop_end hf f (by rw [← len]; exact p)
/-- a list made over the script -/
theorem lc_readsScr {K : PySem.W.Frag} {ns : List Int} {σ : L2.St} {H : Hp} {Q : VK} {i j : Nat} {tt : TT} {M : Nat → MS} {t : Nat → Bool} {v : Nat → PyData} (lk0 : Like S (M 0)) (hS : M 0 = S) (hn : ns.length ≤ 50000) (hi : ρ[i]? = some (.scr ns)) (hj : ρ[j]? = some .no) (htt : Tst K (fun k => ρ.set j (.dat ((ns.map PyData.int).getD k .none))) M t (ns.map PyData.int).length tt)
    (hM : ∀ k, k < (ns.map PyData.int).length → Like (M k) (M (k + 1))) (hno : ∀ k, k < (ns.map PyData.int).length → t k = false → M (k + 1) = M k)
    (h : tD K ρ S (.list (outs t v (ns.map PyData.int).length)) (M (ns.map PyData.int).length) σ H Q) : tLc (iList K (tVar i)) (gName j) tt (teOf K (fun k => ρ.set j (.dat ((ns.map PyData.int).getD k .none))) M t v (ns.map PyData.int).length) [j] σ H Q := by
  have ll : (ns.map PyData.int).length = ns.length := List.length_map ..
  obtain ⟨Hi, a, ok, q⟩ := h
  obtain ⟨l, h1, h2⟩ := ok.sl i _ hi
  have ok1 : Ok K Hi a σ H ρ (M 0) := by rw [hS]; exact ok
  have len : (ns.map V.int).length = (ns.map PyData.int).length := by rw [ll, List.length_map]
  refine ⟨.ref l, h1, l, rfl, ⟨ns.map V.int, ok.ex.sql h2⟩, fun D hD => ?_⟩
  refine lc_list (K := K) (a := l) (xs := ns.map V.int) (LcP K ρ σ a D (M 0) H Hi M t v) (lc_begin hD ok1) (fun k H' _ p => ?_) (fun k x H' hx p => ?_) (fun H' p => ?_)
  · obtain ⟨_, Hi', ok', st, _⟩ := p
    exact ok'.ex.sql (st.exi.sql h2)
  · obtain ⟨hk, hx1, hx2⟩ := scr_get hx
    exact lc_turn (by omega) hD (fun b => mut_there ok1) hj htt hM hno (by omega) (fun Hi' e => by
      show Rp K Hi' x ((ns.map PyData.int).getD k .none)
      rw [getD_of hx1, hx2]; exact .int _) p
  · rw [len] at p
    exact lc_end hD (fun b => mut_there ok1) (fun v' H'' Hi'' st ok'' r => q v' H'' Hi'' (hS ▸ st) ok'' r) p
theorem ds_setLcScr {ns : List Int} {ip i j : Nat} {x y : Str} {tp py spos : Pos} {elt : Expr} {ifs : List Expr} {scope : Scope} {tt : TT} {t : Nat → Bool} {v : Nat → PyData} (hc : X.calm = true) (hN : X.N.Nodup) (hy : X.N[i]? = some y) (hyl : X.env.scope.names.lookup y = some .local) (hsw : swapsWith (.ListComp elt [⟨.Name x tp, iter, ifs, 0⟩] scope pos) (some (.Name y py)) spos.line X.env = pure true) (hpn : PE X iter (tVar ip)) (hip : ρ[ip]? = some (.scr ns)) (ok : BlkOk X.N X.env.scope scope [(x, j)]) (hg : Blk X scope fun Y => PG Y (.Name x tp) (gName j)) (hj : ρ[j]? = some .no) (hn : ns.length ≤ 50000)
    (hts : Blk X scope fun Y => PTs Y ifs tt) (htt : Tst X.K (fun k => ρ.set j (.dat ((ns.map PyData.int).getD k .none))) (fun _ => S) t (ns.map PyData.int).length tt)
    (he : ∀ k, k < (ns.map PyData.int).length → t k = true → Blk X scope fun Y => DE Y (ρ.set j (.dat ((ns.map PyData.int).getD k .none))) S elt (v k) S) (hs : ∀ x, foldedSetIterable iter X.env x = pure x := by intro _; rfl) :
    DS X ρ S (.Assign [.Name y py] (.ListComp elt [⟨.Name x tp, iter, ifs, 0⟩] scope pos) spos) (.nx (ρ.set i (.dat (.list (outs t v (ns.map PyData.int).length)))) S) :=
  set_of (ps_setLc hc hN hy hyl hsw (pi_list hpn) ok hg hts (el_any (M := fun _ => S) he) hs) Like.rfl' fun σ H Q h => lc_readsScr (M := fun _ => S) Like.rfl' rfl hn hip hj htt (fun _ _ => Like.rfl') (fun _ _ _ => rfl) h
end
end G
namespace G
open PySem PySem.Spec PyProof.Rows L2
section
variable {X : Cx} {pins : List (Addr × Obj)} {σ : L2.St} {H : Hp} {s : Shared}
mutual
/-- what is told stands so in the heap -/
theorem rp_reads (I : Inv X pins σ H s) (hm : H sysModules = none) : ∀ (d : PyData) (v : V) (u : Value), Rp X.K H v d → RelV v u → ∃ as, Reads s.heap u d as ∧ sysModules ∉ as
  | .none, _, _, h, r => by
    cases h; cases r; exact ⟨_, Reads.none, List.not_mem_nil⟩
  | .bool b, _, _, h, r => by
    cases h; cases r; exact ⟨_, Reads.bool b, List.not_mem_nil⟩
  | .int i, _, _, h, r => by
    cases h; obtain ⟨t, rfl⟩ := r; exact ⟨_, Reads.int i t, List.not_mem_nil⟩
  | .str x, _, _, h, r => by
    cases h; obtain ⟨t, rfl⟩ := r; exact ⟨_, Reads.str x t, List.not_mem_nil⟩
  | .list ds, _, _, h, r => by
    cases h with
    | lst hs ha =>
      cases r
      obtain ⟨its, rv, ⟨o, n', ho, hc, _, hd⟩, _⟩ := I.list (.inl (.inl hs))
      obtain ⟨as, hr, hx⟩ := rp_readsAll I hm ds _ its ha rv
      exact ⟨_, Reads.list ho hc hd hr, fun z => (List.mem_cons.mp z).elim (fun e => by rw [← e, hm] at hs; cases hs) hx⟩
  | .tuple ds, _, _, h, r => by
    cases h with
    | tup hs ha =>
      cases r
      obtain ⟨its, rv, ⟨o, ho, hc, n', hd⟩, _⟩ := I.tuple hs
      obtain ⟨as, hr, hx⟩ := rp_readsAll I hm ds _ its ha rv
      exact ⟨_, Reads.tuple ho hc hd hr, hx⟩
  | .dict kvs, _, _, h, r => by
    cases h with
    | emp hs =>
      cases r
      obtain ⟨_, hS, vs, rk, o, es, ep, ho, hx, hd, _, pr, _⟩ := dk_of I.hok hs
      cases rk
      have e0 : es.toList = [] := by cases q : es.toList with
        | nil => rfl
        | cons a b => rw [q] at pr; cases pr
      refine ⟨_, Reads.dict (as := []) (bs := []) ho hx.1 hd (by rw [e0]; exact ReadsAll.nil) (by rw [e0]; exact ReadsAll.nil), fun z => ?_⟩
      rcases List.mem_cons.mp z with e | e
      · rw [← e, hm] at hs; cases hs
      · cases e
theorem rp_readsAll (I : Inv X pins σ H s) (hm : H sysModules = none) : ∀ (ds : List PyData) (vs : List V) (us : List Value), RpAll X.K H vs ds → Vals vs us → ∃ as, ReadsAll s.heap us ds as ∧ sysModules ∉ as
  | [], _, _, h, r => by
    cases h; cases r; exact ⟨_, ReadsAll.nil, List.not_mem_nil⟩
  | d :: ds, _, _, h, r => by
    cases h with
    | cons h1 h2 =>
      cases r with
      | cons r1 r2 =>
        obtain ⟨as, q1, x1⟩ := rp_reads I hm d _ _ h1 r1
        obtain ⟨bs, q2, x2⟩ := rp_readsAll I hm ds _ _ h2 r2
        exact ⟨_, ReadsAll.cons q1 q2, fun z => (List.mem_append.mp z).elim x1 x2⟩
end
/-- no object of one's own stands where the loaded modules stand -/
theorem sys_free (I : Inv X pins σ H s) (hK : ∃ o, X.K.lookup sysModules = some o) : H sysModules = none := by
  obtain ⟨o, e⟩ := hK
  exact (I.bs _ _ (I.ok.mod.kin _ _ e)).2
/-- repr of what is told -/
def rRepr (K : PySem.W.Frag) : List V → Hp → VK → Prop := fun xs H Q => ∃ v d, xs = [v] ∧ Rp K H v d ∧ d.showable = true ∧ d.shown.length ≤ sizeLine ∧ d.depth ≤ 9000 ∧ Q (.str d.shown) H
theorem call_reprR (hg : X.A.guards = some []) (hu : X.A.units + 9001 < cLine) (hK : ∃ o, X.K.lookup sysModules = some o) : CallR X (.builtin "repr") (rRepr X.K) := by
  intro pins s σ H xs us Q I r h
  obtain ⟨v, d, rfl, hv, hs, hz, hd, q⟩ := h
  have hm := sys_free I hK
  obtain ⟨u, rfl, ru⟩ := vals1 r
  obtain ⟨as, rd, nx⟩ := rp_reads I hm d v u hv ru
  cases rd with
  | none => exact PySem.P.repr_of_none ⟨.str _, H, I.tok _, ⟨_, rfl⟩, q⟩
  | bool b => exact PySem.P.repr_of_bool ⟨.str _, H, I.tok _, ⟨_, rfl⟩, q⟩
  | int i t => exact PySem.P.repr_of_int (by simpa only [PyData.showable, decide_eq_true_eq] using hs) ⟨.str _, H, I.tok _, ⟨_, rfl⟩, q⟩
  | str x t => exact PySem.P.repr_of_str ⟨.str _, H, I.tok _, ⟨_, rfl⟩, q⟩ hz
  | list ho hc hd' hr => exact repr_of_reads' (Reads.list ho hc hd' hr) hs (fun _ => nx) hg (by omega) (fun _ _ e => e) (fun h' u tk hk => ⟨.str _, H, I.kept hk, ⟨_, rfl⟩, q⟩) hz
  | tuple ho hc hd' hr => exact repr_of_reads' (Reads.tuple ho hc hd' hr) hs (fun _ => nx) hg (by omega) (fun _ _ e => e) (fun h' u tk hk => ⟨.str _, H, I.kept hk, ⟨_, rfl⟩, q⟩) hz
  | dict ho hc hd' h1 h2 => exact repr_of_reads' (Reads.dict ho hc hd' h1 h2) hs (fun _ => nx) hg (by omega) (fun _ _ e => e) (fun h' u tk hk => ⟨.str _, H, I.kept hk, ⟨_, rfl⟩, q⟩) hz
theorem rc_repr {K : PySem.W.Frag} {d : PyData} (hs : d.showable = true) (hz : d.shown.length ≤ sizeLine) (hd : d.depth ≤ 9000) : RcD K (rRepr K) [d] (.str d.shown) := fun Hi xs H Q e r q => by
  cases r with
  | cons r1 r2 =>
    cases r2
    exact ⟨_, d, rfl, r1.mono e, hs, hz, hd, q _ H Hi (PSt.refl e) (.str _)⟩
end
end G
namespace Bm
open PySem PySem.Spec PyProof.Rows L2 G
inductive R_is_number : List PyData → PyData → Prop
  | mk (d : PyData) : R_is_number [d] (.bool (isNum d))
inductive R_is_row : List PyData → PyData → Prop
  | mk (d : PyData) (n : Nat) (hl : ∀ ds, d = .tuple ds → ds.length ≤ 50000) : R_is_row [d, .int n] (.bool (isRow d n))
inductive R_fraction : List PyData → PyData → Prop
  | mk (n d : Int) (hd : d ≠ 0) (hb : B 9000 d) : R_fraction [.int n, .int d] (eF (Rat.divInt n d))
section
variable {P : Program} {w : World} {K : PySem.W.Frag} {mg : Str → Option Value} {base : Heap}
theorem sc_is_number : FnScope ["value"] ["value"] (defScope (top 5)) := ⟨rfl, rfl, rfl, by decide +kernel, rfl, by decide +kernel, by decide +kernel⟩
theorem ok_is_number (Bl : Bl mg) (h : Has K mg "is_number" (top 5)) : Good P w K mg base 1 "is_number" ["value"] (spF K R_is_number) := by
  obtain ⟨f, fd, F, hm⟩ := h.ex
  refine good_F (k := 0) F hm sc_is_number (F.bindsN fun _ _ _ _ _ _ us hl => match us, hl with | [_], _ => rfl) (fun ds d h => by cases h; rfl) fun cdv A outer s H E ds d hr h => ?_
  cases h with
  | mk d =>
    refine ⟨{}, ?_⟩
    rw [← isNum_eq]
    exact (dss_one (ds_ret (de_and (de_isi (de_var 0 (pv 0) rfl) (kit_int _) Bl.isinstance Bl.int (by decide +kernel)) fun hx => (de_one (de_not (de_isi (de_var 0 (pv 0) rfl) (kit_bool _) Bl.isinstance Bl.bool (by decide +kernel)))))))
theorem sc_is_row : FnScope ["value", "many", "one"] ["value", "many"] (defScope (top 6)) := ⟨rfl, rfl, rfl, by decide +kernel, rfl, by decide +kernel, by decide +kernel⟩
theorem ok_is_row (Bl : Bl mg) (h : Has K mg "is_row_of_numbers" (top 6)) (Gn : Good P w K mg base 1 "is_number" ["value"] (spF K R_is_number)) : Good P w K mg base 2 "is_row_of_numbers" ["value", "many"] (spF K R_is_row) := by
  obtain ⟨f, fd, F, hm⟩ := h.ex
  refine good_F (k := 1) F hm sc_is_row (F.bindsN fun _ _ _ _ _ _ us hl => match us, hl with | [_, _], _ => rfl) (fun ds d h => by cases h; rfl) fun cdv A outer s H E ds d hr h => ?_
  cases h with
  | mk d n hl =>
    refine ⟨{}, ?_⟩
    by_cases ht : isTupN d = true
    · obtain ⟨ds, rfl⟩ : ∃ ds, d = .tuple ds := by cases d <;> first | exact ⟨_, rfl⟩ | cases ht
      have hl' := hl ds rfl
      have e : isRow (.tuple ds) n = (isTupN (.tuple ds) && (decide ((ds.length : Int) = (n : Int)) && ((List.range ds.length).map fun i => isNum (ds.getD i .none)).all id)) := by
        rw [outs_all]
        show (decide (ds.length = n) && _) = (true && (decide ((ds.length : Int) = (n : Int)) && _))
        rw [Bool.true_and]
        congr 1
        exact decide_eq_decide.mpr ⟨fun z => by omega, fun z => by omega⟩
      rw [e]
      refine (dss_one (ds_ret (de_and (de_isi (de_var 0 (pv 0) rfl) (kit_tup _) Bl.isinstance Bl.tuple (by decide +kernel)) fun hx => (de_and (de_cmp op_eq (de_cb call_len_seq Bl.len (by decide +kernel) (da_cons (de_var 0 (pv 0) rfl) da_nil) (rc_len (.inr rfl))) (de_var 1 (pv 1) rfl) rv_eqI (nomark _)) fun hx => (de_one (de_cb (cr_all rfl) Bl.all (by decide +kernel) (da_cons (de_eq (de_lcT (M := fun _ => {}) (v := fun i => .bool (isNum (ds.getD i .none))) rfl sc_is_row.nd (de_var 0 (pv 0) rfl) (blkOk_by (N := ["value", "many", "one"]) (sc := defScope (top 6)) (by decide +kernel)) (fun _ _ _ _ _ => pg_name (i := 2) sc_is_row.nd rfl (.inl rfl)) rfl hl' (fun _ _ _ _ _ => pts_nil) tst_yes (fun _ _ => Like.rfl') (fun _ _ _ => rfl) (fun i hi _ _ _ _ _ _ => (de_call Gn hr (da_cons (de_var 2 (pv 2) rfl) da_nil) (.mk _)))) (congrArg PyData.list (outs_bool _ _))) da_nil) rc_all))))))
    · have e : isRow d n = (isTupN d && false) := by cases d <;> first | rfl | exact absurd rfl ht
      rw [e]
      exact dss_one (ds_ret (de_and (de_isi (de_var 0 (pv 0) rfl) (kit_tup _) Bl.isinstance Bl.tuple (by decide +kernel)) fun hx => absurd hx ht))
theorem sc_fraction : FnScope ["n", "d", "divisor"] ["n", "d"] (defScope (top 7)) := ⟨rfl, rfl, rfl, by decide +kernel, rfl, by decide +kernel, by decide +kernel⟩
theorem ok_fraction (Bl : Bl mg) (h : Has K mg "fraction" (top 7)) : Good P w K mg base 1 "fraction" ["n", "d"] (spF K R_fraction) := by
  obtain ⟨f, fd, F, hm⟩ := h.ex
  refine good_F (k := 0) F hm sc_fraction (F.bindsN fun _ _ _ _ _ _ us hl => match us, hl with | [_, _], _ => rfl) (fun ds d h => by cases h; rfl) fun cdv A outer s H E ds d hr h => ?_
  cases h with
  | mk n d hd hb =>
    have hg := fracG_ne (n := n) hd
    have hl : (fracG n d).natAbs.log2 < 9000 := B.log (hb.le (fracG_le hd)) (by decide)
    refine ⟨{}, ?_⟩
    have he : PyData.tuple [.int (n.fdiv (fracG n d)), .int (d.fdiv (fracG n d))] = eF (Rat.divInt n d) := by rw [fracG_num hd, fracG_den hd]
    refine dss_cons (ds_set (i := 2) sc_fraction.nd rfl (.inl rfl) (de_if (S1 := {}) (d := .int (fracG n d)) (dt_cmp op_gt (de_var 1 (pv 1) rfl) de_int rv_gt (nomark _)) (fun hx => ?_) (fun hx => ?_)))
      (dss_one (ds_ret (de_eq (de_tup (da_cons (de_fdiv (de_var 0 (pv 0) rfl) (de_var 2 (pv 2) rfl) hg hl) (da_cons (de_fdiv (de_var 1 (pv 1) rfl) (de_var 2 (pv 2) rfl) hg hl) da_nil)) (by show 2 ≤ 100000; decide)) he)))
    · have hx' := of_decide_eq_true hx
      refine de_eq (de_cf cr_gcd Bl.gcd (da_cons (de_var 0 (pv 0) rfl) (da_cons (de_var 1 (pv 1) rfl) da_nil)) rc_gcd) ?_
      unfold fracG; rw [if_pos hx']
    · have hx' := of_decide_eq_false hx
      refine de_eq (de_neg (de_cf cr_gcd Bl.gcd (da_cons (de_var 0 (pv 0) rfl) (da_cons (de_var 1 (pv 1) rfl) da_nil)) rc_gcd)) ?_
      unfold fracG; rw [if_neg hx']
end
end Bm
namespace Bm
open PySem PySem.Spec PyProof.Rows L2 G
theorem HR.pos {k : Nat} {x : Rat} (h : HR k x) : 0 < k := by
  rcases Nat.eq_zero_or_pos k with z | z
  · subst z
    have h2 : x.den < 2 ^ 0 := h.2
    have := x.den_nz
    omega
  · exact z
theorem mulW {j k : Nat} {x y : Int} (h : B j x) (g : B k y) (hj : 0 < j) (hk : 0 < k) (l : j + k ≤ 1000000) : CMulW x y := wide_mul h g hj hk l
theorem B.lg {k : Nat} {x : Int} (h : B k x) (h0 : 0 < k) (l : k ≤ 9000) : x.natAbs.log2 < 9000 := Nat.lt_of_lt_of_le (h.log h0) l
def isPrimeD : PyData → Bool
  | .int i => decide (i ∈ P97.map fun (p : Nat) => (p : Int))
  | _ => false
inductive R_is_fraction : List PyData → PyData → Prop
  | mk (x : Rat) : R_is_fraction [eF x] (.bool true)
inductive R_plus : List PyData → PyData → Prop
  | mk (x y : Rat) {j k : Nat} (hx : HR j x) (hy : HR k y) (hl : j + k ≤ 8900) : R_plus [eF x, eF y] (eF (x + y))
inductive R_minus : List PyData → PyData → Prop
  | mk (x y : Rat) {j k : Nat} (hx : HR j x) (hy : HR k y) (hl : j + k ≤ 8900) : R_minus [eF x, eF y] (eF (x - y))
inductive R_times : List PyData → PyData → Prop
  | mk (x y : Rat) {j k : Nat} (hx : HR j x) (hy : HR k y) (hl : j + k ≤ 8900) : R_times [eF x, eF y] (eF (x * y))
inductive R_divided : List PyData → PyData → Prop
  | mk (x y : Rat) {j k : Nat} (hx : HR j x) (hy : HR k y) (hl : j + k ≤ 8900) (h0 : y ≠ 0) : R_divided [eF x, eF y] (eF (x / y))
inductive R_is_prime : List PyData → PyData → Prop
  | mk (d : PyData) : R_is_prime [d] (.bool (isPrimeD d))
inductive R_split_off : List PyData → PyData → Prop
  | mk (p : Nat) (n : Int) (hp : IsP p) (hn : n ≠ 0) : R_split_off [.int p, .int n] (.tuple [.int (vI p n), .int (n / (p : Int) ^ vI p n)])
inductive R_parts : List PyData → PyData → Prop
  | zero (p : Nat) : R_parts [.int p, eF 0] .none
  | mk (p : Nat) (x : Rat) (hp : IsP p) (hx : x ≠ 0) : R_parts [.int p, eF x] (.int (vQ p x))
inductive R_raised : List PyData → PyData → Prop
  | mk (n t : Int) (hn : B 60 n) (ht : -(2 ^ 62) ≤ t ∧ t < 2 ^ 62) : R_raised [.int n, .int t] (.int (n ^ t.toNat))
inductive R_power_of : List PyData → PyData → Prop
  | mk (p : Nat) (n : Int) (hp : IsP p) (hn : -(2 ^ 62) < n ∧ n < 2 ^ 62) : R_power_of [.int p, .int n] (eF ((p : Rat) ^ n))
section
variable {P : Program} {w : World} {K : PySem.W.Frag} {mg : Str → Option Value} {base : Heap}
theorem sc_is_fraction : FnScope ["value"] ["value"] (defScope (top 8)) := ⟨rfl, rfl, rfl, by decide +kernel, rfl, by decide +kernel, by decide +kernel⟩
theorem ok_is_fraction (Bl : Bl mg) (h : Has K mg "is_fraction" (top 8)) (Gr : Good P w K mg base 2 "is_row_of_numbers" ["value", "many"] (spF K R_is_row)) : Good P w K mg base 3 "is_fraction" ["value"] (spF K R_is_fraction) := by
  obtain ⟨f, fd, F, hm⟩ := h.ex
  refine good_F (k := 2) F hm sc_is_fraction (F.bindsN fun _ _ _ _ _ _ us hl => match us, hl with | [_], _ => rfl) (fun ds d h => by cases h; rfl) fun cdv A outer s H E ds d hr h => ?_
  cases h with
  | mk x =>
    refine ⟨{}, ?_⟩
    have e : true = (isRow (eF x) 2 && (decide ((0 : Int) < (x.den : Int)) && decide (((Nat.gcd x.num.natAbs (x.den : Int).natAbs : Nat) : Int) = 1))) := by
      have h1 : isRow (eF x) 2 = true := rfl
      have h2 : (0 : Int) < (x.den : Int) := by have := x.den_nz; omega
      have h3 : Nat.gcd x.num.natAbs (x.den : Int).natAbs = 1 := x.reduced
      rw [h1, decide_eq_true h2, h3]; rfl
    rw [e]
    exact (dss_one (ds_ret (de_and (de_call Gr hr (da_cons (de_var 0 (pv 0) rfl) (da_cons de_int da_nil)) (.mk _ 2 (fun ds z => by cases z; show 2 ≤ 50000; decide))) fun hx => (de_and (de_cmp op_gt (de_ixT (de_var 0 (pv 0) rfl) de_int rfl) de_int rv_gt (nomark _)) fun hx => (de_one (de_cmp op_eq (de_cf cr_gcd Bl.gcd (da_cons (de_ixT (de_var 0 (pv 0) rfl) de_int rfl) (da_cons (de_ixT (de_var 0 (pv 0) rfl) de_int rfl) da_nil)) rc_gcd) de_int rv_eqI (nomark _)))))))
theorem sc_plus : FnScope ["x", "y"] ["x", "y"] (defScope (top 9)) := ⟨rfl, rfl, rfl, by decide +kernel, rfl, by decide +kernel, by decide +kernel⟩
theorem ok_plus (Bl : Bl mg) (h : Has K mg "plus" (top 9)) (Gf : Good P w K mg base 1 "fraction" ["n", "d"] (spF K R_fraction)) : Good P w K mg base 2 "plus" ["x", "y"] (spF K R_plus) := by
  obtain ⟨f, fd, F, hm⟩ := h.ex
  refine good_F (k := 1) F hm sc_plus (F.bindsN fun _ _ _ _ _ _ us hl => match us, hl with | [_, _], _ => rfl) (fun ds d h => by cases h; rfl) fun cdv A outer s H E ds d hr h => ?_
  cases h with
  | mk x y hx hy hl =>
    have j0 := hx.pos
    have k0 := hy.pos
    refine ⟨{}, ?_⟩
    rw [← rat_add]
    exact (dss_one (ds_ret (de_call Gf hr (da_cons (de_add (de_mul (de_ixT (de_var 0 (pv 0) rfl) de_int rfl) (de_ixT (de_var 1 (pv 1) rfl) de_int rfl) (mulW hx.1 hy.2 (by omega) (by omega) (by omega))) (de_mul (de_ixT (de_var 1 (pv 1) rfl) de_int rfl) (de_ixT (de_var 0 (pv 0) rfl) de_int rfl) (mulW hy.1 hx.2 (by omega) (by omega) (by omega)))) (da_cons (de_mul (de_ixT (de_var 0 (pv 0) rfl) de_int rfl) (de_ixT (de_var 1 (pv 1) rfl) de_int rfl) (mulW hx.2 hy.2 (by omega) (by omega) (by omega))) da_nil)) (.mk _ _ (Int.mul_ne_zero (den_ne x) (den_ne y)) ((hx.2.mul hy.2).mono (by omega))))))
theorem sc_minus : FnScope ["x", "y"] ["x", "y"] (defScope (top 10)) := ⟨rfl, rfl, rfl, by decide +kernel, rfl, by decide +kernel, by decide +kernel⟩
theorem ok_minus (Bl : Bl mg) (h : Has K mg "minus" (top 10)) (Gf : Good P w K mg base 1 "fraction" ["n", "d"] (spF K R_fraction)) : Good P w K mg base 2 "minus" ["x", "y"] (spF K R_minus) := by
  obtain ⟨f, fd, F, hm⟩ := h.ex
  refine good_F (k := 1) F hm sc_minus (F.bindsN fun _ _ _ _ _ _ us hl => match us, hl with | [_, _], _ => rfl) (fun ds d h => by cases h; rfl) fun cdv A outer s H E ds d hr h => ?_
  cases h with
  | mk x y hx hy hl =>
    have j0 := hx.pos
    have k0 := hy.pos
    refine ⟨{}, ?_⟩
    rw [← rat_sub]
    exact (dss_one (ds_ret (de_call Gf hr (da_cons (de_sub (de_mul (de_ixT (de_var 0 (pv 0) rfl) de_int rfl) (de_ixT (de_var 1 (pv 1) rfl) de_int rfl) (mulW hx.1 hy.2 (by omega) (by omega) (by omega))) (de_mul (de_ixT (de_var 1 (pv 1) rfl) de_int rfl) (de_ixT (de_var 0 (pv 0) rfl) de_int rfl) (mulW hy.1 hx.2 (by omega) (by omega) (by omega)))) (da_cons (de_mul (de_ixT (de_var 0 (pv 0) rfl) de_int rfl) (de_ixT (de_var 1 (pv 1) rfl) de_int rfl) (mulW hx.2 hy.2 (by omega) (by omega) (by omega))) da_nil)) (.mk _ _ (Int.mul_ne_zero (den_ne x) (den_ne y)) ((hx.2.mul hy.2).mono (by omega))))))
theorem sc_times : FnScope ["x", "y"] ["x", "y"] (defScope (top 11)) := ⟨rfl, rfl, rfl, by decide +kernel, rfl, by decide +kernel, by decide +kernel⟩
theorem ok_times (Bl : Bl mg) (h : Has K mg "times_of" (top 11)) (Gf : Good P w K mg base 1 "fraction" ["n", "d"] (spF K R_fraction)) : Good P w K mg base 2 "times_of" ["x", "y"] (spF K R_times) := by
  obtain ⟨f, fd, F, hm⟩ := h.ex
  refine good_F (k := 1) F hm sc_times (F.bindsN fun _ _ _ _ _ _ us hl => match us, hl with | [_, _], _ => rfl) (fun ds d h => by cases h; rfl) fun cdv A outer s H E ds d hr h => ?_
  cases h with
  | mk x y hx hy hl =>
    have j0 := hx.pos
    have k0 := hy.pos
    refine ⟨{}, ?_⟩
    rw [← rat_mul]
    exact (dss_one (ds_ret (de_call Gf hr (da_cons (de_mul (de_ixT (de_var 0 (pv 0) rfl) de_int rfl) (de_ixT (de_var 1 (pv 1) rfl) de_int rfl) (mulW hx.1 hy.1 (by omega) (by omega) (by omega))) (da_cons (de_mul (de_ixT (de_var 0 (pv 0) rfl) de_int rfl) (de_ixT (de_var 1 (pv 1) rfl) de_int rfl) (mulW hx.2 hy.2 (by omega) (by omega) (by omega))) da_nil)) (.mk _ _ (Int.mul_ne_zero (den_ne x) (den_ne y)) ((hx.2.mul hy.2).mono (by omega))))))
theorem sc_divided : FnScope ["x", "y"] ["x", "y"] (defScope (top 12)) := ⟨rfl, rfl, rfl, by decide +kernel, rfl, by decide +kernel, by decide +kernel⟩
theorem ok_divided (Bl : Bl mg) (h : Has K mg "divided" (top 12)) (Gf : Good P w K mg base 1 "fraction" ["n", "d"] (spF K R_fraction)) : Good P w K mg base 2 "divided" ["x", "y"] (spF K R_divided) := by
  obtain ⟨f, fd, F, hm⟩ := h.ex
  refine good_F (k := 1) F hm sc_divided (F.bindsN fun _ _ _ _ _ _ us hl => match us, hl with | [_, _], _ => rfl) (fun ds d h => by cases h; rfl) fun cdv A outer s H E ds d hr h => ?_
  cases h with
  | mk x y hx hy hl h0 =>
    have j0 := hx.pos
    have k0 := hy.pos
    refine ⟨{}, ?_⟩
    rw [← rat_div]
    exact (dss_one (ds_ret (de_call Gf hr (da_cons (de_mul (de_ixT (de_var 0 (pv 0) rfl) de_int rfl) (de_ixT (de_var 1 (pv 1) rfl) de_int rfl) (mulW hx.1 hy.2 (by omega) (by omega) (by omega))) (da_cons (de_mul (de_ixT (de_var 0 (pv 0) rfl) de_int rfl) (de_ixT (de_var 1 (pv 1) rfl) de_int rfl) (mulW hx.2 hy.1 (by omega) (by omega) (by omega))) da_nil)) (.mk _ _ (Int.mul_ne_zero (den_ne x) (fun z => h0 (Rat.num_eq_zero.mp z))) ((hx.2.mul hy.1).mono (by omega))))))
theorem sc_is_prime : FnScope ["value"] ["value"] (defScope (top 15)) := ⟨rfl, rfl, rfl, by decide +kernel, rfl, by decide +kernel, by decide +kernel⟩
theorem ok_is_prime (Bl : Bl mg) (C : Cst K mg) (h : Has K mg "is_prime" (top 15)) (Gn : Good P w K mg base 1 "is_number" ["value"] (spF K R_is_number)) : Good P w K mg base 2 "is_prime" ["value"] (spF K R_is_prime) := by
  obtain ⟨f, fd, F, hm⟩ := h.ex
  obtain ⟨aP, mP, rP⟩ := C.ex "PRIMES" (.tuple (P97.map fun (p : Nat) => .int (p : Int))) (by simp)
  refine good_F (k := 1) F hm sc_is_prime (F.bindsN fun _ _ _ _ _ _ us hl => match us, hl with | [_], _ => rfl) (fun ds d h => by cases h; rfl) fun cdv A outer s H E ds d hr h => ?_
  cases h with
  | mk d =>
    refine ⟨{}, ?_⟩
    by_cases hn : isNum d = true
    · obtain ⟨i, rfl⟩ : ∃ i, d = .int i := by cases d <;> first | exact ⟨_, rfl⟩ | cases hn
      have e : isPrimeD (.int i) = (isNum (.int i) && decide (i ∈ P97.map fun (p : Nat) => (p : Int))) := by show _ = (true && _); rw [Bool.true_and]; rfl
      rw [e]
      exact (dss_one (ds_ret (de_and (de_call Gn hr (da_cons (de_var 0 (pv 0) rfl) da_nil) (.mk _)) fun hx => (de_one (de_cmp op_in_seq (de_var 0 (pv 0) rfl) (de_glob (v := .ref aP) rfl mP rfl rP) (rv_in (ns := P97.map fun (p : Nat) => (p : Int)) (.inr (by rw [List.map_map]; rfl))) (by rfl))))))
    · have e : isPrimeD d = (isNum d && false) := by cases d <;> first | rfl | exact absurd rfl hn
      rw [e]
      exact (dss_one (ds_ret (de_and (de_call Gn hr (da_cons (de_var 0 (pv 0) rfl) da_nil) (.mk _)) fun hx => absurd hx hn)))
end
end Bm
namespace Bm
open PySem PySem.Spec PyProof.Rows L2 G
theorem IsP.pos {p : Nat} (h : IsP p) : (0 : Int) < p := by have := h.two; omega
theorem IsP.b7 {p : Nat} (h : IsP p) : B 7 (p : Int) := by have := h.small; unfold B; omega
theorem IsP.lg {p : Nat} (h : IsP p) : (p : Int).natAbs.log2 < 9000 := h.b7.lg (by decide) (by decide)
theorem fmod_pos {a b : Int} (h : 0 < b) : a.fmod b = a % b := Int.fmod_eq_emod_of_nonneg a (by omega)
theorem fdiv_pos {a b : Int} (h : 0 < b) : a.fdiv b = a / b := Int.fdiv_eq_ediv_of_nonneg a (by omega)
/-- n as k lots of p taken out, m left -/
theorem vI_end {p : Nat} (h : IsP p) {n m : Int} {k : Nat} (e : n = (p : Int) ^ k * m) (hm : ¬ (p : Int) ∣ m) : k = vI p n ∧ m = n / (p : Int) ^ vI p n := by
  have hk : k = vI p n := by
    unfold vI
    rw [e, Int.natAbs_mul, Int.natAbs_pow]
    show k = vN p (p ^ k * m.natAbs)
    rw [vN_of h.two (fun z => hm (Int.ofNat_dvd_left.mpr z))]
  refine ⟨hk, ?_⟩
  rw [← hk, e, Int.mul_ediv_cancel_left _ (by have := ppos h k; omega)]
theorem natAbs_div_lt {p : Nat} {n : Int} (hp : 2 ≤ p) (hn : n ≠ 0) (hd : (p : Int) ∣ n) : (n / (p : Int)).natAbs < n.natAbs ∧ n / (p : Int) ≠ 0 ∧ n = (p : Int) * (n / (p : Int)) := by
  obtain ⟨k, rfl⟩ := hd
  have hk : k ≠ 0 := fun z => hn (by rw [z, Int.mul_zero])
  rw [Int.mul_ediv_cancel_left _ (by omega)]
  refine ⟨?_, hk, rfl⟩
  rw [Int.natAbs_mul]
  have h1 : 1 ≤ k.natAbs := Int.natAbs_pos.mpr hk
  have : 2 * k.natAbs ≤ (p : Int).natAbs * k.natAbs := Nat.mul_le_mul_right _ (by omega)
  omega
section
variable {P : Program} {w : World} {K : PySem.W.Frag} {mg : Str → Option Value} {base : Heap}
theorem sc_split_off : FnScope ["p", "n", "many"] ["p", "n"] (defScope (top 16)) := ⟨rfl, rfl, rfl, by decide +kernel, rfl, by decide +kernel, by decide +kernel⟩
theorem ok_split_off (Bl : Bl mg) (h : Has K mg "split_off" (top 16)) : Good P w K mg base 1 "split_off" ["p", "n"] (spF K R_split_off) := by
  obtain ⟨f, fd, F, hm⟩ := h.ex
  refine good_F (k := 0) F hm sc_split_off (F.bindsN fun _ _ _ _ _ _ us hl => match us, hl with | [_, _], _ => rfl) (fun ds d h => by cases h; rfl) fun cdv A outer s H E ds d hr h => ?_
  cases h with
  | mk p n hp hn =>
    refine ⟨{}, ?_⟩
    have hp0 := hp.pos
    have hpn : (p : Int) ≠ 0 := by omega
    refine dss_cons (ds_set (i := 2) sc_split_off.nd rfl (.inl rfl) de_int) (dss_while PassesOwn.never (fun a : Nat × Int => [.dat (.int p), .dat (.int a.2), .dat (.int a.1)]) (fun _ => {}) (fun a => n = (p : Int) ^ a.1 * a.2 ∧ a.2 ≠ 0) (fun a => a.2.natAbs) (fun a => decide (a.2 % (p : Int) = 0)) (fun a => (a.1 + 1, a.2 / (p : Int))) (0, n) ⟨by simp, hn⟩ rfl rfl
      (fun a ha => ?_) (fun a ha ht => ?_) (fun a ha ht => ?_))
    · rw [← fmod_pos hp0]
      exact dt_cmp op_eq (de_mod (de_var 1 (pv 1) rfl) (de_var 0 (pv 0) rfl) hpn) de_int rv_eqI (nomark _)
    · obtain ⟨k, m⟩ := a
      obtain ⟨e, m0⟩ := ha
      have hd : (p : Int) ∣ m := Int.dvd_of_emod_eq_zero (of_decide_eq_true ht)
      obtain ⟨q1, q2, q3⟩ := natAbs_div_lt hp.two m0 hd
      refine ⟨⟨?_, q2⟩, q1, ?_⟩
      · show n = (p : Int) ^ (k + 1) * (m / (p : Int))
        rw [Int.pow_succ, Int.mul_assoc, ← q3]; exact e
      · rw [← fdiv_pos hp0]
        exact dss_nx (dss_one (ds_par (i := 2) (j := 1) rfl sc_split_off.nd rfl rfl (by decide) rfl rfl (da_cons (de_add (de_var 2 (pv 2) rfl) de_int) (da_cons (de_fdiv (de_var 1 (pv 1) rfl) (de_var 0 (pv 0) rfl) hpn hp.lg) da_nil)) (by rfl))) rfl
    · obtain ⟨k, m⟩ := a
      obtain ⟨e, m0⟩ := ha
      obtain ⟨q1, q2⟩ := vI_end hp e fun z => of_decide_eq_false ht (Int.emod_eq_zero_of_dvd z)
      rw [← q2, ← q1]
      exact dss_one (ds_ret (de_tup (da_cons (de_var 2 (pv 2) rfl) (da_cons (de_var 1 (pv 1) rfl) da_nil)) (by show 2 ≤ 100000; decide)))
theorem sc_parts : FnScope ["p", "x"] ["p", "x"] (defScope (top 17)) := ⟨rfl, rfl, rfl, by decide +kernel, rfl, by decide +kernel, by decide +kernel⟩
theorem vI_one (p : Nat) : vN p 1 = 0 := vN_one p
theorem ok_parts (Bl : Bl mg) (h : Has K mg "parts" (top 17)) (Gs : Good P w K mg base 1 "split_off" ["p", "n"] (spF K R_split_off)) : Good P w K mg base 2 "parts" ["p", "x"] (spF K R_parts) := by
  obtain ⟨f, fd, F, hm⟩ := h.ex
  refine good_F (k := 1) F hm sc_parts (F.bindsN fun _ _ _ _ _ _ us hl => match us, hl with | [_, _], _ => rfl) (fun ds d h => by cases h <;> rfl) fun cdv A outer s H E ds d hr h => ?_
  cases h with
  | zero p =>
    exact ⟨{}, dss_ifr (dt_cmp op_eq (de_ixT (de_var 1 (pv 1) rfl) de_int rfl) de_int rv_eqI (nomark _)) (fun hx => dss_one (ds_ret de_non)) (fun hx => absurd hx (by decide))⟩
  | mk p x hp hx0 =>
    have hx1 : x.num ≠ 0 := fun z => hx0 (Rat.num_eq_zero.mp z)
    exact ⟨{}, dss_ifr (dt_cmp op_eq (de_ixT (de_var 1 (pv 1) rfl) de_int rfl) de_int rv_eqI (nomark _)) (fun hx => absurd (of_decide_eq_true hx) hx1) (fun hx =>
      (dss_one (ds_ret (de_sub (de_ixT (de_call Gs hr (da_cons (de_var 0 (pv 0) rfl) (da_cons (de_ixT (de_var 1 (pv 1) rfl) de_int rfl) da_nil)) (.mk _ _ hp hx1)) de_int rfl) (de_ixT (de_call Gs hr (da_cons (de_var 0 (pv 0) rfl) (da_cons (de_ixT (de_var 1 (pv 1) rfl) de_int rfl) da_nil)) (.mk _ _ hp (den_ne x))) de_int rfl)))))⟩
theorem sc_raised : FnScope ["n", "times", "found", "lap"] ["n", "times"] (defScope (top 18)) := ⟨rfl, rfl, rfl, by decide +kernel, rfl, by decide +kernel, by decide +kernel⟩
theorem ok_raised (Bl : Bl mg) (h : Has K mg "raised" (top 18)) : Good P w K mg base 1 "raised" ["n", "times"] (spF K R_raised) := by
  obtain ⟨f, fd, F, hm⟩ := h.ex
  refine good_F (k := 0) F hm sc_raised (F.bindsN fun _ _ _ _ _ _ us hl => match us, hl with | [_, _], _ => rfl) (fun ds d h => by cases h <;> rfl) fun cdv A outer s H E ds d hr h => ?_
  cases h with
  | mk n t hn ht =>
    have hm2 : ∀ i : Nat, CMul (n ^ i) n := fun i => .inr (by unfold B at hn; omega)
    refine ⟨{}, dss_cons (ds_set (i := 2) sc_raised.nd rfl (.inl rfl) de_int) (dss_forR1 rfl PassesOwn.never Bl.range (da_cons (de_var 1 (pv 1) rfl) da_nil) ht (fun i => [.dat (.int n), .dat (.int t), .dat (.int (n ^ i)), match i with | 0 => .no | j + 1 => .dat (.int (0 + j))]) (fun i => [.dat (.int n), .dat (.int t), .dat (.int (n ^ i)), .dat (.int (0 + i))]) (fun _ => {}) (by simp only [Int.pow_zero]; rfl) rfl
      (fun i _ => by cases i <;> exact dg_name (i := 3) sc_raised.nd rfl (.inl rfl)) (fun i _ => dss_nx (dss_one (ds_set (i := 2) sc_raised.nd rfl (.inl rfl) (de_muls (de_var 2 (pv 2) rfl) (de_var 0 (pv 0) rfl) (hm2 i)))) (by rw [Int.pow_succ]; rfl)) (dss_one (ds_ret (de_var 2 (pv 2) rfl))))⟩
theorem sc_power_of : FnScope ["p", "n"] ["p", "n"] (defScope (top 19)) := ⟨rfl, rfl, rfl, by decide +kernel, rfl, by decide +kernel, by decide +kernel⟩
theorem ok_power_of (Bl : Bl mg) (h : Has K mg "power_of" (top 19)) (Gr : Good P w K mg base 1 "raised" ["n", "times"] (spF K R_raised)) : Good P w K mg base 2 "power_of" ["p", "n"] (spF K R_power_of) := by
  obtain ⟨f, fd, F, hm⟩ := h.ex
  refine good_F (k := 1) F hm sc_power_of (F.bindsN fun _ _ _ _ _ _ us hl => match us, hl with | [_, _], _ => rfl) (fun ds d h => by cases h <;> rfl) fun cdv A outer s H E ds d hr h => ?_
  cases h with
  | mk p n hp hn =>
    refine ⟨{}, dss_one (ds_ret (de_if (S1 := {}) (dt_cmp op_ge (de_var 1 (pv 1) rfl) de_int rv_ge (nomark _)) (fun hx => ?_) (fun hx => ?_)))⟩
    · obtain ⟨e1, e2⟩ := powQ_pos (p := p) (of_decide_eq_true hx)
      refine de_eq (de_tup (da_cons (de_call Gr hr (da_cons (de_var 0 (pv 0) rfl) (da_cons (de_var 1 (pv 1) rfl) da_nil)) (.mk _ _ (hp.b7.mono (by decide)) (by omega))) (da_cons de_int da_nil)) (by show 2 ≤ 100000; decide)) ?_
      show PyData.tuple [.int _, .int _] = PyData.tuple [.int _, .int _]
      rw [e1, e2]; rfl
    · obtain ⟨e1, e2⟩ := powQ_neg (p := p) (n := n) (by have := hp.two; omega) (by have := of_decide_eq_false hx; omega)
      refine de_eq (de_tup (da_cons de_int (da_cons (de_call Gr hr (da_cons (de_var 0 (pv 0) rfl) (da_cons (de_neg (de_var 1 (pv 1) rfl)) da_nil)) (.mk _ _ (hp.b7.mono (by decide)) (by omega))) da_nil)) (by show 2 ≤ 100000; decide)) ?_
      show PyData.tuple [.int _, .int _] = PyData.tuple [.int _, .int _]
      rw [e1, e2]
end
end Bm
namespace Bm
open PySem PySem.Spec PyProof.Rows L2 G
/-! ### the walk by remainders -/
/-- what stands between two turns: a, b the numbers, u, v what they are of n; the sizes -/
structure Eu (n w : Int) (a b u v : Int) : Prop where
  a0 : 0 ≤ a
  b0 : 0 ≤ b
  g : Int.gcd a b = 1
  da : w ∣ n * u - a
  db : w ∣ n * v - b
  sg : u * v ≤ 0
  sz : u.natAbs * b.natAbs + v.natAbs * a.natAbs = w.natAbs
theorem sgn_abs {u v q : Int} (h : u * v ≤ 0) (hq : 0 ≤ q) : (u - q * v).natAbs = u.natAbs + q.natAbs * v.natAbs := by
  rcases Int.le_total 0 u with hu | hu <;> rcases Int.le_total 0 v with hv | hv
  · by_cases z : u = 0
    · subst z; rw [Int.zero_sub, Int.natAbs_neg, Int.natAbs_mul]; simp
    · have : v = 0 := by
        rcases Int.lt_or_le 0 v with h1 | h1
        · have := Int.mul_pos (show 0 < u by omega) h1; omega
        · omega
      subst this; simp
  · have h1 : 0 ≤ q * (-v) := Int.mul_nonneg hq (by omega)
    have h2 : q * (-v) = -(q * v) := by grind
    have h3 : (q * v).natAbs = q.natAbs * v.natAbs := Int.natAbs_mul _ _
    omega
  · have h1 : 0 ≤ q * v := Int.mul_nonneg hq hv
    have h3 : (q * v).natAbs = q.natAbs * v.natAbs := Int.natAbs_mul _ _
    omega
  · by_cases z : u = 0
    · subst z; rw [Int.zero_sub, Int.natAbs_neg, Int.natAbs_mul]; simp
    · have : v = 0 := by
        rcases Int.lt_or_le v 0 with h1 | h1
        · have := Int.mul_pos (show 0 < -u by omega) (show 0 < -v by omega)
          have e : -u * -v = u * v := by grind
          omega
        · omega
      subst this; simp
theorem Eu.step {n w a b u v : Int} (h : Eu n w a b u v) (hb : b ≠ 0) : Eu n w b (a - a / b * b) v (u - a / b * v) := by
  have hb0 : 0 < b := by have := h.b0; omega
  have e : a - a / b * b = a % b := by have := Int.emod_add_mul_ediv a b; grind
  have q0 : 0 ≤ a / b := Int.ediv_nonneg h.a0 h.b0
  refine ⟨h.b0, by rw [e]; exact Int.emod_nonneg a hb, ?_, h.db, ?_, ?_, ?_⟩
  · rw [Int.gcd_comm, Int.gcd_sub_mul_right_left]; exact h.g
  · have e2 : n * (u - a / b * v) - (a - a / b * b) = (n * u - a) - (a / b) * (n * v - b) := by grind
    rw [e2]
    exact Int.dvd_sub h.da (Int.dvd_mul_of_dvd_right h.db)
  · have e3 : v * (u - a / b * v) = u * v - a / b * (v * v) := by grind
    have h1 : 0 ≤ a / b * (v * v) := Int.mul_nonneg q0 (by
      rcases Int.le_total 0 v with z | z
      · exact Int.mul_nonneg z z
      · have := Int.mul_nonneg (a := -v) (b := -v) (by omega) (by omega); grind)
    have := h.sg
    omega
  · have hs := h.sz
    have q1 : (a - a / b * b).natAbs = a.natAbs - (a / b).natAbs * b.natAbs := by
      have : 0 ≤ a % b := Int.emod_nonneg a hb
      rw [Int.natAbs_sub_of_nonneg_of_le (Int.mul_nonneg q0 h.b0) (by omega), Int.natAbs_mul]
    have q2 : (a / b).natAbs * b.natAbs ≤ a.natAbs := by
      have : 0 ≤ a % b := Int.emod_nonneg a hb
      have h5 : a / b * b ≤ a := by omega
      rw [← Int.natAbs_mul]
      have := Int.mul_nonneg q0 h.b0
      omega
    have q3 := sgn_abs h.sg q0
    rw [q1, q3, ← hs]
    generalize u.natAbs = U at *
    generalize v.natAbs = V at *
    generalize (a / b).natAbs = q at *
    generalize b.natAbs = β at *
    obtain ⟨r, hr⟩ : ∃ r, a.natAbs = q * β + r := ⟨a.natAbs - q * β, by omega⟩
    rw [hr]
    have e5 : q * β + r - q * β = r := by omega
    rw [e5]
    grind
/-- .. all of it within the size w -/
structure Ew (n w : Int) (s : Int × Int × Int × Int) : Prop where
  eu : Eu n w s.1 s.2.1 s.2.2.1 s.2.2.2
  la : s.1 ≤ w
  lb : s.2.1 ≤ w
  lu : s.2.2.1.natAbs ≤ w.natAbs
  lv : s.2.2.2.natAbs ≤ w.natAbs
def euN (s : Int × Int × Int × Int) : Int × Int × Int × Int := (s.2.1, s.1 - s.1 / s.2.1 * s.2.1, s.2.2.2, s.2.2.1 - s.1 / s.2.1 * s.2.2.2)
theorem Ew.step {n w : Int} {s : Int × Int × Int × Int} (h : Ew n w s) (hb : s.2.1 ≠ 0) : Ew n w (euN s) ∧ (euN s).2.1.natAbs < s.2.1.natAbs := by
  obtain ⟨a, b, u, v⟩ := s
  have hs := h.eu.step hb
  have hb0 : 0 < b := by have h1 := h.eu.b0; have h2 : b ≠ 0 := hb; have h3 : 0 ≤ b := h1; omega
  have e : a - a / b * b = a % b := by have := Int.emod_add_mul_ediv a b; grind
  have l1 : a % b < b := Int.emod_lt_of_pos a hb0
  have l2 : 0 ≤ a % b := Int.emod_nonneg a hb
  have lb : b ≤ w := h.lb
  refine ⟨⟨hs, lb, ?_, h.lv, ?_⟩, ?_⟩
  · show a - a / b * b ≤ w
    omega
  · show (u - a / b * v).natAbs ≤ w.natAbs
    have h1 : v.natAbs * (a - a / b * b).natAbs + (u - a / b * v).natAbs * b.natAbs = w.natAbs := hs.sz
    have h2 : 1 ≤ b.natAbs := by omega
    have h3 : (u - a / b * v).natAbs * 1 ≤ (u - a / b * v).natAbs * b.natAbs := Nat.mul_le_mul_left _ h2
    omega
  · show (a - a / b * b).natAbs < b.natAbs
    omega
theorem Ew.done {n w : Int} {s : Int × Int × Int × Int} (hw : 0 < w) (h : Ew n w s) (hb : s.2.1 = 0) : s.2.2.1 % w = invF n w := by
  obtain ⟨a, b, u, v⟩ := s
  have hb' : b = 0 := hb
  subst hb'
  have h1 : Int.gcd a 0 = 1 := h.eu.g
  have h2 : 0 ≤ a := h.eu.a0
  have ha : a = 1 := by rw [Int.gcd_zero_right] at h1; omega
  subst ha
  have hd : w ∣ n * u - 1 := h.eu.da
  refine invF_uniq hw (Int.emod_nonneg _ (by omega)) (Int.emod_lt_of_pos _ hw) ?_
  have e : n * (u % w) - 1 = n * u - 1 - w * (n * (u / w)) := by
    have := Int.emod_add_mul_ediv u w
    grind
  show w ∣ n * (u % w) - 1
  rw [e]
  exact Int.dvd_sub hd (Int.dvd_mul_right _ _)
theorem gcd_mod {n w : Int} (h : Int.gcd n w = 1) : Int.gcd (n % w) w = 1 := by
  have e : n % w = n - n / w * w := by have := Int.emod_add_mul_ediv n w; grind
  rw [e, Int.gcd_sub_mul_right_left]; exact h
theorem Ew.start1 {n w : Int} (hw : 0 < w) (h : Int.gcd n w = 1) : Ew n w (n % w, w, 1, 0) := by
  have l1 := Int.emod_lt_of_pos n hw
  have l2 := Int.emod_nonneg n (show w ≠ 0 by omega)
  refine ⟨⟨l2, by show 0 ≤ w; omega, gcd_mod h, ?_, ?_, by show (1 : Int) * 0 ≤ 0; decide, ?_⟩, by show n % w ≤ w; omega, Int.le_refl _, by show 1 ≤ w.natAbs; omega, by show 0 ≤ w.natAbs; omega⟩
  · exact ⟨n / w, by have := Int.emod_add_mul_ediv n w; grind⟩
  · exact ⟨-1, by grind⟩
  · show 1 * w.natAbs + 0 * (n % w).natAbs = w.natAbs
    omega
theorem Ew.start2 {n w : Int} (hw : 0 < w) (h : Int.gcd n w = 1) : Ew n w (w, n % w, 0, 1) := by
  have l1 := Int.emod_lt_of_pos n hw
  have l2 := Int.emod_nonneg n (show w ≠ 0 by omega)
  refine ⟨⟨by show 0 ≤ w; omega, l2, by rw [Int.gcd_comm]; exact gcd_mod h, ?_, ?_, by show (0 : Int) * 1 ≤ 0; decide, ?_⟩, Int.le_refl _, by show n % w ≤ w; omega, by show 0 ≤ w.natAbs; omega, by show 1 ≤ w.natAbs; omega⟩
  · exact ⟨-1, by grind⟩
  · exact ⟨n / w, by have := Int.emod_add_mul_ediv n w; grind⟩
  · show 0 * (n % w).natAbs + 1 * w.natAbs = w.natAbs
    omega
theorem Ew.bnd {n w : Int} {k : Nat} (hk : B k w) {s : Int × Int × Int × Int} (h : Ew n w s) : B k s.1 ∧ B k s.2.1 ∧ B k s.2.2.1 ∧ B k s.2.2.2 ∧ B k (s.1 / s.2.1) := by
  have a0 := h.eu.a0
  have b0 := h.eu.b0
  have la := h.la
  have lb := h.lb
  have q : s.1 / s.2.1 ≤ s.1 := Int.ediv_le_self _ a0
  have q0 : 0 ≤ s.1 / s.2.1 := Int.ediv_nonneg a0 b0
  exact ⟨hk.le (by omega), hk.le (by omega), hk.le h.lu, hk.le h.lv, hk.le (by omega)⟩
inductive R_inverse : List PyData → PyData → Prop
  | mk (n w : Int) (hw : 0 < w) (hb : B 8500 w) (hc : Int.gcd n w = 1) : R_inverse [.int n, .int w] (.int (invF n w))
section
variable {P : Program} {w : World} {K : PySem.W.Frag} {mg : Str → Option Value} {base : Heap}
theorem sc_inverse : FnScope ["n", "whole", "one", "other", "here", "there", "times"] ["n", "whole"] (defScope (top 20)) := ⟨rfl, rfl, rfl, by decide +kernel, rfl, by decide +kernel, by decide +kernel⟩
theorem ok_inverse (Bl : Bl mg) (h : Has K mg "inverse" (top 20)) : Good P w K mg base 1 "inverse" ["n", "whole"] (spF K R_inverse) := by
  obtain ⟨f, fd, F, hm⟩ := h.ex
  refine good_F (k := 0) F hm sc_inverse (F.bindsN fun _ _ _ _ _ _ us hl => match us, hl with | [_, _], _ => rfl) (fun ds d h => by cases h <;> rfl) fun cdv A outer s H E ds d hr h => ?_
  cases h with
  | mk n m hw hb hc =>
    have e0 : n.fmod m = n % m := fmod_pos hw
    refine ⟨{}, dss_cons (ds_asg (de_tup (da_cons (de_mod (de_var 0 (pv 0) rfl) (de_var 1 (pv 1) rfl) (by omega)) (da_cons (de_var 1 (pv 1) rfl) (da_cons de_int (da_cons de_int da_nil)))) (by show 4 ≤ 100000; decide)) (dg_tup rfl (dgs_cons (dg_name (i := 2) sc_inverse.nd rfl (.inl rfl)) (dgs_cons (dg_name (i := 3) sc_inverse.nd rfl (.inl rfl)) (dgs_cons (dg_name (i := 4) sc_inverse.nd rfl (.inl rfl)) (dgs_cons (dg_name (i := 5) sc_inverse.nd rfl (.inl rfl)) dgs_nil))))))
      (dss_while PassesOwn.never (fun a : (Int × Int × Int × Int) × Sl => [.dat (.int n), .dat (.int m), .dat (.int a.1.1), .dat (.int a.1.2.1), .dat (.int a.1.2.2.1), .dat (.int a.1.2.2.2), a.2]) (fun _ => {}) (fun a => Ew n m a.1) (fun a => a.1.2.1.natAbs) (fun a => !decide (a.1.2.1 = 0)) (fun a => (euN a.1, .dat (.int (a.1.1 / a.1.2.1)))) ((n % m, m, 1, 0), .no) (Ew.start1 hw hc) (by rw [e0]; rfl) rfl
      (fun a ha => ?_) (fun a ha ht => ?_) (fun a ha ht => ?_))⟩
    · exact dt_cmp op_ne (de_var 3 (pv 3) rfl) de_int rv_neI (nomark _)
    · obtain ⟨s, sl⟩ := a
      have hb0 : s.2.1 ≠ 0 := fun z => by simp [z] at ht
      obtain ⟨h1, h2⟩ := Ew.step ha hb0
      obtain ⟨b1, b2, b3, b4, b5⟩ := Ew.bnd hb ha
      have hpos : 0 < s.2.1 := by have := ha.eu.b0; have : (0:Int) ≤ s.2.1 := this; omega
      refine ⟨h1, h2, ?_⟩
      have e1 : s.1.fdiv s.2.1 = s.1 / s.2.1 := fdiv_pos hpos
      refine dss_nx (dss_cons (ds_set (i := 6) sc_inverse.nd rfl (.inl rfl) (de_eq (de_fdiv (de_var 2 (pv 2) rfl) (de_var 3 (pv 3) rfl) hb0 (b2.lg (by decide) (by decide))) (congrArg PyData.int e1)))
        (dss_one (ds_asg (de_tup (da_cons (de_var 3 (pv 3) rfl) (da_cons (de_sub (de_var 2 (pv 2) rfl) (de_mul (de_var 6 (pv 6) rfl) (de_var 3 (pv 3) rfl) (mulW b5 b2 (by decide) (by decide) (by decide)))) (da_cons (de_var 5 (pv 5) rfl) (da_cons (de_sub (de_var 4 (pv 4) rfl) (de_mul (de_var 6 (pv 6) rfl) (de_var 5 (pv 5) rfl) (mulW b5 b4 (by decide) (by decide) (by decide)))) da_nil)))) (by show 4 ≤ 100000; decide)) (dg_tup rfl (dgs_cons (dg_name (i := 2) sc_inverse.nd rfl (.inl rfl)) (dgs_cons (dg_name (i := 3) sc_inverse.nd rfl (.inl rfl)) (dgs_cons (dg_name (i := 4) sc_inverse.nd rfl (.inl rfl)) (dgs_cons (dg_name (i := 5) sc_inverse.nd rfl (.inl rfl)) dgs_nil)))))))) rfl
    · have hb0 : a.1.2.1 = 0 := by simpa using ht
      exact dss_one (ds_ret (de_eq (de_mod (de_var 4 (pv 4) rfl) (de_var 1 (pv 1) rfl) (by omega)) (congrArg PyData.int ((fmod_pos hw).trans (Ew.done hw ha hb0)))))
end
end Bm
namespace Bm
open PySem PySem.Spec PyProof.Rows L2 G
inductive R_rest : List PyData → PyData → Prop
  | mk (p : Nat) (k : Int) (x : Rat) (hp : IsP p) (hk : 0 ≤ k ∧ k < 2 ^ 62) (hx : HR 8900 x) (hw : B 8500 ((p : Int) ^ k.toNat)) (hc : Int.gcd (x.den : Int) ((p : Int) ^ k.toNat) = 1) :
    R_rest [.int p, .int k, eF x] (.int ((x.num * invF (x.den : Int) ((p : Int) ^ k.toNat)) % (p : Int) ^ k.toNat))
inductive R_ball : List PyData → PyData → Prop
  | mk (p : Nat) (n : Int) (x : Rat) (h : BallOk p n x) : R_ball [.int p, .int n, eF x] (eB (ballQ p n x))
section
variable {P : Program} {w : World} {K : PySem.W.Frag} {mg : Str → Option Value} {base : Heap}
theorem sc_rest : FnScope ["p", "k", "x", "whole"] ["p", "k", "x"] (defScope (top 21)) := ⟨rfl, rfl, rfl, by decide +kernel, rfl, by decide +kernel, by decide +kernel⟩
theorem ok_rest (Bl : Bl mg) (h : Has K mg "rest" (top 21)) (Gr : Good P w K mg base 1 "raised" ["n", "times"] (spF K R_raised)) (Gi : Good P w K mg base 1 "inverse" ["n", "whole"] (spF K R_inverse)) : Good P w K mg base 2 "rest" ["p", "k", "x"] (spF K R_rest) := by
  obtain ⟨f, fd, F, hm⟩ := h.ex
  refine good_F (k := 1) F hm sc_rest (F.bindsN fun _ _ _ _ _ _ us hl => match us, hl with | [_, _, _], _ => rfl) (fun ds d h => by cases h <;> rfl) fun cdv A outer s H E ds d hr h => ?_
  cases h with
  | mk p k x hp hk hx hw hc =>
    have w0 := ppos hp k.toNat
    refine ⟨{}, dss_cons (ds_set (i := 3) sc_rest.nd rfl (.inl rfl) (de_call Gr hr (da_cons (de_var 0 (pv 0) rfl) (da_cons (de_var 1 (pv 1) rfl) da_nil)) (.mk _ _ (hp.b7.mono (by decide)) (by omega))))
     (dss_one (ds_ret (de_eq (de_mod (de_mul (de_ixT (de_var 2 (pv 2) rfl) de_int rfl) (de_call Gi hr (da_cons (de_ixT (de_var 2 (pv 2) rfl) de_int rfl) (da_cons (de_var 3 (pv 3) rfl) da_nil)) (.mk _ _ w0 hw hc)) (mulW hx.1 (invF_bnd w0 hw hc) (by decide) (by decide) (by decide))) (de_var 3 (pv 3) rfl) (by omega)) (congrArg PyData.int (fmod_pos w0)))))⟩
theorem sc_ball : FnScope ["p", "n", "x", "low", "whole"] ["p", "n", "x"] (defScope (top 24)) := ⟨rfl, rfl, rfl, by decide +kernel, rfl, by decide +kernel, by decide +kernel⟩
theorem ok_ball (Bl : Bl mg) (C : Cst K mg) (h : Has K mg "ball" (top 24)) (Gn : Good P w K mg base 1 "is_number" ["value"] (spF K R_is_number)) (Gif : Good P w K mg base 3 "is_fraction" ["value"] (spF K R_is_fraction)) (Gs : Good P w K mg base 1 "split_off" ["p", "n"] (spF K R_split_off))
    (Gp : Good P w K mg base 2 "power_of" ["p", "n"] (spF K R_power_of)) (Gt : Good P w K mg base 2 "times_of" ["x", "y"] (spF K R_times)) (Grs : Good P w K mg base 2 "rest" ["p", "k", "x"] (spF K R_rest)) (Gf : Good P w K mg base 1 "fraction" ["n", "d"] (spF K R_fraction)) : Good P w K mg base 4 "ball" ["p", "n", "x"] (spF K R_ball) := by
  obtain ⟨f, fd, F, hm⟩ := h.ex
  obtain ⟨aZ, mZ, rZ⟩ := C.ex "ZERO" (.tuple [.int 0, .int 1]) (by simp)
  refine good_F (k := 3) F hm sc_ball (F.bindsN fun _ _ _ _ _ _ us hl => match us, hl with | [_, _, _], _ => rfl) (fun ds d h => by cases h <;> rfl) fun cdv A outer s H E ds d hr h => ?_
  cases h with
  | mk p n x hb =>
    have hp := hb.pr
    have hlow := vN_le hp x.den_nz (show x.den < 2 ^ 4400 from hb.hx.2)
    obtain ⟨s1, s2⟩ := scale_low hp x
    have pl := ppos hp (vN p x.den)
    refine ⟨{}, dss_ifr (x := false) (dt_eq (dt_w (dw_or (dt_not (dt_val (de_call Gn (hr.mono (by decide)) (da_cons (de_var 1 (pv 1) rfl) da_nil) (R_is_number.mk _)))) fun hx => (dw_or1 (dt_not (dt_val (de_call Gif hr (da_cons (de_var 2 (pv 2) rfl) da_nil) (R_is_fraction.mk _))))))) rfl) (fun hx => by cases hx) (fun _ => ?_)⟩
    refine dss_cons (ds_set (i := 3) sc_ball.nd rfl (.inl rfl) (de_ixT (de_call Gs (hr.mono (by decide)) (da_cons (de_var 0 (pv 0) rfl) (da_cons (de_ixT (de_var 2 (pv 2) rfl) de_int rfl) da_nil)) (.mk _ _ hp (den_ne x))) de_int rfl)) ?_
    refine dss_ifr (dt_cmp op_le (de_add (de_var 1 (pv 1) rfl) (de_var 3 (pv 3) rfl)) de_int rv_le (nomark _)) (fun hx => ?_) (fun hx => ?_)
    · have hle : n + (vN p x.den : Int) ≤ 0 := of_decide_eq_true hx
      refine dss_one (ds_ret (de_eq (de_tup (da_cons (de_var 1 (pv 1) rfl) (da_cons (de_glob (v := .ref aZ) rfl mZ rfl rZ) da_nil)) (by show 2 ≤ 100000; decide)) ?_))
      unfold ballQ; rw [if_pos hle]; rfl
    · have hgt : ¬ n + (vN p x.den : Int) ≤ 0 := of_decide_eq_false hx
      have hw : B 8500 ((p : Int) ^ (n + (vN p x.den : Int)).toNat) := hb.hw.resolve_left hgt
      have h40 := hb.n40
      have hpow : HR 4400 ((p : Rat) ^ ((vN p x.den : Nat) : Int)) := HR_pow hp (by decide) (by
        have : ((vN p x.den : Nat) : Int).natAbs = vN p x.den := by omega
        rw [this]; exact B_pow_den hp hb.hx)
      obtain ⟨e1, e2⟩ := powQ_pos (p := p) (n := ((vN p x.den : Nat) : Int)) (by omega)
      refine dss_cons (ds_set (i := 4) sc_ball.nd rfl (.inl rfl) (de_call Gp (hr.mono (by decide)) (da_cons (de_var 0 (pv 0) rfl) (da_cons (de_var 3 (pv 3) rfl) da_nil)) (.mk _ _ hp (by show -(2 ^ 62) < ((vN p x.den : Nat) : Int) ∧ ((vN p x.den : Nat) : Int) < 2 ^ 62; omega))))
        (dss_one (ds_ret (de_eq (de_tup (da_cons (de_var 1 (pv 1) rfl) (da_cons (de_call Gf (hr.mono (by decide)) (da_cons (de_call Grs (hr.mono (by decide)) (da_cons (de_var 0 (pv 0) rfl) (da_cons (de_add (de_var 1 (pv 1) rfl) (de_var 3 (pv 3) rfl)) (da_cons (de_call Gt (hr.mono (by decide)) (da_cons (de_var 2 (pv 2) rfl) (da_cons (de_var 4 (pv 4) rfl) da_nil)) (.mk _ _ hb.hx hpow (by decide))) da_nil))) (.mk _ _ _ hp ?_ ?_ ?_ ?_)) (da_cons (de_ixT (de_var 4 (pv 4) rfl) de_int rfl) da_nil)) (.mk _ _ ?_ ?_)) da_nil)) (by show 2 ≤ 100000; decide)) ?_)))
      · show 0 ≤ n + ((vN p x.den : Nat) : Int) ∧ n + ((vN p x.den : Nat) : Int) < 2 ^ 62
        omega
      · exact (hb.hx.mul hpow).mono (by decide)
      · exact hw.mono (by decide)
      · show Int.gcd ((x * (p : Rat) ^ ((vN p x.den : Nat) : Int)).den : Int) _ = 1
        rw [s2]; exact unit_cop hp x _
      · show ((p : Rat) ^ ((vN p x.den : Nat) : Int)).num ≠ 0
        rw [e1]; simp only [Int.toNat_natCast]; omega
      · exact hpow.1.mono (by decide)
      · unfold ballQ
        rw [if_neg hgt]
        show PyData.tuple [.int n, eF (Rat.divInt (((x * (p : Rat) ^ ((vN p x.den : Nat) : Int)).num * invF ((x * (p : Rat) ^ ((vN p x.den : Nat) : Int)).den : Int) ((p : Int) ^ (n + ((vN p x.den : Nat) : Int)).toNat)) % (p : Int) ^ (n + ((vN p x.den : Nat) : Int)).toNat) ((p : Rat) ^ ((vN p x.den : Nat) : Int)).num)] = _
        rw [s1, s2, e1, Int.toNat_natCast]
end
end Bm
namespace Bm
open PySem PySem.Spec PyProof.Rows L2 G
inductive R_in_form : List PyData → PyData → Prop
  | mk (m : M4) {k : Nat} (hb : MB k m) (hk : k ≤ 8900) (h0 : firstM m ≠ 0) : R_in_form [eM m] (eM (formM m))
inductive R_size : List PyData → PyData → Prop
  | mk (m : M4) {k : Nat} (hb : MB k m) (hk : k ≤ 8900) : R_size [eM m] (.int (sizeM m))
inductive R_sum_of : List PyData → PyData → Prop
  | mk (m : M4) : R_sum_of [eM m] (.int (trM m))
inductive R_after : List PyData → PyData → Prop
  | mk (m n : M4) {j k : Nat} (hm : MB j m) (hn : MB k n) (hl : j + k ≤ 8800) (sm : sizeM m ≠ 0) (sn : sizeM n ≠ 0) : R_after [eM m, eM n] (eM (afterM m n))
inductive R_back : List PyData → PyData → Prop
  | mk (m : M4) {k : Nat} (hm : MB k m) (hl : k ≤ 8800) (sm : sizeM m ≠ 0) : R_back [eM m] (eM (backM m))
inductive R_is_whole : List PyData → PyData → Prop
  | mk (m : M4) {k : Nat} (hm : MB k m) (hl : k ≤ 8900) : R_is_whole [eM m] (.bool (wholeM m))
inductive R_told : List PyData → PyData → Prop
  | mk (t m : M4) {j k : Nat} (ht : MB j t) (hm : MB k m) (hl : j + j + k ≤ 8700) (st : sizeM t ≠ 0) (sm : sizeM m ≠ 0) : R_told [eM t, eM m] (eM (toldM t m))
/-- whether any datum is a move -/
def isMoveD : PyData → Bool
  | .tuple [.int a, .int b, .int c, .int d] => decide (sizeM ⟨a, b, c, d⟩ ≠ 0) && decide (formM ⟨a, b, c, d⟩ = ⟨a, b, c, d⟩)
  | _ => false
inductive R_is_move : List PyData → PyData → Prop
  | mk (d : PyData) (hl : ∀ ds, d = .tuple ds → ds.length ≤ 50000) (hb : ∀ m, d = eM m → MB 4000 m) : R_is_move [d] (.bool (isMoveD d))
theorem M4_eta (m : M4) : (⟨m.a, m.b, m.c, m.d⟩ : M4) = m := rfl
theorem isMoveD_eM (m : M4) : isMoveD (eM m) = (decide (sizeM m ≠ 0) && decide (formM m = m)) := rfl
theorem eqv_eM (m n : M4) : PyData.eqv (eM m) (eM n) = decide (m = n) := by
  show (decide (m.a = n.a) && (decide (m.b = n.b) && (decide (m.c = n.c) && (decide (m.d = n.d) && true)))) = _
  obtain ⟨a, b, c, d⟩ := m
  obtain ⟨a', b', c', d'⟩ := n
  simp only [M4.mk.injEq, Bool.and_true]
  by_cases h1 : a = a' <;> by_cases h2 : b = b' <;> by_cases h3 : c = c' <;> by_cases h4 : d = d' <;> simp [h1, h2, h3, h4]
theorem shaped_eM (m : M4) : SeqAt.shaped (eM m) = true := rfl
theorem int_of {d : PyData} (h : isNum d = true) : ∃ i, d = .int i := by cases d <;> first | exact ⟨_, rfl⟩ | cases h
theorem row4 {d : PyData} (h : isRow d 4 = true) : ∃ m, d = eM m := by
  cases d with
  | tuple ds =>
    have h' : (decide (ds.length = 4) && ds.all isNum) = true := h
    obtain ⟨h1, h2⟩ := Bool.and_eq_true_iff.mp h'
    have h3 := of_decide_eq_true h1
    match ds, h3, h2 with
    | [x, y, z, w], _, h2 =>
      simp only [List.all_cons, List.all_nil, Bool.and_eq_true, Bool.and_true] at h2
      obtain ⟨ha, hb, hc, hd⟩ := h2
      obtain ⟨a, rfl⟩ := int_of ha
      obtain ⟨b, rfl⟩ := int_of hb
      obtain ⟨c, rfl⟩ := int_of hc
      obtain ⟨e, rfl⟩ := int_of hd
      exact ⟨⟨a, b, c, e⟩, rfl⟩
  | _ => cases h
theorem isMove_row {d : PyData} (h : isRow d 4 = false) : isMoveD d = false := by
  unfold isMoveD
  split
  · cases h
  · rfl
theorem firstG (a b c d : Int) (h : firstM ⟨a, b, c, d⟩ ≠ 0) : atI (outs (fun i => !decide ((([a, b, c, d] : List Int).getD i 0) = 0)) (fun i => .int (([a, b, c, d] : List Int).getD i 0)) 4) 0 = some (.int (firstM ⟨a, b, c, d⟩)) := by
  have e : List.range 4 = [0, 1, 2, 3] := rfl
  unfold outs
  rw [e]
  unfold firstM at h ⊢
  by_cases ha : a = 0 <;> by_cases hb : b = 0 <;> by_cases hc : c = 0 <;> by_cases hd : d = 0 <;> simp [ha, hb, hc, hd, atI, ixN] at h ⊢
theorem get4 {a b c d : Int} {i : Nat} (h : i < 4) : ([.int a, .int b, .int c, .int d] : List PyData).getD i .none = .int (([a, b, c, d] : List Int).getD i 0) := by
  match i, h with
  | 0, _ => rfl
  | 1, _ => rfl
  | 2, _ => rfl
  | 3, _ => rfl
theorem outs_form (m : M4) (g : Int) : outs (fun _ => true) (fun i => .int ((([m.a, m.b, m.c, m.d] : List Int).getD i 0).fdiv g)) 4 = [.int (divM m g).a, .int (divM m g).b, .int (divM m g).c, .int (divM m g).d] := rfl
section
variable {P : Program} {w : World} {K : PySem.W.Frag} {mg : Str → Option Value} {base : Heap}
theorem sc_in_form : FnScope ["row", "divisor", "first", "one"] ["row"] (defScope (top 27)) := ⟨rfl, rfl, rfl, by decide +kernel, rfl, by decide +kernel, by decide +kernel⟩
theorem ok_in_form (Bl : Bl mg) (h : Has K mg "in_form" (top 27)) : Good P w K mg base 1 "in_form" ["row"] (spF K R_in_form) := by
  obtain ⟨f, fd, F, hm⟩ := h.ex
  refine good_F (k := 0) F hm sc_in_form (F.bindsN fun _ _ _ _ _ _ us hl => match us, hl with | [_], _ => rfl) (fun ds d h => by cases h <;> rfl) fun cdv A outer s H E ds d hr h => ?_
  cases h with
  | mk m hb hk h0 =>
    obtain ⟨a, b, c, d⟩ := m
    have g0 := formG_ne h0
    have gl := (formG_B hb h0).lg ((formG_B hb h0).pos g0) (by omega)
    refine ⟨{}, dss_cons (ds_set (i := 1) sc_in_form.nd rfl (.inr rfl) (de_cf cr_gcd4 Bl.gcd (da_cons (de_ixT (de_var 0 (pv 0) rfl) de_int rfl) (da_cons (de_ixT (de_var 0 (pv 0) rfl) de_int rfl) (da_cons (de_ixT (de_var 0 (pv 0) rfl) de_int rfl) (da_cons (de_ixT (de_var 0 (pv 0) rfl) de_int rfl) da_nil)))) rc_gcd4))
     (dss_cons (S1 := {}) (ds_set (i := 2) (d := .int (firstM ⟨a, b, c, d⟩)) sc_in_form.nd rfl (.inl rfl) (de_ixL (S1 := {})
        (de_lcTi (t := fun i => !decide ((([a, b, c, d] : List Int).getD i 0) = 0)) (v := fun i => .int (([a, b, c, d] : List Int).getD i 0)) rfl sc_in_form.nd (de_var 0 (pv 0) rfl) (blkOk_by (N := ["row", "divisor", "first", "one"]) (sc := defScope (top 27)) (by decide +kernel)) (fun _ _ _ _ _ => pg_name (i := 3) sc_in_form.nd rfl (.inl rfl)) rfl (by show 4 ≤ 50000; decide)
          (fun i hi _ _ _ _ _ => dt_cmp op_ne (de_eq (de_var 3 (pv 3) rfl) (get4 hi)) de_int rv_neI (nomark _)) (fun i hi _ _ _ _ _ _ => de_eq (de_var 3 (pv 3) rfl) (get4 hi)))
        de_int (firstG a b c d h0)))
     (dss_cons (S1 := {}) (ds_set (i := 1) (d := .int (formG ⟨a, b, c, d⟩)) sc_in_form.nd rfl (.inr rfl) (de_if (S1 := {}) (dt_cmp op_gt (de_var 2 (pv 2) rfl) de_int rv_gt (nomark _)) (fun hx => de_eq (de_var 1 (pv 1) rfl) ?_) (fun hx => de_eq (de_neg (de_var 1 (pv 1) rfl)) ?_)))
     (dss_one (ds_ret (de_ct call_tuple_of Bl.tuple (by decide +kernel) (da_cons (de_eq (de_lcT (M := fun _ => {}) (v := fun i => .int ((([a, b, c, d] : List Int).getD i 0).fdiv (formG ⟨a, b, c, d⟩))) rfl sc_in_form.nd (de_var 0 (pv 0) rfl) (blkOk_by (N := ["row", "divisor", "first", "one"]) (sc := defScope (top 27)) (by decide +kernel)) (fun _ _ _ _ _ => pg_name (i := 3) sc_in_form.nd rfl (.inl rfl)) rfl (by show 4 ≤ 50000; decide) (fun _ _ _ _ _ => pts_nil) tst_yes (fun _ _ => Like.rfl') (fun _ _ _ => rfl)
        (fun i hi _ _ _ _ _ _ => de_fdiv (de_eq (de_var 3 (pv 3) rfl) (get4 hi)) (de_var 1 (pv 1) rfl) g0 gl)) (congrArg PyData.list (outs_form ⟨a, b, c, d⟩ _))) da_nil) rc_tupL)))))⟩
    · have hx' := of_decide_eq_true hx
      unfold formG; rw [if_pos hx']; rfl
    · have hx' := of_decide_eq_false hx
      unfold formG; rw [if_neg hx']; rfl
theorem sc_size : FnScope ["m", "a", "b", "c", "d"] ["m"] (defScope (top 28)) := ⟨rfl, rfl, rfl, by decide +kernel, rfl, by decide +kernel, by decide +kernel⟩
theorem mulWB {j k : Nat} {x y : Int} (h : B j x) (g : B k y) (l : j + k ≤ 900000) : CMulW x y := wide_mul (h.mono (Nat.le_succ j)) (g.mono (Nat.le_succ k)) (Nat.succ_pos _) (Nat.succ_pos _) (by omega)
theorem ok_size (h : Has K mg "size" (top 28)) : Good P w K mg base 1 "size" ["m"] (spF K R_size) := by
  obtain ⟨f, fd, F, hm⟩ := h.ex
  refine good_F (k := 0) F hm sc_size (F.bindsN fun _ _ _ _ _ _ us hl => match us, hl with | [_], _ => rfl) (fun ds d h => by cases h <;> rfl) fun cdv A outer s H E ds d hr h => ?_
  cases h with
  | mk m hb hk =>
    exact ⟨{}, (dss_cons (ds_asg (de_var 0 (pv 0) rfl) (dg_tup rfl (dgs_cons (dg_name (i := 1) sc_size.nd rfl (.inl rfl)) (dgs_cons (dg_name (i := 2) sc_size.nd rfl (.inl rfl)) (dgs_cons (dg_name (i := 3) sc_size.nd rfl (.inl rfl)) (dgs_cons (dg_name (i := 4) sc_size.nd rfl (.inl rfl)) dgs_nil))))))
 (dss_one (ds_ret (de_sub (de_mul (de_var 1 (pv 1) rfl) (de_var 4 (pv 4) rfl) (mulWB hb.a hb.d (by omega))) (de_mul (de_var 2 (pv 2) rfl) (de_var 3 (pv 3) rfl) (mulWB hb.b hb.c (by omega)))))))⟩
theorem sc_sum_of : FnScope ["m"] ["m"] (defScope (top 29)) := ⟨rfl, rfl, rfl, by decide +kernel, rfl, by decide +kernel, by decide +kernel⟩
theorem ok_sum_of (h : Has K mg "sum_of" (top 29)) : Good P w K mg base 1 "sum_of" ["m"] (spF K R_sum_of) := by
  obtain ⟨f, fd, F, hm⟩ := h.ex
  refine good_F (k := 0) F hm sc_sum_of (F.bindsN fun _ _ _ _ _ _ us hl => match us, hl with | [_], _ => rfl) (fun ds d h => by cases h <;> rfl) fun cdv A outer s H E ds d hr h => ?_
  cases h with
  | mk m => exact ⟨{}, (dss_one (ds_ret (de_add (de_ixT (de_var 0 (pv 0) rfl) de_int rfl) (de_ixT (de_var 0 (pv 0) rfl) de_int rfl))))⟩
theorem sc_is_move : FnScope ["value"] ["value"] (defScope (top 30)) := ⟨rfl, rfl, rfl, by decide +kernel, rfl, by decide +kernel, by decide +kernel⟩
theorem ok_is_move (h : Has K mg "is_move" (top 30)) (Gr : Good P w K mg base 2 "is_row_of_numbers" ["value", "many"] (spF K R_is_row)) (Gs : Good P w K mg base 1 "size" ["m"] (spF K R_size)) (Gi : Good P w K mg base 1 "in_form" ["row"] (spF K R_in_form)) : Good P w K mg base 3 "is_move" ["value"] (spF K R_is_move) := by
  obtain ⟨f, fd, F, hm⟩ := h.ex
  refine good_F (k := 2) F hm sc_is_move (F.bindsN fun _ _ _ _ _ _ us hl => match us, hl with | [_], _ => rfl) (fun ds d h => by cases h <;> rfl) fun cdv A outer s H E ds d hr h => ?_
  cases h with
  | mk d hl hb =>
    refine ⟨{}, ?_⟩
    by_cases hrow : isRow d 4 = true
    · obtain ⟨m, rfl⟩ := row4 hrow
      have mb := hb m rfl
      refine dss_ifr (x := decide (sizeM m = 0)) (dt_eq (dt_w (dw_or (dt_not (dt_val (de_call Gr hr (da_cons (de_var 0 (pv 0) rfl) (da_cons de_int da_nil)) (.mk _ 4 hl)))) fun hx => (dw_or1 (dt_cmp op_eq (de_call Gs (hr.mono (by decide)) (da_cons (de_var 0 (pv 0) rfl) da_nil) (.mk m mb (by decide))) de_int rv_eqI (nomark _))))) (by rw [hrow]; rfl)) (fun hx => ?_) (fun hx => ?_)
      · refine dss_one (ds_ret (de_eq de_bl ?_))
        rw [isMoveD_eM, decide_eq_false (fun z => z (of_decide_eq_true hx))]; rfl
      · have sz : sizeM m ≠ 0 := of_decide_eq_false hx
        refine dss_one (ds_ret (de_eq (de_cmp (op_eqD hr.units) (de_call Gi (hr.mono (by decide)) (da_cons (de_var 0 (pv 0) rfl) da_nil) (.mk m mb (by decide) (first_ne sz))) (de_var 0 (pv 0) rfl) (rv_eqD (shaped_eM _) (shaped_eM _)) (nomark _)) ?_))
        rw [isMoveD_eM, decide_eq_true sz, eqv_eM]; rfl
    · have hf : isRow d 4 = false := by simpa using hrow
      refine dss_ifr (x := true) (dt_eq (dt_w (dw_or (y := true) (dt_not (dt_val (de_call Gr hr (da_cons (de_var 0 (pv 0) rfl) (da_cons de_int da_nil)) (.mk _ 4 hl)))) fun hx => by rw [hf] at hx; cases hx)) (by rw [hf]; rfl)) (fun hx => dss_one (ds_ret (de_eq de_bl (by rw [isMove_row hf])))) (fun hx => by cases hx)
theorem sc_after : FnScope ["one", "other", "a", "b", "c", "d", "e", "f", "g", "h"] ["one", "other"] (defScope (top 31)) := ⟨rfl, rfl, rfl, by decide +kernel, rfl, by decide +kernel, by decide +kernel⟩
theorem ok_after (h : Has K mg "after" (top 31)) (Gi : Good P w K mg base 1 "in_form" ["row"] (spF K R_in_form)) : Good P w K mg base 2 "after" ["one", "other"] (spF K R_after) := by
  obtain ⟨f, fd, F, hm⟩ := h.ex
  refine good_F (k := 1) F hm sc_after (F.bindsN fun _ _ _ _ _ _ us hl => match us, hl with | [_, _], _ => rfl) (fun ds d h => by cases h <;> rfl) fun cdv A outer s H E ds d hr h => ?_
  cases h with
  | mk m n hj hk hl sm sn =>
    exact ⟨{}, (dss_cons (ds_asg (de_var 0 (pv 0) rfl) (dg_tup rfl (dgs_cons (dg_name (i := 2) sc_after.nd rfl (.inl rfl)) (dgs_cons (dg_name (i := 3) sc_after.nd rfl (.inl rfl)) (dgs_cons (dg_name (i := 4) sc_after.nd rfl (.inl rfl)) (dgs_cons (dg_name (i := 5) sc_after.nd rfl (.inl rfl)) dgs_nil))))))
 (dss_cons (ds_asg (de_var 1 (pv 1) rfl) (dg_tup rfl (dgs_cons (dg_name (i := 6) sc_after.nd rfl (.inl rfl)) (dgs_cons (dg_name (i := 7) sc_after.nd rfl (.inl rfl)) (dgs_cons (dg_name (i := 8) sc_after.nd rfl (.inl rfl)) (dgs_cons (dg_name (i := 9) sc_after.nd rfl (.inl rfl)) dgs_nil))))))
 (dss_one (ds_ret (de_call Gi hr (da_cons (de_tup (da_cons (de_add (de_mul (de_var 2 (pv 2) rfl) (de_var 6 (pv 6) rfl) (mulWB hj.a hk.a (by omega))) (de_mul (de_var 3 (pv 3) rfl) (de_var 8 (pv 8) rfl) (mulWB hj.b hk.c (by omega)))) (da_cons (de_add (de_mul (de_var 2 (pv 2) rfl) (de_var 7 (pv 7) rfl) (mulWB hj.a hk.b (by omega))) (de_mul (de_var 3 (pv 3) rfl) (de_var 9 (pv 9) rfl) (mulWB hj.b hk.d (by omega)))) (da_cons (de_add (de_mul (de_var 4 (pv 4) rfl) (de_var 6 (pv 6) rfl) (mulWB hj.c hk.a (by omega))) (de_mul (de_var 5 (pv 5) rfl) (de_var 8 (pv 8) rfl) (mulWB hj.d hk.c (by omega)))) (da_cons (de_add (de_mul (de_var 4 (pv 4) rfl) (de_var 7 (pv 7) rfl) (mulWB hj.c hk.b (by omega))) (de_mul (de_var 5 (pv 5) rfl) (de_var 9 (pv 9) rfl) (mulWB hj.d hk.d (by omega)))) da_nil)))) (by show 4 ≤ 100000; decide)) da_nil) (R_in_form.mk (mulM m n) (hj.mul hk) (by omega) (first_ne (by rw [size_mul]; exact Int.mul_ne_zero sm sn))))))))⟩
theorem sc_back : FnScope ["m", "a", "b", "c", "d"] ["m"] (defScope (top 32)) := ⟨rfl, rfl, rfl, by decide +kernel, rfl, by decide +kernel, by decide +kernel⟩
theorem ok_back (h : Has K mg "back" (top 32)) (Gi : Good P w K mg base 1 "in_form" ["row"] (spF K R_in_form)) : Good P w K mg base 2 "back" ["m"] (spF K R_back) := by
  obtain ⟨f, fd, F, hm⟩ := h.ex
  refine good_F (k := 1) F hm sc_back (F.bindsN fun _ _ _ _ _ _ us hl => match us, hl with | [_], _ => rfl) (fun ds d h => by cases h <;> rfl) fun cdv A outer s H E ds d hr h => ?_
  cases h with
  | mk m hk hl sm =>
    exact ⟨{}, (dss_cons (ds_asg (de_var 0 (pv 0) rfl) (dg_tup rfl (dgs_cons (dg_name (i := 1) sc_back.nd rfl (.inl rfl)) (dgs_cons (dg_name (i := 2) sc_back.nd rfl (.inl rfl)) (dgs_cons (dg_name (i := 3) sc_back.nd rfl (.inl rfl)) (dgs_cons (dg_name (i := 4) sc_back.nd rfl (.inl rfl)) dgs_nil))))))
 (dss_one (ds_ret (de_call Gi hr (da_cons (de_tup (da_cons (de_var 4 (pv 4) rfl) (da_cons (de_neg (de_var 2 (pv 2) rfl)) (da_cons (de_neg (de_var 3 (pv 3) rfl)) (da_cons (de_var 1 (pv 1) rfl) da_nil)))) (by show 4 ≤ 100000; decide)) da_nil) (R_in_form.mk (adjM m) hk.adj (by omega) (first_ne (by rw [size_adj]; exact sm)))))))⟩
theorem sc_is_whole : FnScope ["m"] ["m"] (defScope (top 46)) := ⟨rfl, rfl, rfl, by decide +kernel, rfl, by decide +kernel, by decide +kernel⟩
theorem whole_in (z : Int) : decide (z ∈ ([1, -1] : List Int)) = (z == 1 || z == -1) := by
  by_cases h : z = 1 <;> by_cases g : z = -1 <;> simp [h, g]
theorem ok_is_whole (h : Has K mg "is_whole" (top 46)) (Gs : Good P w K mg base 1 "size" ["m"] (spF K R_size)) : Good P w K mg base 2 "is_whole" ["m"] (spF K R_is_whole) := by
  obtain ⟨f, fd, F, hm⟩ := h.ex
  refine good_F (k := 1) F hm sc_is_whole (F.bindsN fun _ _ _ _ _ _ us hl => match us, hl with | [_], _ => rfl) (fun ds d h => by cases h <;> rfl) fun cdv A outer s H E ds d hr h => ?_
  cases h with
  | mk m hk hl =>
    exact ⟨{}, dss_one (ds_ret (de_eq (de_cmp op_in_seq (de_call Gs hr (da_cons (de_var 0 (pv 0) rfl) da_nil) (.mk m hk hl)) (de_tup (da_cons de_int (da_cons (de_neg de_int) da_nil)) (by show 2 ≤ 100000; decide)) (rv_in (ns := [1, -1]) (.inr rfl)) (by rfl)) (congrArg PyData.bool (whole_in _))))⟩
theorem sc_told_by : FnScope ["t", "m"] ["t", "m"] (defScope (top 47)) := ⟨rfl, rfl, rfl, by decide +kernel, rfl, by decide +kernel, by decide +kernel⟩
theorem ok_told_by (h : Has K mg "told_by" (top 47)) (Ga : Good P w K mg base 2 "after" ["one", "other"] (spF K R_after)) (Gb : Good P w K mg base 2 "back" ["m"] (spF K R_back)) : Good P w K mg base 3 "told_by" ["t", "m"] (spF K R_told) := by
  obtain ⟨f, fd, F, hm⟩ := h.ex
  refine good_F (k := 2) F hm sc_told_by (F.bindsN fun _ _ _ _ _ _ us hl => match us, hl with | [_, _], _ => rfl) (fun ds d h => by cases h <;> rfl) fun cdv A outer s H E ds d hr h => ?_
  cases h with
  | mk t m ht hk hl st sm =>
    exact ⟨{}, (dss_one (ds_ret (de_call Ga hr (da_cons (de_call Gb hr (da_cons (de_var 0 (pv 0) rfl) da_nil) (.mk t ht (by omega) st)) (da_cons (de_call Ga hr (da_cons (de_var 1 (pv 1) rfl) (da_cons (de_var 0 (pv 0) rfl) da_nil)) (.mk m t hk ht (by omega) sm st)) da_nil)) (.mk _ _ (ht.back st) (hk.after ht sm st) (by omega) (size_back_ne st) (size_after_ne sm st)))))⟩
end
end Bm
namespace Bm
open PySem PySem.Spec PyProof.Rows L2 G
def isLetD (n : Nat) : PyData → Bool
  | .tuple [.int k, .int s] => (decide ((0 : Int) ≤ k) && decide (k < (n : Int))) && decide (s ∈ ([1, -1] : List Int))
  | _ => false
def isWordD (n : Nat) : PyData → Bool
  | .tuple ds => ds.all (isLetD n)
  | _ => false
abbrev Sm1 (d : PyData) : Prop := ∀ ds, d = .tuple ds → ds.length ≤ 50000
abbrev Sm2 (d : PyData) : Prop := Sm1 d ∧ ∀ ds, d = .tuple ds → ∀ x ∈ ds, Sm1 x
inductive R_is_letter : List PyData → PyData → Prop
  | mk (d : PyData) (n : Nat) (hl : Sm1 d) : R_is_letter [d, .int n] (.bool (isLetD n d))
inductive R_is_word : List PyData → PyData → Prop
  | mk (d : PyData) (n : Nat) (hl : Sm2 d) : R_is_word [d, .int n] (.bool (isWordD n d))
/-- moves of bounded size -/
structure MsOk (k : Nat) (ms : List M4) : Prop where
  b : ∀ m ∈ ms, MB k m
  s : ∀ m ∈ ms, sizeM m ≠ 0
def LetOk (n : Nat) (l : Int × Int) : Prop := 0 ≤ l.1 ∧ l.1 < n ∧ (l.2 = 1 ∨ l.2 = -1)
abbrev eMs (ms : List M4) : List PyData := ms.map fun m => eM m
inductive R_word_move : List PyData → PyData → Prop
  | mk (d : PyData) (ms : List M4) (w : Wd) (hd : d = .list (eMs ms) ∨ d = .tuple (eMs ms)) (hm : MsOk 60 ms) (hl : ms.length ≤ 100) (hw : ∀ l ∈ w, LetOk ms.length l) (hwl : w.length ≤ 20) : R_word_move [d, eW w] (eM (wordM ms w))
theorem getD_ms {ms : List M4} {k : Int} (h0 : 0 ≤ k) (h1 : k < ms.length) : ms.getD k.toNat idM ∈ ms := by
  have : k.toNat < ms.length := by omega
  rw [List.getD_eq_getElem?_getD, List.getElem?_eq_getElem this]
  exact List.getElem_mem this
theorem atI_nat {α : Type} {xs : List α} {j : Nat} : atI xs (j : Int) = xs[j]? := by
  unfold atI ixN
  rw [if_pos (by omega)]
  by_cases h : j < xs.length
  · rw [if_pos (by omega)]; rfl
  · rw [if_neg (by omega), List.getElem?_eq_none (by omega)]; rfl
theorem get_ms {ms : List M4} {j : Nat} (h : j < ms.length) : (eMs ms)[j]? = some (eM (ms.getD j idM)) := by
  rw [List.getD_eq_getElem?_getD, List.getElem?_map, List.getElem?_eq_getElem h]; rfl
theorem atI_ms {ms : List M4} {k : Int} (h0 : 0 ≤ k) (h1 : k < ms.length) : atI (eMs ms) k = some (eM (ms.getD k.toNat idM)) := by
  have e : k = (k.toNat : Int) := by omega
  conv => lhs; rw [e]
  rw [atI_nat, get_ms (by omega)]
theorem MsOk.at {k : Nat} {ms : List M4} (h : MsOk k ms) {i : Int} (h0 : 0 ≤ i) (h1 : i < ms.length) : MB k (ms.getD i.toNat idM) ∧ sizeM (ms.getD i.toNat idM) ≠ 0 := ⟨h.b _ (getD_ms h0 h1), h.s _ (getD_ms h0 h1)⟩
theorem let_ok {k : Nat} {ms : List M4} (h : MsOk k ms) {l : Int × Int} (hl : LetOk ms.length l) : MB k (letM ms l) ∧ sizeM (letM ms l) ≠ 0 := by
  obtain ⟨h1, h2⟩ := h.at hl.1 hl.2.1
  unfold letM
  split
  · exact ⟨h1, h2⟩
  · exact ⟨h1.back h2, size_back_ne h2⟩
theorem id_ok : MB 1 idM ∧ sizeM idM ≠ 0 := ⟨⟨by show (1 : Nat) < 2 ^ 1; decide, by show (0 : Nat) < 2 ^ 1; decide, by show (0 : Nat) < 2 ^ 1; decide, by show (1 : Nat) < 2 ^ 1; decide⟩, by decide⟩
/-- the word's first i letters -/
def wordP (ms : List M4) (w : Wd) (i : Nat) : M4 := wordM ms (w.take i)
theorem wordP_succ (ms : List M4) (w : Wd) {i : Nat} (h : i < w.length) : wordP ms w (i + 1) = afterM (wordP ms w i) (letM ms (w.getD i (0, 0))) := by
  unfold wordP wordM
  rw [List.take_succ_eq_append_getElem h, List.foldl_append, List.getD_eq_getElem?_getD, List.getElem?_eq_getElem h]; rfl
theorem wordP_ok {k : Nat} {ms : List M4} (h : MsOk k ms) {w : Wd} (hw : ∀ l ∈ w, LetOk ms.length l) : ∀ {i : Nat}, i ≤ w.length → MB ((k + 1) * i + 1) (wordP ms w i) ∧ sizeM (wordP ms w i) ≠ 0
  | 0, _ => by unfold wordP wordM; rw [List.take_zero]; exact id_ok
  | i + 1, hi => by
    obtain ⟨a, b⟩ := wordP_ok h hw (i := i) (by omega)
    have hm : w.getD i (0, 0) ∈ w := by
      rw [List.getD_eq_getElem?_getD, List.getElem?_eq_getElem (by omega)]; exact List.getElem_mem _
    obtain ⟨c, d⟩ := let_ok h (hw _ hm)
    rw [wordP_succ ms w (by omega)]
    refine ⟨(a.after c b d).mono ?_, size_after_ne b d⟩
    grind
theorem letD_of {n : Nat} {d : PyData} (h : isRow d 2 = true) : ∃ l : Int × Int, d = .tuple [.int l.1, .int l.2] := by
  cases d with
  | tuple ds =>
    have h' : (decide (ds.length = 2) && ds.all isNum) = true := h
    obtain ⟨h1, h2⟩ := Bool.and_eq_true_iff.mp h'
    have h3 := of_decide_eq_true h1
    match ds, h3, h2 with
    | [x, y], _, h2 =>
      simp only [List.all_cons, List.all_nil, Bool.and_eq_true, Bool.and_true] at h2
      obtain ⟨ha, hb⟩ := h2
      obtain ⟨a, rfl⟩ := int_of ha
      obtain ⟨b, rfl⟩ := int_of hb
      exact ⟨(a, b), rfl⟩
  | _ => cases h
theorem isLet_row {n : Nat} {d : PyData} (h : isRow d 2 = false) : isLetD n d = false := by
  unfold isLetD
  split
  · cases h
  · rfl
theorem wrd_get {w : Wd} {i : Nat} {x : PyData} (h : (w.map fun l => PyData.tuple [.int l.1, .int l.2])[i]? = some x) : i < w.length ∧ w.getD i (0, 0) ∈ w ∧ x = .tuple [.int (w.getD i (0, 0)).1, .int (w.getD i (0, 0)).2] := by
  have hl : i < w.length := by
    rcases Nat.lt_or_ge i w.length with z | z
    · exact z
    · rw [List.getElem?_eq_none (by simpa using z)] at h; cases h
  rw [List.getElem?_map, List.getElem?_eq_getElem hl] at h
  rw [List.getD_eq_getElem?_getD, List.getElem?_eq_getElem hl]
  exact ⟨hl, List.getElem_mem _, by cases h; rfl⟩
section
variable {P : Program} {w : World} {K : PySem.W.Frag} {mg : Str → Option Value} {base : Heap}
theorem sc_is_letter : FnScope ["value", "many", "one"] ["value", "many"] (defScope (top 50)) := ⟨rfl, rfl, rfl, by decide +kernel, rfl, by decide +kernel, by decide +kernel⟩
theorem ok_is_letter (Bl : Bl mg) (h : Has K mg "is_letter" (top 50)) (Gn : Good P w K mg base 1 "is_number" ["value"] (spF K R_is_number)) : Good P w K mg base 2 "is_letter" ["value", "many"] (spF K R_is_letter) := by
  obtain ⟨f, fd, F, hm⟩ := h.ex
  refine good_F (k := 1) F hm sc_is_letter (F.bindsN fun _ _ _ _ _ _ us hl => match us, hl with | [_, _], _ => rfl) (fun ds d h => by cases h <;> rfl) fun cdv A outer s H E ds d hr h => ?_
  cases h with
  | mk d n hl =>
    refine ⟨{}, ?_⟩
    by_cases ht : isTupN d = true
    · obtain ⟨ds, rfl⟩ : ∃ ds, d = .tuple ds := by cases d <;> first | exact ⟨_, rfl⟩ | cases ht
      have hl' := hl _ rfl
      refine dss_ifr (x := !isRow (.tuple ds) 2) (dt_eq (dt_w (dw_or (dt_not (dt_val (de_isi (de_var 0 (pv 0) rfl) (kit_tup _) Bl.isinstance Bl.tuple (by decide +kernel)))) fun hx => (dw_or (dt_cmp op_ne (de_cb call_len_seq Bl.len (by decide +kernel) (da_cons (de_var 0 (pv 0) rfl) da_nil) (rc_len (.inr rfl))) de_int rv_neI (nomark _)) fun hx => (dw_or1 (dt_not (dt_val (de_cb (cr_all rfl) Bl.all (by decide +kernel) (da_cons (de_eq (de_lcT0 (v := fun i => .bool (isNum (ds.getD i .none))) rfl sc_is_letter.nd (de_var 0 (pv 0) rfl) (blkOk_by (N := ["value", "many", "one"]) (sc := defScope (top 50)) (by decide +kernel)) (fun _ _ _ _ _ => pg_name (i := 2) sc_is_letter.nd rfl (.inl rfl)) rfl hl'
          (fun i hi _ _ _ _ _ => (de_call Gn hr (da_cons (de_var 2 (pv 2) rfl) da_nil) (.mk _)))) (congrArg PyData.list (outs_bool _ _))) da_nil) rc_all))))))) ?_) (fun hx => ?_) (fun hx => ?_)
      · rw [outs_all]
        show (!true || ((!decide ((ds.length : Int) = 2)) || !ds.all isNum)) = !(decide (ds.length = 2) && ds.all isNum)
        rw [Bool.not_and, Bool.not_true, Bool.false_or]
        congr 2
        exact decide_eq_decide.mpr ⟨fun z => by omega, fun z => by omega⟩
      · refine dss_one (ds_ret (de_eq de_bl ?_))
        rw [isLet_row (by simpa using hx)]
      · obtain ⟨⟨a, b⟩, e⟩ := letD_of (n := n) (d := .tuple ds) (by simpa using hx)
        cases e
        exact (dss_one (ds_ret (de_and (de_chain op_le op_lt de_int (de_ixT (de_var 0 (pv 0) rfl) de_int rfl) (de_var 1 (pv 1) rfl) rv_le (fun hx => rv_lt)) fun hx => (de_one (de_cmp op_in_seq (de_ixT (de_var 0 (pv 0) rfl) de_int rfl) (de_tup (da_cons de_int (da_cons (de_neg de_int) da_nil)) (by show 2 ≤ 100000; decide)) (rv_in (ns := [1, -1]) (.inr rfl)) (by rfl))))))
    · have hf : isTupN d = false := by simpa using ht
      have hf2 : isLetD n d = false := by cases d <;> first | rfl | exact absurd rfl ht
      refine dss_ifr (x := true) (dt_eq (dt_w (dw_or (y := true) (dt_not (dt_val (de_isi (de_var 0 (pv 0) rfl) (kit_tup _) Bl.isinstance Bl.tuple (by decide +kernel)))) fun hx => by rw [hf] at hx; cases hx)) (by rw [hf]; rfl)) (fun hx => dss_one (ds_ret (de_eq de_bl (by rw [hf2])))) (fun hx => by cases hx)
theorem sc_is_word : FnScope ["value", "many", "one"] ["value", "many"] (defScope (top 51)) := ⟨rfl, rfl, rfl, by decide +kernel, rfl, by decide +kernel, by decide +kernel⟩
theorem ok_is_word (Bl : Bl mg) (h : Has K mg "is_word" (top 51)) (Gn : Good P w K mg base 2 "is_letter" ["value", "many"] (spF K R_is_letter)) : Good P w K mg base 3 "is_word" ["value", "many"] (spF K R_is_word) := by
  obtain ⟨f, fd, F, hm⟩ := h.ex
  refine good_F (k := 2) F hm sc_is_word (F.bindsN fun _ _ _ _ _ _ us hl => match us, hl with | [_, _], _ => rfl) (fun ds d h => by cases h <;> rfl) fun cdv A outer s H E ds d hr h => ?_
  cases h with
  | mk d n hl =>
    refine ⟨{}, ?_⟩
    by_cases ht : isTupN d = true
    · obtain ⟨ds, rfl⟩ : ∃ ds, d = .tuple ds := by cases d <;> first | exact ⟨_, rfl⟩ | cases ht
      have hl' := hl.1 _ rfl
      have e : isWordD n (.tuple ds) = (true && ((List.range ds.length).map fun i => isLetD n (ds.getD i .none)).all id) := by rw [outs_all]; rfl
      rw [e]
      refine (dss_one (ds_ret (de_and (de_isi (de_var 0 (pv 0) rfl) (kit_tup _) Bl.isinstance Bl.tuple (by decide +kernel)) fun hx => (de_one (de_cb (cr_all rfl) Bl.all (by decide +kernel) (da_cons (de_eq (de_lcT0 (v := fun i => .bool (isLetD n (ds.getD i .none))) rfl sc_is_word.nd (de_var 0 (pv 0) rfl) (blkOk_by (N := ["value", "many", "one"]) (sc := defScope (top 51)) (by decide +kernel)) (fun _ _ _ _ _ => pg_name (i := 2) sc_is_word.nd rfl (.inl rfl)) rfl hl'
        (fun i hi _ _ _ _ _ => (de_call Gn hr (da_cons (de_var 2 (pv 2) rfl) (da_cons (de_var 1 (pv 1) rfl) da_nil)) (.mk _ n (hl.2 _ rfl _ ?_))))) (congrArg PyData.list (outs_bool _ _))) da_nil) rc_all)))))
      rw [List.getD_eq_getElem?_getD, List.getElem?_eq_getElem hi]; exact List.getElem_mem _
    · have hf : isTupN d = false := by simpa using ht
      have e : isWordD n d = (isTupN d && false) := by cases d <;> first | rfl | exact absurd rfl ht
      rw [e]
      exact (dss_one (ds_ret (de_and (de_isi (de_var 0 (pv 0) rfl) (kit_tup _) Bl.isinstance Bl.tuple (by decide +kernel)) fun hx => absurd hx ht)))
theorem sc_word_move : FnScope ["moves", "word", "found", "k", "s"] ["moves", "word"] (defScope (top 52)) := ⟨rfl, rfl, rfl, by decide +kernel, rfl, by decide +kernel, by decide +kernel⟩
def wdR (d : PyData) (ms : List M4) (w : Wd) (i : Nat) : Rho := [.dat d, .dat (eW w), .dat (eM (wordP ms w i)), if i = 0 then .no else .dat (.int (w.getD (i - 1) (0, 0)).1), if i = 0 then .no else .dat (.int (w.getD (i - 1) (0, 0)).2)]
theorem ok_word_move (Bl : Bl mg) (C : Cst K mg) (h : Has K mg "word_move" (top 52)) (Ga : Good P w K mg base 2 "after" ["one", "other"] (spF K R_after)) (Gb : Good P w K mg base 2 "back" ["m"] (spF K R_back)) : Good P w K mg base 3 "word_move" ["moves", "word"] (spF K R_word_move) := by
  obtain ⟨f, fd, F, hm⟩ := h.ex
  obtain ⟨aS, mS, rS⟩ := C.ex "STILL" (.tuple [.int 1, .int 0, .int 0, .int 1]) (by simp)
  refine good_F (k := 2) F hm sc_word_move (F.bindsN fun _ _ _ _ _ _ us hl => match us, hl with | [_, _], _ => rfl) (fun ds d h => by cases h <;> rfl) fun cdv A outer s H E ds d hr h => ?_
  cases h with
  | mk d ms wd hd hm hl hw hwl =>
    refine ⟨{}, dss_cons (ds_set (i := 2) (d := eM idM) sc_word_move.nd rfl (.inl rfl) (de_glob (v := .ref aS) rfl mS rfl rS)) (dss_forT (xs := wd.map fun l => PyData.tuple [.int l.1, .int l.2]) rfl PassesOwn.never (de_var 1 (pv 1) rfl) (wdR d ms wd) (fun i => [.dat d, .dat (eW wd), .dat (eM (wordP ms wd i)), .dat (.int (wd.getD i (0, 0)).1), .dat (.int (wd.getD i (0, 0)).2)]) (fun _ => {}) rfl rfl (fun i x hx => ?_) (fun i hi => ?_) ?_)⟩
    · obtain ⟨h1, h2, rfl⟩ := wrd_get hx
      cases i <;> exact (dg_tup rfl (dgs_cons (dg_name (i := 3) sc_word_move.nd rfl (.inl rfl)) (dgs_cons (dg_name (i := 4) sc_word_move.nd rfl (.inl rfl)) dgs_nil)))
    · have hi' : i < wd.length := by simpa using hi
      have hmem : wd.getD i (0, 0) ∈ wd := by rw [List.getD_eq_getElem?_getD, List.getElem?_eq_getElem hi']; exact List.getElem_mem _
      have hlt := hw _ hmem
      obtain ⟨b1, s1⟩ := hm.at hlt.1 hlt.2.1
      obtain ⟨b2, s2⟩ := let_ok hm hlt
      obtain ⟨b3, s3⟩ := wordP_ok hm hw (i := i) (by omega)
      refine dss_nx (dss_one (ds_set (i := 2) sc_word_move.nd rfl (.inl rfl) (de_call Ga hr (da_cons (de_var 2 (pv 2) rfl) (da_cons (de_if (S1 := {}) (d := eM (letM ms (wd.getD i (0, 0)))) (dt_cmp op_eq (de_var 4 (pv 4) rfl) de_int rv_eqI (nomark _)) (fun hx => ?_) (fun hx => ?_)) da_nil)) (.mk _ _ b3 b2 (by have : (60 + 1) * i ≤ 61 * 20 := Nat.mul_le_mul_left _ (by omega); omega) s3 s2)))) ?_
      · have e1 : (wd.getD i (0, 0)).2 = 1 := of_decide_eq_true hx
        unfold letM
        rw [if_pos e1]
        rcases hd with rfl | rfl
        · exact (de_ixL (de_var 0 (pv 0) rfl) (de_var 3 (pv 3) rfl) (atI_ms hlt.1 hlt.2.1))
        · exact (de_ixT (de_var 0 (pv 0) rfl) (de_var 3 (pv 3) rfl) (atI_ms hlt.1 hlt.2.1))
      · have e1 : ¬ (wd.getD i (0, 0)).2 = 1 := of_decide_eq_false hx
        unfold letM
        rw [if_neg e1]
        refine de_call Gb hr (da_cons ?_ da_nil) (.mk _ b1 (by decide) s1)
        rcases hd with rfl | rfl
        · exact (de_ixL (de_var 0 (pv 0) rfl) (de_var 3 (pv 3) rfl) (atI_ms hlt.1 hlt.2.1))
        · exact (de_ixT (de_var 0 (pv 0) rfl) (de_var 3 (pv 3) rfl) (atI_ms hlt.1 hlt.2.1))
      · unfold wdR
        rw [wordP_succ ms wd hi']
        rfl
    · refine dss_one (ds_ret (de_eq (de_var 2 (pv 2) rfl) ?_))
      unfold wordP
      rw [List.take_of_length_le (by simp)]
end
end Bm
namespace Bm
open PySem PySem.Spec PyProof.Rows L2 G
theorem eqv_eF (x y : Rat) : PyData.eqv (eF x) (eF y) = decide (x = y) := by
  show (decide (x.num = y.num) && (decide ((x.den : Int) = (y.den : Int)) && true)) = _
  rw [Bool.and_true, ← Bool.decide_and]
  refine decide_eq_decide.mpr ⟨fun h => Rat.ext h.1 (by have := h.2; omega), fun h => by rw [h]; exact ⟨rfl, rfl⟩⟩
theorem eqv_eB (x y : Bq) : PyData.eqv (eB x) (eB y) = decide (x = y) := by
  show (decide (x.n = y.n) && (PyData.eqv (eF x.q) (eF y.q) && true)) = _
  rw [eqv_eF, Bool.and_true, ← Bool.decide_and]
  obtain ⟨a, b⟩ := x
  obtain ⟨c, d⟩ := y
  simp
theorem smallB {z : Int} {k : Nat} (h : z.natAbs < k) (hk : k ≤ 2 ^ 40) : B 40 z := Nat.lt_of_lt_of_le h hk
inductive R_least : List PyData → PyData → Prop
  | mk (p : Nat) (β γ : Bq) {k l k' l' : Nat} (hp : IsP p) (hb : BB p k l β) (hc : BB p k' l' γ) (hl : k + l + (k' + l') ≤ 3000) : R_least [.int p, eB β, eB γ] (eB (ballQ p (topQ p β γ) β.q))
inductive R_has_more : List PyData → PyData → Prop
  | mk (p : Nat) (x y : Rat) (hp : IsP p) : R_has_more [.int p, eF x, eF y] (.bool (hasMore p x y))
inductive R_ball_of : List PyData → PyData → Prop
  | mk (p : Nat) (u v : Rat × Rat) {C D : Nat} (hp : IsP p) (c : ColOk p C D u v) (hl : D + 4 * C ≤ 8000) (hC : C ≤ 1700) :
    R_ball_of [.int p, .tuple [eF u.1, eF u.2], .tuple [eF v.1, eF v.2]] (eB (if hasMore p v.2 u.2 = true then ballC p v u else ballC p u v))
inductive R_led : List PyData → PyData → Prop
  | mk (p : Nat) (m : M4) (β : Bq) {a k l : Nat} (hp : IsP p) (hm : MB a m) (sm : sizeM m ≠ 0) (hb : BB p k l β) (hl : 2 * a + 1 + k + 4 * (a + (k + l) + 1) ≤ 6000) : R_led [.int p, eM m, eB β] (eB (ledQ p m β))
inductive R_steps : List PyData → PyData → Prop
  | mk (p : Nat) (β γ : Bq) {k l k' l' : Nat} (hp : IsP p) (hb : BB p k l β) (hc : BB p k' l' γ) (hl : k + l + (k' + l') ≤ 3000) : R_steps [.int p, eB β, eB γ] (.int (stepsQ p β γ))
inductive R_on_road : List PyData → PyData → Prop
  | mk (p : Nat) (β γ : Bq) (i : Int) {k l k' l' : Nat} (hp : IsP p) (hb : BB p k l β) (hc : BB p k' l' γ) (hl : k + l + (k' + l') ≤ 3000)
    (h1 : i ≤ β.n - topQ p β γ → BallOk p (β.n - i) β.q) (h2 : ¬ i ≤ β.n - topQ p β γ → BallOk p (topQ p β γ + i - (β.n - topQ p β γ)) γ.q) : R_on_road [.int p, eB β, eB γ, .int i] (eB (onRoadQ p β γ i))
inductive R_stretch : List PyData → PyData → Prop
  | mk (p : Nat) (m : M4) {k : Nat} (hp : IsP p) (hm : MB k m) (sm : sizeM m ≠ 0) (hl : k ≤ 4000) : R_stretch [.int p, eM m] (.int (stretchQ p m))
inductive R_resting : List PyData → PyData → Prop
  | mk (p : Nat) (m : M4) {a : Nat} (hp : IsP p) (hm : MB a m) (sm : sizeM m ≠ 0) (ha : a ≤ 100) : R_resting [.int p, eM m, eB start0] (eB (restQ p m start0))
noncomputable def kindD (p : Nat) (m : M4) : PyData :=
  if 0 < stretchQ p m then .tuple [.str "stretches", .int (stretchQ p m), eB (restQ p m start0)]
  else if restQ p m start0 = ledQ p m (restQ p m start0) then .tuple [.str "keeps", eB (restQ p m start0)]
  else if (restQ p m start0).n < (ledQ p m (restQ p m start0)).n then .tuple [.str "exchanges", eB (restQ p m start0), eB (ledQ p m (restQ p m start0))]
  else .tuple [.str "exchanges", eB (ledQ p m (restQ p m start0)), eB (restQ p m start0)]
inductive R_kind : List PyData → PyData → Prop
  | mk (p : Nat) (m : M4) {a : Nat} (hp : IsP p) (hm : MB a m) (sm : sizeM m ≠ 0) (ha : a ≤ 100) : R_kind [.int p, eM m] (kindD p m)
inductive R_keeps : List PyData → PyData → Prop
  | mk (p : Nat) (m : M4) {a : Nat} (hp : IsP p) (hm : MB a m) (sm : sizeM m ≠ 0) (ha : a ≤ 100) : R_keeps [.int p, eM m] (.bool (keepsP p m))
section
variable {P : Program} {w : World} {K : PySem.W.Frag} {mg : Str → Option Value} {base : Heap}
theorem sc_least_about : FnScope ["p", "one", "other", "left", "n"] ["p", "one", "other"] (defScope (top 25)) := ⟨rfl, rfl, rfl, by decide +kernel, rfl, by decide +kernel, by decide +kernel⟩
theorem ok_least_about (Bl : Bl mg) (C : Cst K mg) (h : Has K mg "least_about" (top 25)) (Gm : Good P w K mg base 2 "minus" ["x", "y"] (spF K R_minus)) (Gp : Good P w K mg base 2 "parts" ["p", "x"] (spF K R_parts)) (Gb : Good P w K mg base 4 "ball" ["p", "n", "x"] (spF K R_ball)) : Good P w K mg base 5 "least_about" ["p", "one", "other"] (spF K R_least) := by
  obtain ⟨f, fd, F, hm⟩ := h.ex
  obtain ⟨aZ, mZ, rZ⟩ := C.ex "ZERO" (.tuple [.int 0, .int 1]) (by simp)
  refine good_F (k := 4) F hm sc_least_about (F.bindsN fun _ _ _ _ _ _ us hl => match us, hl with | [_, _, _], _ => rfl) (fun ds d h => by cases h <;> rfl) fun cdv A outer s H E ds d hr h => ?_
  cases h with
  | mk p β γ hp hb hc hl =>
    rename_i k l k' l'
    have hT := top_B hp hb hc
    refine ⟨{}, (dss_cons (ds_par (i := 3) (j := 4) rfl sc_least_about.nd rfl rfl (by decide) rfl rfl (da_cons (de_call Gm (hr.mono (by decide)) (da_cons (de_ixT (de_var 1 (pv 1) rfl) de_int rfl) (da_cons (de_ixT (de_var 2 (pv 2) rfl) de_int rfl) da_nil)) (.mk β.q γ.q hb.hr hc.hr (by omega))) (da_cons (de_cb (call_min2 rfl) Bl.min (by decide +kernel) (da_cons (de_ixT (de_var 1 (pv 1) rfl) de_int rfl) (da_cons (de_ixT (de_var 2 (pv 2) rfl) de_int rfl) da_nil)) rc_min) da_nil)) (by rfl))
     (dss_one (ds_ret (de_call Gb hr (da_cons (de_var 0 (pv 0) rfl) (da_cons (de_if (S1 := {}) (d := .int (topQ p β γ)) (x := decide (β.q - γ.q = 0)) (dt_eq (dt_cmp (op_eqD hr.units) (de_var 3 (pv 3) rfl) (de_glob (d := eF 0) (v := .ref aZ) rfl mZ rfl rZ) (rv_eqD rfl rfl) (nomark _)) (eqv_eF _ _)) (fun hx => de_eq (de_var 4 (pv 4) rfl) ?_) (fun hx => ?_)) (da_cons (de_ixT (de_var 1 (pv 1) rfl) de_int rfl) da_nil))) (.mk p _ β.q (ballOk_of hp hT hb.den (hb.hr.mono (by omega)) (by omega)))))))⟩
    · have := of_decide_eq_true hx
      unfold topQ; rw [if_pos this]
    · have hne := of_decide_eq_false hx
      refine de_eq (de_cb (call_min2 rfl) Bl.min (by decide +kernel) (da_cons (de_var 4 (pv 4) rfl) (da_cons (de_call Gp (hr.mono (by decide)) (da_cons (de_var 0 (pv 0) rfl) (da_cons (de_var 3 (pv 3) rfl) da_nil)) (.mk p _ hp hne)) da_nil)) rc_min) ?_
      unfold topQ; rw [if_neg hne]
theorem sc_has_more : FnScope ["p", "x", "y"] ["p", "x", "y"] (defScope (top 34)) := ⟨rfl, rfl, rfl, by decide +kernel, rfl, by decide +kernel, by decide +kernel⟩
theorem ok_has_more (Bl : Bl mg) (h : Has K mg "has_more" (top 34)) (Gp : Good P w K mg base 2 "parts" ["p", "x"] (spF K R_parts)) : Good P w K mg base 3 "has_more" ["p", "x", "y"] (spF K R_has_more) := by
  obtain ⟨f, fd, F, hm⟩ := h.ex
  refine good_F (k := 2) F hm sc_has_more (F.bindsN fun _ _ _ _ _ _ us hl => match us, hl with | [_, _, _], _ => rfl) (fun ds d h => by cases h <;> rfl) fun cdv A outer s H E ds d hr h => ?_
  cases h with
  | mk p x y hp =>
    refine ⟨{}, dss_ifr (dt_cmp op_eq (de_ixT (de_var 2 (pv 2) rfl) de_int rfl) de_int rv_eqI (nomark _)) (fun hx => dss_one (ds_ret (de_eq de_bl ?_))) (fun hx => ?_)⟩
    · have : y = 0 := Rat.num_eq_zero.mp (of_decide_eq_true hx)
      unfold hasMore; rw [if_pos this]
    · have hy : y ≠ 0 := fun z => of_decide_eq_false hx (by rw [z]; rfl)
      have e : hasMore p x y = (decide (x.num = 0) || decide (vQ p x > vQ p y)) := by
        unfold hasMore; rw [if_neg hy]; congr 1; exact decide_eq_decide.mpr Rat.num_eq_zero.symm
      rw [e]
      refine (dss_one (ds_ret (de_or (de_cmp op_eq (de_ixT (de_var 1 (pv 1) rfl) de_int rfl) de_int rv_eqI (nomark _)) fun hx => (de_one (de_cmp op_gt (de_call Gp hr (da_cons (de_var 0 (pv 0) rfl) (da_cons (de_var 1 (pv 1) rfl) da_nil)) (.mk p x hp (fun z => of_decide_eq_false hx (by rw [z]; rfl)))) (de_call Gp hr (da_cons (de_var 0 (pv 0) rfl) (da_cons (de_var 2 (pv 2) rfl) da_nil)) (.mk p y hp hy)) rv_gt (nomark _))))))
theorem sc_ball_of : FnScope ["p", "one", "other", "times", "left"] ["p", "one", "other"] (defScope (top 35)) := ⟨rfl, rfl, rfl, by decide +kernel, rfl, by decide +kernel, by decide +kernel⟩
theorem ok_ball_of (Bl : Bl mg) (h : Has K mg "ball_of" (top 35)) (Gh : Good P w K mg base 3 "has_more" ["p", "x", "y"] (spF K R_has_more)) (Gd : Good P w K mg base 2 "divided" ["x", "y"] (spF K R_divided)) (Gt : Good P w K mg base 2 "times_of" ["x", "y"] (spF K R_times)) (Gm : Good P w K mg base 2 "minus" ["x", "y"] (spF K R_minus)) (Gp : Good P w K mg base 2 "parts" ["p", "x"] (spF K R_parts)) (Gb : Good P w K mg base 4 "ball" ["p", "n", "x"] (spF K R_ball)) : Good P w K mg base 5 "ball_of" ["p", "one", "other"] (spF K R_ball_of) := by
  obtain ⟨f, fd, F, hm⟩ := h.ex
  refine good_F (k := 4) F hm sc_ball_of (F.bindsN fun _ _ _ _ _ _ us hl => match us, hl with | [_, _, _], _ => rfl) (fun ds d h => by cases h <;> rfl) fun cdv A outer s H E ds d hr h => ?_
  cases h with
  | mk p u v hp c hl hC =>
    rename_i C D
    obtain ⟨n1, n2⟩ := more_ne c
    have main : ∀ u v : Rat × Rat, ColOk p C D u v → v.2 ≠ 0 → DSs (cxOf CX0 P w K mg base ["p", "one", "other", "times", "left"] "ball_of" (defScope (top 35)) f cdv A outer s H E).nox [.dat (.int p), .dat (.tuple [eF u.1, eF u.2]), .dat (.tuple [eF v.1, eF v.2]), .no, .no] {} ((defBody (top 35)).drop 1) (.rt (eB (ballC p u v)) {}) := by
      intro u v c h0
      have l1 := col_left hp c h0
      have b1 := ballC_ok hp c h0 hl (by omega)
      exact (dss_cons (ds_set (i := 3) sc_ball_of.nd rfl (.inl rfl) (de_call Gd (hr.mono (by decide)) (da_cons (de_ixT (de_var 1 (pv 1) rfl) de_int rfl) (da_cons (de_ixT (de_var 2 (pv 2) rfl) de_int rfl) da_nil)) (.mk u.2 v.2 c.u2 c.v2 (by omega) h0)))
       (dss_cons (ds_set (i := 4) sc_ball_of.nd rfl (.inl rfl) (de_call Gd (hr.mono (by decide)) (da_cons (de_call Gm (hr.mono (by decide)) (da_cons (de_ixT (de_var 1 (pv 1) rfl) de_int rfl) (da_cons (de_call Gt (hr.mono (by decide)) (da_cons (de_var 3 (pv 3) rfl) (da_cons (de_ixT (de_var 2 (pv 2) rfl) de_int rfl) da_nil)) (.mk (u.2 / v.2) v.1 (c.u2.div c.v2 h0) c.v1 (by omega))) da_nil)) (.mk u.1 (u.2 / v.2 * v.1) c.u1 ((c.u2.div c.v2 h0).mul c.v1) (by omega))) (da_cons (de_ixT (de_var 2 (pv 2) rfl) de_int rfl) da_nil)) (.mk (u.1 - u.2 / v.2 * v.1) v.2 (c.u1.sub ((c.u2.div c.v2 h0).mul c.v1)) c.v2 (by omega) h0)))
       (dss_one (ds_ret (de_call Gb hr (da_cons (de_var 0 (pv 0) rfl) (da_cons (de_call Gp (hr.mono (by decide)) (da_cons (de_var 0 (pv 0) rfl) (da_cons (de_var 4 (pv 4) rfl) da_nil)) (.mk p _ hp l1.1)) (da_cons (de_call Gd (hr.mono (by decide)) (da_cons (de_ixT (de_var 2 (pv 2) rfl) de_int rfl) (da_cons (de_ixT (de_var 2 (pv 2) rfl) de_int rfl) da_nil)) (.mk v.1 v.2 c.v1 c.v2 (by omega) h0)) da_nil))) (.mk p _ _ b1))))))
    refine ⟨{}, ?_⟩
    cases hc : hasMore p v.2 u.2 with
    | true =>
      rw [if_pos rfl]
      exact dss_cons (ds_if (x := true) (dt_eq (dt_val (de_call Gh (hr.mono (by decide)) (da_cons (de_var 0 (pv 0) rfl) (da_cons (de_ixT (de_var 2 (pv 2) rfl) de_int rfl) (da_cons (de_ixT (de_var 1 (pv 1) rfl) de_int rfl) da_nil))) (.mk p v.2 u.2 hp))) hc)
        (fun hx => (dss_one (ds_par (i := 1) (j := 2) rfl sc_ball_of.nd rfl rfl (by decide) rfl rfl (da_cons (de_var 2 (pv 2) rfl) (da_cons (de_var 1 (pv 1) rfl) da_nil)) (by rfl)))) (fun hx => by cases hx)) (main v u c.swap (n1 hc))
    | false =>
      rw [if_neg Bool.false_ne_true]
      exact dss_cons (ds_if (x := false) (dt_eq (dt_val (de_call Gh (hr.mono (by decide)) (da_cons (de_var 0 (pv 0) rfl) (da_cons (de_ixT (de_var 2 (pv 2) rfl) de_int rfl) (da_cons (de_ixT (de_var 1 (pv 1) rfl) de_int rfl) da_nil))) (.mk p v.2 u.2 hp))) hc) (fun hx => by cases hx) (fun hx => dss_nil)) (main u v c (n2 hc))
end
end Bm
namespace Bm
open PySem PySem.Spec PyProof.Rows L2 G
def col4 (m : M4) (i : Nat) : PyData := .tuple [.int (([m.a, m.b, m.c, m.d] : List Int).getD i 0), .int 1]
theorem outs_col (m : M4) : outs (fun _ => true) (col4 m) 4 = [eF (m.a : Rat), eF (m.b : Rat), eF (m.c : Rat), eF (m.d : Rat)] := rfl
theorem HR_int {a : Nat} {z : Int} (h : B a z) : HR (a + 1) (z : Rat) := HR.int (h.mono (by omega)) (by omega)
section
variable {P : Program} {w : World} {K : PySem.W.Frag} {mg : Str → Option Value} {base : Heap}
theorem sc_led : FnScope ["p", "m", "one", "a", "b", "c", "d", "number", "n", "q", "wide", "first"] ["p", "m", "one"] (defScope (top 36)) := ⟨rfl, rfl, rfl, by decide +kernel, rfl, by decide +kernel, by decide +kernel⟩
theorem ok_led (Bl : Bl mg) (h : Has K mg "led" (top 36)) (Gp : Good P w K mg base 2 "power_of" ["p", "n"] (spF K R_power_of)) (Gt : Good P w K mg base 2 "times_of" ["x", "y"] (spF K R_times)) (Ga : Good P w K mg base 2 "plus" ["x", "y"] (spF K R_plus)) (Gb : Good P w K mg base 5 "ball_of" ["p", "one", "other"] (spF K R_ball_of)) : Good P w K mg base 6 "led" ["p", "m", "one"] (spF K R_led) := by
  obtain ⟨f, fd, F, hm⟩ := h.ex
  refine good_F (k := 5) F hm sc_led (F.bindsN fun _ _ _ _ _ _ us hl => match us, hl with | [_, _, _], _ => rfl) (fun ds d h => by cases h <;> rfl) fun cdv A outer s H E ds d hr h => ?_
  cases h with
  | mk p m β hp hmb sm hb hl =>
    rename_i a k l
    have c := col_ok hp hmb sm hb
    have kk := hb.n.lt hp
    have hpw := hb.n.HR hp (by omega)
    have hq := hb.hr
    refine ⟨{}, dss_cons (ds_asg (S1 := {}) (de_eq (de_lcT0 (v := col4 m) rfl sc_led.nd (de_var 1 (pv 1) rfl) (blkOk_by (N := ["p", "m", "one", "a", "b", "c", "d", "number", "n", "q", "wide", "first"]) (sc := defScope (top 36)) (by decide +kernel)) (fun _ _ _ _ _ => pg_name (i := 7) sc_led.nd rfl (.inl rfl)) rfl (by show 4 ≤ 50000; decide)
        (fun i hi _ _ _ _ _ => (de_tup (da_cons (de_eq (de_var 7 (pv 7) rfl) (get4 hi)) (da_cons de_int da_nil)) (by show 2 ≤ 100000; decide)))) (congrArg PyData.list (outs_col m))) (dg_lst rfl (dgs_cons (dg_name (i := 3) sc_led.nd rfl (.inl rfl)) (dgs_cons (dg_name (i := 4) sc_led.nd rfl (.inl rfl)) (dgs_cons (dg_name (i := 5) sc_led.nd rfl (.inl rfl)) (dgs_cons (dg_name (i := 6) sc_led.nd rfl (.inl rfl)) dgs_nil))))))
 (dss_cons (ds_asg (de_var 2 (pv 2) rfl) (dg_tup rfl (dgs_cons (dg_name (i := 8) sc_led.nd rfl (.inl rfl)) (dgs_cons (dg_name (i := 9) sc_led.nd rfl (.inl rfl)) dgs_nil))))
 (dss_cons (ds_set (i := 10) sc_led.nd rfl (.inl rfl) (de_call Gp (hr.mono (by decide)) (da_cons (de_var 0 (pv 0) rfl) (da_cons (de_var 8 (pv 8) rfl) da_nil)) (.mk p β.n hp (by omega))))
 (dss_cons (ds_set (i := 11) sc_led.nd rfl (.inl rfl) (de_tup (da_cons (de_call Gt (hr.mono (by decide)) (da_cons (de_var 3 (pv 3) rfl) (da_cons (de_var 10 (pv 10) rfl) da_nil)) (.mk _ _ (HR_int hmb.a) hpw (by omega))) (da_cons (de_call Gt (hr.mono (by decide)) (da_cons (de_var 5 (pv 5) rfl) (da_cons (de_var 10 (pv 10) rfl) da_nil)) (.mk _ _ (HR_int hmb.c) hpw (by omega))) da_nil)) (by show 2 ≤ 100000; decide)))
 (dss_one (ds_ret (de_call Gb hr (da_cons (de_var 0 (pv 0) rfl) (da_cons (de_var 11 (pv 11) rfl) (da_cons (de_tup (da_cons (de_call Ga (hr.mono (by decide)) (da_cons (de_call Gt (hr.mono (by decide)) (da_cons (de_var 3 (pv 3) rfl) (da_cons (de_var 9 (pv 9) rfl) da_nil)) (.mk _ _ (HR_int hmb.a) hq (by omega))) (da_cons (de_var 4 (pv 4) rfl) da_nil)) (.mk _ _ ((HR_int hmb.a).mul hq) (HR_int hmb.b) (by omega))) (da_cons (de_call Ga (hr.mono (by decide)) (da_cons (de_call Gt (hr.mono (by decide)) (da_cons (de_var 5 (pv 5) rfl) (da_cons (de_var 9 (pv 9) rfl) da_nil)) (.mk _ _ (HR_int hmb.c) hq (by omega))) (da_cons (de_var 6 (pv 6) rfl) da_nil)) (.mk _ _ ((HR_int hmb.c).mul hq) (HR_int hmb.d) (by omega))) da_nil)) (by show 2 ≤ 100000; decide)) da_nil))) (R_ball_of.mk p (colA p m β) (colB m β) hp c (by omega) (by omega))))))))⟩
theorem sc_steps : FnScope ["p", "one", "other"] ["p", "one", "other"] (defScope (top 38)) := ⟨rfl, rfl, rfl, by decide +kernel, rfl, by decide +kernel, by decide +kernel⟩
theorem ok_steps (h : Has K mg "steps" (top 38)) (Gl : Good P w K mg base 5 "least_about" ["p", "one", "other"] (spF K R_least)) : Good P w K mg base 6 "steps" ["p", "one", "other"] (spF K R_steps) := by
  obtain ⟨f, fd, F, hm⟩ := h.ex
  refine good_F (k := 5) F hm sc_steps (F.bindsN fun _ _ _ _ _ _ us hl => match us, hl with | [_, _, _], _ => rfl) (fun ds d h => by cases h <;> rfl) fun cdv A outer s H E ds d hr h => ?_
  cases h with
  | mk p β γ hp hb hc hl =>
    rename_i k l k' l'
    have hT := (top_B hp hb hc).lt hp
    exact ⟨{}, (dss_one (ds_ret (de_sub (de_add (de_ixT (de_var 1 (pv 1) rfl) de_int rfl) (de_ixT (de_var 2 (pv 2) rfl) de_int rfl)) (de_mul de_int (de_ixT (de_call Gl hr (da_cons (de_var 0 (pv 0) rfl) (da_cons (de_var 1 (pv 1) rfl) (da_cons (de_var 2 (pv 2) rfl) da_nil))) (.mk p β γ hp hb hc hl)) de_int (by rw [ball_n]; rfl)) (mulWB (j := 2) (by show (2 : Nat) < 2 ^ 2; decide) (smallB hT (by omega)) (by decide))))))⟩
theorem sc_on_road : FnScope ["p", "one", "other", "k", "top", "up"] ["p", "one", "other", "k"] (defScope (top 39)) := ⟨rfl, rfl, rfl, by decide +kernel, rfl, by decide +kernel, by decide +kernel⟩
theorem ok_on_road (h : Has K mg "on_road" (top 39)) (Gl : Good P w K mg base 5 "least_about" ["p", "one", "other"] (spF K R_least)) (Gb : Good P w K mg base 4 "ball" ["p", "n", "x"] (spF K R_ball)) : Good P w K mg base 6 "on_road" ["p", "one", "other", "k"] (spF K R_on_road) := by
  obtain ⟨f, fd, F, hm⟩ := h.ex
  refine good_F (k := 5) F hm sc_on_road (F.bindsN fun _ _ _ _ _ _ us hl => match us, hl with | [_, _, _, _], _ => rfl) (fun ds d h => by cases h <;> rfl) fun cdv A outer s H E ds d hr h => ?_
  cases h with
  | mk p β γ i hp hb hc hl h1 h2 =>
    refine ⟨{}, (dss_cons (ds_set (i := 4) sc_on_road.nd rfl (.inl rfl) (de_ixT (de_call Gl hr (da_cons (de_var 0 (pv 0) rfl) (da_cons (de_var 1 (pv 1) rfl) (da_cons (de_var 2 (pv 2) rfl) da_nil))) (.mk p β γ hp hb hc hl)) de_int (by rw [ball_n]; rfl)))
 (dss_cons (ds_set (i := 5) sc_on_road.nd rfl (.inl rfl) (de_sub (de_ixT (de_var 1 (pv 1) rfl) de_int rfl) (de_var 4 (pv 4) rfl)))
 (dss_one (ds_ret (de_if (S1 := {}) (dt_cmp op_le (de_var 3 (pv 3) rfl) (de_var 5 (pv 5) rfl) rv_le (nomark _)) (fun hx => ?_) (fun hx => ?_))))))⟩
    · have hx' := of_decide_eq_true hx
      unfold onRoadQ
      rw [if_pos hx']
      exact (de_call Gb (hr.mono (by decide)) (da_cons (de_var 0 (pv 0) rfl) (da_cons (de_sub (de_ixT (de_var 1 (pv 1) rfl) de_int rfl) (de_var 3 (pv 3) rfl)) (da_cons (de_ixT (de_var 1 (pv 1) rfl) de_int rfl) da_nil))) (.mk p _ _ (h1 hx')))
    · have hx' := of_decide_eq_false hx
      unfold onRoadQ
      rw [if_neg hx']
      exact (de_call Gb (hr.mono (by decide)) (da_cons (de_var 0 (pv 0) rfl) (da_cons (de_sub (de_add (de_var 4 (pv 4) rfl) (de_var 3 (pv 3) rfl)) (de_var 5 (pv 5) rfl)) (da_cons (de_ixT (de_var 2 (pv 2) rfl) de_int rfl) da_nil))) (.mk p _ _ (h2 hx')))
theorem sc_stretch : FnScope ["p", "m"] ["p", "m"] (defScope (top 42)) := ⟨rfl, rfl, rfl, by decide +kernel, rfl, by decide +kernel, by decide +kernel⟩
theorem ok_stretch (Bl : Bl mg) (h : Has K mg "stretch" (top 42)) (Gs : Good P w K mg base 1 "split_off" ["p", "n"] (spF K R_split_off)) (Gz : Good P w K mg base 1 "size" ["m"] (spF K R_size)) (Gt : Good P w K mg base 1 "sum_of" ["m"] (spF K R_sum_of)) : Good P w K mg base 2 "stretch" ["p", "m"] (spF K R_stretch) := by
  obtain ⟨f, fd, F, hm⟩ := h.ex
  refine good_F (k := 1) F hm sc_stretch (F.bindsN fun _ _ _ _ _ _ us hl => match us, hl with | [_, _], _ => rfl) (fun ds d h => by cases h <;> rfl) fun cdv A outer s H E ds d hr h => ?_
  cases h with
  | mk p m hp hmb sm hl =>
    refine ⟨{}, dss_ifr (dt_cmp op_eq (de_call Gt hr (da_cons (de_var 1 (pv 1) rfl) da_nil) (.mk m)) de_int rv_eqI (nomark _)) (fun hx => dss_one (ds_ret (de_eq de_int ?_))) (fun hx => ?_)⟩
    · unfold stretchQ; rw [if_pos (of_decide_eq_true hx)]
    · have tn := of_decide_eq_false hx
      have v1 := (vI_B hp hmb.tr tn).lt hp
      refine (dss_one (ds_ret (de_eq (de_cb (call_max2 rfl) Bl.max (by decide +kernel) (da_cons de_int (da_cons (de_sub (de_ixT (de_call Gs hr (da_cons (de_var 0 (pv 0) rfl) (da_cons (de_call Gz hr (da_cons (de_var 1 (pv 1) rfl) da_nil) (.mk m hmb (by omega))) da_nil)) (.mk p _ hp sm)) de_int rfl) (de_mul de_int (de_ixT (de_call Gs hr (da_cons (de_var 0 (pv 0) rfl) (da_cons (de_call Gt hr (da_cons (de_var 1 (pv 1) rfl) da_nil) (.mk m)) da_nil)) (.mk p _ hp tn)) de_int rfl) (mulWB (j := 2) (by show (2 : Nat) < 2 ^ 2; decide) (smallB v1 (by omega)) (by decide)))) da_nil)) rc_max) ?_)))
      unfold stretchQ; rw [if_neg tn]
theorem sc_resting : FnScope ["p", "m", "ball", "there"] ["p", "m", "ball"] (defScope (top 43)) := ⟨rfl, rfl, rfl, by decide +kernel, rfl, by decide +kernel, by decide +kernel⟩
theorem ok_resting (h : Has K mg "resting" (top 43)) (Gl : Good P w K mg base 6 "led" ["p", "m", "one"] (spF K R_led)) (Gs : Good P w K mg base 6 "steps" ["p", "one", "other"] (spF K R_steps)) (Gr : Good P w K mg base 6 "on_road" ["p", "one", "other", "k"] (spF K R_on_road)) (Gt : Good P w K mg base 2 "stretch" ["p", "m"] (spF K R_stretch)) : Good P w K mg base 7 "resting" ["p", "m", "ball"] (spF K R_resting) := by
  obtain ⟨f, fd, F, hm⟩ := h.ex
  refine good_F (k := 6) F hm sc_resting (F.bindsN fun _ _ _ _ _ _ us hl => match us, hl with | [_, _, _], _ => rfl) (fun ds d h => by cases h <;> rfl) fun cdv A outer s H E ds d hr h => ?_
  cases h with
  | mk p m hp hmb sm ha =>
    rename_i a
    have b0 := BB.start (p := p)
    have b1 := led0_BB hp hmb sm
    have ro := restOk hp hmb sm
    exact ⟨{}, (dss_cons (ds_set (i := 3) sc_resting.nd rfl (.inl rfl) (de_call Gl hr (da_cons (de_var 0 (pv 0) rfl) (da_cons (de_var 1 (pv 1) rfl) (da_cons (de_var 2 (pv 2) rfl) da_nil))) (.mk p m start0 hp hmb sm b0 (by omega))))
 (dss_one (ds_ret (de_call Gr hr (da_cons (de_var 0 (pv 0) rfl) (da_cons (de_var 2 (pv 2) rfl) (da_cons (de_var 3 (pv 3) rfl) (da_cons (de_eq (de_fdiv (de_sub (de_call Gs hr (da_cons (de_var 0 (pv 0) rfl) (da_cons (de_var 2 (pv 2) rfl) (da_cons (de_var 3 (pv 3) rfl) da_nil))) (.mk p _ _ hp b0 b1 (by omega))) (de_call Gt (hr.mono (by decide)) (da_cons (de_var 0 (pv 0) rfl) (da_cons (de_var 1 (pv 1) rfl) da_nil)) (.mk p m hp hmb sm (by omega)))) de_int (by decide) (by decide +kernel)) (congrArg PyData.int (fdiv_pos (by decide)))) da_nil)))) (R_on_road.mk p start0 (ledQ p m start0) _ hp b0 b1 (by omega)
      (fun hi => ballOk_of hp (ro.small hi) (l := 1) (show (1 : Nat) < 2 ^ 1 by decide) (b0.hr.mono (by omega)) (by omega)) (fun hi => ballOk_of hp (ro.big hi) b1.den (b1.hr.mono (by omega)) (by omega)))))))⟩
theorem sc_kind : FnScope ["p", "m", "one", "length", "other"] ["p", "m"] (defScope (top 44)) := ⟨rfl, rfl, rfl, by decide +kernel, rfl, by decide +kernel, by decide +kernel⟩
theorem ok_kind (C : Cst K mg) (h : Has K mg "kind" (top 44)) (Gr : Good P w K mg base 7 "resting" ["p", "m", "ball"] (spF K R_resting)) (Gl : Good P w K mg base 6 "led" ["p", "m", "one"] (spF K R_led)) (Gt : Good P w K mg base 2 "stretch" ["p", "m"] (spF K R_stretch)) : Good P w K mg base 8 "kind" ["p", "m"] (spF K R_kind) := by
  obtain ⟨f, fd, F, hm⟩ := h.ex
  obtain ⟨aZ, mZ, rZ⟩ := C.ex "START" (.tuple [.int 0, .tuple [.int 0, .int 1]]) (by simp)
  refine good_F (k := 7) F hm sc_kind (F.bindsN fun _ _ _ _ _ _ us hl => match us, hl with | [_, _], _ => rfl) (fun ds d h => by cases h <;> rfl) fun cdv A outer s H E ds d hr h => ?_
  cases h with
  | mk p m hp hmb sm ha =>
    rename_i a
    have b1 := rest_BB hp hmb sm
    refine ⟨{}, (dss_cons (ds_par (i := 2) (j := 3) rfl sc_kind.nd rfl rfl (by decide) rfl rfl (da_cons (de_call Gr hr (da_cons (de_var 0 (pv 0) rfl) (da_cons (de_var 1 (pv 1) rfl) (da_cons (de_glob (d := eB start0) (v := .ref aZ) rfl mZ rfl rZ) da_nil))) (.mk p m hp hmb sm ha)) (da_cons (de_call Gt (hr.mono (by decide)) (da_cons (de_var 0 (pv 0) rfl) (da_cons (de_var 1 (pv 1) rfl) da_nil)) (.mk p m hp hmb sm (by omega))) da_nil)) (by rfl))
     (dss_ifr (dt_cmp op_gt (de_var 3 (pv 3) rfl) de_int rv_gt (nomark _)) (fun hx => ?_) (fun hx => ?_)))⟩
    · have e : kindD p m = .tuple [.str "stretches", .int (stretchQ p m), eB (restQ p m start0)] := by unfold kindD; rw [if_pos (of_decide_eq_true hx)]
      rw [e]
      exact (dss_one (ds_ret (de_tup (da_cons de_str (da_cons (de_var 3 (pv 3) rfl) (da_cons (de_var 2 (pv 2) rfl) da_nil))) (by show 3 ≤ 100000; decide))))
    · have e0 := of_decide_eq_false hx
      refine (dss_cons (ds_set (i := 4) sc_kind.nd rfl (.inl rfl) (de_call Gl (hr.mono (by decide)) (da_cons (de_var 0 (pv 0) rfl) (da_cons (de_var 1 (pv 1) rfl) (da_cons (de_var 2 (pv 2) rfl) da_nil))) (.mk p m _ hp hmb sm b1 (by omega))))
       (dss_ifr (dt_eq (dt_cmp (op_eqD hr.units) (de_var 2 (pv 2) rfl) (de_var 4 (pv 4) rfl) (rv_eqD rfl rfl) (nomark _)) (eqv_eB _ _)) (fun hx => ?_) (fun hx => ?_)))
      · have e : kindD p m = .tuple [.str "keeps", eB (restQ p m start0)] := by unfold kindD; rw [if_neg e0, if_pos (of_decide_eq_true hx)]
        rw [e]
        exact (dss_one (ds_ret (de_tup (da_cons de_str (da_cons (de_var 2 (pv 2) rfl) da_nil)) (by show 2 ≤ 100000; decide))))
      · have e1 := of_decide_eq_false hx
        unfold kindD
        rw [if_neg e0, if_neg e1]
        refine (dss_one (ds_ret (de_if (S1 := {}) (dt_cmp op_lt (de_ixT (de_var 2 (pv 2) rfl) de_int rfl) (de_ixT (de_var 4 (pv 4) rfl) de_int rfl) rv_lt (nomark _)) (fun hx => ?_) (fun hx => ?_))))
        · rw [if_pos (of_decide_eq_true hx)]
          exact (de_tup (da_cons de_str (da_cons (de_var 2 (pv 2) rfl) (da_cons (de_var 4 (pv 4) rfl) da_nil))) (by show 3 ≤ 100000; decide))
        · rw [if_neg (of_decide_eq_false hx)]
          exact (de_tup (da_cons de_str (da_cons (de_var 4 (pv 4) rfl) (da_cons (de_var 2 (pv 2) rfl) da_nil))) (by show 3 ≤ 100000; decide))
theorem kind_at (p : Nat) (m : M4) : ∃ x : Str, ∃ ds, kindD p m = .tuple (.str x :: ds) ∧ decide (x = ("keeps" : Str)) = keepsP p m := by
  unfold kindD keepsP
  by_cases h1 : 0 < stretchQ p m
  · rw [if_pos h1]
    refine ⟨_, _, rfl, ?_⟩
    rw [decide_eq_false (show ¬ stretchQ p m ≤ 0 by omega), Bool.false_and]; decide +kernel
  · rw [if_neg h1, decide_eq_true (show stretchQ p m ≤ 0 by omega), Bool.true_and]
    by_cases h2 : restQ p m start0 = ledQ p m (restQ p m start0)
    · rw [if_pos h2, decide_eq_true h2.symm]
      exact ⟨_, _, rfl, by decide +kernel⟩
    · rw [if_neg h2, decide_eq_false (fun z => h2 z.symm)]
      split
      · exact ⟨_, _, rfl, by decide +kernel⟩
      · exact ⟨_, _, rfl, by decide +kernel⟩
theorem sc_keeps_some : FnScope ["p", "m"] ["p", "m"] (defScope (top 54)) := ⟨rfl, rfl, rfl, by decide +kernel, rfl, by decide +kernel, by decide +kernel⟩
theorem ok_keeps_some (h : Has K mg "keeps_some" (top 54)) (Gk : Good P w K mg base 8 "kind" ["p", "m"] (spF K R_kind)) : Good P w K mg base 9 "keeps_some" ["p", "m"] (spF K R_keeps) := by
  obtain ⟨f, fd, F, hm⟩ := h.ex
  refine good_F (k := 8) F hm sc_keeps_some (F.bindsN fun _ _ _ _ _ _ us hl => match us, hl with | [_, _], _ => rfl) (fun ds d h => by cases h <;> rfl) fun cdv A outer s H E ds d hr h => ?_
  cases h with
  | mk p m hp hmb sm ha =>
    obtain ⟨x, ds, e, ek⟩ := kind_at p m
    refine ⟨{}, ?_⟩
    rw [← ek]
    exact (dss_one (ds_ret (de_cmp op_eq (de_ixT (ds := .str x :: ds) (d := .str x) (de_eq (de_call Gk hr (da_cons (de_var 0 (pv 0) rfl) (da_cons (de_var 1 (pv 1) rfl) da_nil)) (.mk p m hp hmb sm ha)) e) de_int (by show atI (PyData.str x :: ds) ((0 : Nat) : Int) = _; rw [atI_nat]; rfl)) de_str rv_eqS (nomark _))))
end
end Bm
namespace Bm
open PySem PySem.Spec PyProof.Rows L2 G
def moveOf : PyData → M4
  | .tuple [.int a, .int b, .int c, .int d] => ⟨a, b, c, d⟩
  | _ => idM
def letOf : PyData → Int × Int
  | .tuple [.int a, .int b] => (a, b)
  | _ => (0, 1)
def wordOf : PyData → Wd
  | .tuple ds => ds.map letOf
  | _ => []
def primeOf : PyData → Nat
  | .int i => i.toNat
  | _ => 2
/-- the first of the moves that is not told whole -/
def badAt (t : M4) (ms : List M4) : Option Nat := (List.range ms.length).find? fun k => !wholeM (toldM t (ms.getD k idM))
noncomputable def judgeP (ms : List M4) : PyData → PyData
  | .tuple [x, y] => if (PyData.eqv x (.str "whole") && isMoveD y) = true then (match badAt (moveOf y) ms with
      | some k => .tuple [.str "move", .int (k : Nat)]
      | none => .none) else .tuple [.str "form"]
  | .tuple [x, y, z] => if (PyData.eqv x (.str "bars") && (isPrimeD y && isWordD ms.length z)) = true then (if keepsP (primeOf y) (wordM ms (wordOf z)) = true then .tuple [.str "keeps"] else .none) else .tuple [.str "form"]
  | _ => .tuple [.str "form"]
structure JOk (ms : List M4) (v : PyData) : Prop where
  mo : MsOk 25 ms
  len : ms.length ≤ 100
  sh : ∀ x r, v = .tuple (x :: r) → SeqAt.shaped x = true
  two : ∀ x y, v = .tuple [x, y] → Sm1 y ∧ ∀ m, y = eM m → MB 3100 m
  three : ∀ x y z, v = .tuple [x, y, z] → Sm2 z ∧ ∀ ds, z = .tuple ds → ds.length ≤ 3
inductive R_judge : List PyData → PyData → Prop
  | mk (d v : PyData) (ms : List M4) (hd : d = .list (eMs ms) ∨ d = .tuple (eMs ms)) (h : JOk ms v) : R_judge [d, v] (judgeP ms v)
theorem move_of {d : PyData} (h : isMoveD d = true) : d = eM (moveOf d) ∧ sizeM (moveOf d) ≠ 0 := by
  unfold isMoveD at h
  split at h
  · have := (Bool.and_eq_true_iff.mp h).1
    exact ⟨rfl, of_decide_eq_true this⟩
  · cases h
theorem prime_of {d : PyData} (h : isPrimeD d = true) : IsP (primeOf d) ∧ d = .int (primeOf d : Nat) := by
  cases d with
  | int i =>
    have h1 : i ∈ P97.map fun (p : Nat) => (p : Int) := of_decide_eq_true h
    obtain ⟨p, hp, rfl⟩ := List.mem_map.mp h1
    refine ⟨?_, by show _ = PyData.int (((p : Int).toNat : Nat) : Int); rw [Int.toNat_natCast]⟩
    show IsP (p : Int).toNat
    rw [Int.toNat_natCast]
    have all : ∀ q ∈ P97, 2 ≤ q ∧ q ≤ 97 ∧ ∀ d, d < q + 1 → d ∣ q → d = 1 ∨ d = q := by decide +kernel
    obtain ⟨a, b, c⟩ := all p hp
    exact ⟨a, b, fun d hd => c d (by have := Nat.le_of_dvd (by omega) hd; omega) hd⟩
  | _ => cases h
theorem let_of {n : Nat} {d : PyData} (h : isLetD n d = true) : d = .tuple [.int (letOf d).1, .int (letOf d).2] ∧ LetOk n (letOf d) := by
  unfold isLetD at h
  split at h
  · rename_i k s
    simp only [Bool.and_eq_true, decide_eq_true_eq] at h
    refine ⟨rfl, h.1.1, h.1.2, ?_⟩
    have h2 : s = 1 ∨ s = -1 := by simpa using h.2
    exact h2
  · cases h
theorem word_of {n : Nat} {d : PyData} (h : isWordD n d = true) : d = eW (wordOf d) ∧ ∀ l ∈ wordOf d, LetOk n l := by
  cases d with
  | tuple ds =>
    have h1 : ds.all (isLetD n) = true := h
    rw [List.all_eq_true] at h1
    constructor
    · show PyData.tuple ds = PyData.tuple ((ds.map letOf).map fun l => .tuple [.int l.1, .int l.2])
      congr 1
      rw [List.map_map]
      refine Eq.symm ((List.map_congr_left (g := id) fun x hx => ?_).trans (List.map_id ds))
      exact (let_of (h1 x hx)).1.symm
    · intro l hl
      obtain ⟨x, hx, rfl⟩ := List.mem_map.mp hl
      exact (let_of (h1 x hx)).2
  | _ => cases h
theorem word_len {ds : List PyData} : (wordOf (.tuple ds)).length = ds.length := by show (ds.map letOf).length = _; rw [List.length_map]
theorem judgeP_two {ms : List M4} {x y : PyData} : judgeP ms (.tuple [x, y]) = if (PyData.eqv x (.str "whole") && isMoveD y) = true then (match badAt (moveOf y) ms with
      | some k => .tuple [.str "move", .int (k : Nat)]
      | none => .none) else .tuple [.str "form"] := rfl
theorem judgeP_three {ms : List M4} {x y z : PyData} : judgeP ms (.tuple [x, y, z]) = if (PyData.eqv x (.str "bars") && (isPrimeD y && isWordD ms.length z)) = true then (if keepsP (primeOf y) (wordM ms (wordOf z)) = true then .tuple [.str "keeps"] else .none) else .tuple [.str "form"] := rfl
theorem judgeP_other {ms : List M4} : ∀ {ds : List PyData}, ¬ (ds.length = 2 ∨ ds.length = 3) → judgeP ms (.tuple ds) = .tuple [.str "form"]
  | [], _ => rfl
  | [_], _ => rfl
  | [_, _], h => absurd (.inl rfl) h
  | [_, _, _], h => absurd (.inr rfl) h
  | _ :: _ :: _ :: _ :: _, _ => rfl
theorem rc_lenM {K : PySem.W.Frag} {d : PyData} {ms : List M4} (hd : d = .list (eMs ms) ∨ d = .tuple (eMs ms)) : RcD K (fun xs H Q => ∃ p ys, xs = [.ref p] ∧ (SqL K H p ys ∨ SqT K H p ys) ∧ Q (.int ys.length) H) [d] (.int (ms.length : Nat)) := by
  have := rc_len (K := K) hd
  rwa [List.length_map] at this
section
variable {P : Program} {w : World} {K : PySem.W.Frag} {mg : Str → Option Value} {base : Heap}
theorem sc_judge : FnScope ["moves", "value", "k", "m"] ["moves", "value"] (defScope (top 55)) := ⟨rfl, rfl, rfl, by decide +kernel, rfl, by decide +kernel, by decide +kernel⟩
def jR (d v : PyData) (ms : List M4) (i : Nat) : Rho := [.dat d, .dat v, if i = 0 then .no else .dat (.int ((i - 1 : Nat) : Int)), if i = 0 then .no else .dat (eM (ms.getD (i - 1) idM))]
theorem ok_judge (Bl : Bl mg) (h : Has K mg "judge_whole" (top 55)) (Gm : Good P w K mg base 3 "is_move" ["value"] (spF K R_is_move)) (Gt : Good P w K mg base 3 "told_by" ["t", "m"] (spF K R_told)) (Gi : Good P w K mg base 2 "is_whole" ["m"] (spF K R_is_whole))
    (Gp : Good P w K mg base 2 "is_prime" ["value"] (spF K R_is_prime)) (Gw : Good P w K mg base 3 "is_word" ["value", "many"] (spF K R_is_word)) (Gk : Good P w K mg base 9 "keeps_some" ["p", "m"] (spF K R_keeps)) (Gv : Good P w K mg base 3 "word_move" ["moves", "word"] (spF K R_word_move)) :
    Good P w K mg base 10 "judge_whole" ["moves", "value"] (spF K R_judge) := by
  obtain ⟨f, fd, F, hm⟩ := h.ex
  refine good_F (k := 9) F hm sc_judge (F.bindsN fun _ _ _ _ _ _ us hl => match us, hl with | [_, _], _ => rfl) (fun ds d h => by cases h <;> rfl) fun cdv A outer s H E ds d hr h => ?_
  cases h with
  | mk d v ms hd ok =>
    refine ⟨{}, ?_⟩
    by_cases ht : isTupN v = true
    · obtain ⟨ds, rfl⟩ : ∃ ds, v = .tuple ds := by cases v <;> first | exact ⟨_, rfl⟩ | cases ht
      by_cases hl : ds.length = 2 ∨ ds.length = 3
      · refine dss_ifr (x := false) (dt_eq (dt_w (dw_or (dt_not (dt_val (de_isi (de_var 1 (pv 1) rfl) (kit_tup _) Bl.isinstance Bl.tuple (by decide +kernel)))) fun hx => (dw_or1 (dt_cmp op_notIn_seq (de_cb call_len_seq Bl.len (by decide +kernel) (da_cons (de_var 1 (pv 1) rfl) da_nil) (rc_len (.inr rfl))) (de_tup (da_cons de_int (da_cons de_int da_nil)) (by show 2 ≤ 100000; decide)) (rv_notIn (ns := [2, 3]) (.inr rfl)) (by rfl))))) (by
          have : ((ds.length : Int) ∈ ([2, 3] : List Int)) := by simp; omega
          rw [decide_eq_true this]; rfl)) (fun hx => by cases hx) (fun _ => ?_)
        refine dss_ifr (dt_cmp op_eq (de_cb call_len_seq Bl.len (by decide +kernel) (da_cons (de_var 1 (pv 1) rfl) da_nil) (rc_len (.inr rfl))) de_int rv_eqI (nomark _)) (fun hx => ?_) (fun hx => ?_)
        · have hl2 : ds.length = 2 := by have := of_decide_eq_true hx; omega
          obtain ⟨x, y, rfl⟩ : ∃ x y, ds = [x, y] := by
            match ds, hl2 with
            | [x, y], _ => exact ⟨x, y, rfl⟩
          have sx := ok.sh x _ rfl
          obtain ⟨y1, y2⟩ := ok.two x y rfl
          refine dss_ifr (x := !(PyData.eqv x (.str "whole") && isMoveD y)) (dt_eq (dt_w (dw_or (dt_cmp (op_neD hr.units) (de_ixT (de_var 1 (pv 1) rfl) de_int rfl) de_str (rv_neD sx (by decide +kernel)) (nomark _)) fun hx => (dw_or1 (dt_not (dt_val (de_call Gm (hr.mono (by decide)) (da_cons (de_ixT (de_var 1 (pv 1) rfl) de_int rfl) da_nil) (.mk y y1 fun m e => (y2 m e).mono (by decide)))))))) (by rw [Bool.not_and])) (fun hx => ?_) (fun hx => ?_)
          · have hc : (PyData.eqv x (.str "whole") && isMoveD y) = false := by rw [Bool.not_eq_true'] at hx; exact hx
            refine dss_one (ds_ret (de_eq (de_tup (da_cons de_str da_nil) (by show 1 ≤ 100000; decide)) ?_))
            rw [judgeP_two, hc]; rfl
          · have hc : (PyData.eqv x (.str "whole") && isMoveD y) = true := by rw [Bool.not_eq_false'] at hx; exact hx
            obtain ⟨hy, hs⟩ := move_of (Bool.and_eq_true_iff.mp hc).2
            generalize hmv : moveOf y = t at hy hs
            subst hy
            have ht := y2 t rfl
            have hbody : ∀ i, i < ms.length → DSs (cxOf CX0 P w K mg base ["moves", "value", "k", "m"] "judge_whole" (defScope (top 55)) f cdv A outer s H E).nox [.dat d, .dat (.tuple [x, eM t]), .dat (.int (i : Nat)), .dat (eM (ms.getD i idM))] {} [(((defBody (top 55)).getD 1 (.Pass ⟨0, 0, 0, 0⟩)) |> fun st => match st with
              | .If _ A _ _ => match A.getD 1 (.Pass ⟨0, 0, 0, 0⟩) with
                | .For _ _ B _ _ => B.getD 0 (.Pass ⟨0, 0, 0, 0⟩)
                | q => q
              | q => q)] (if wholeM (toldM t (ms.getD i idM)) = true then .nx [.dat d, .dat (.tuple [x, eM t]), .dat (.int (i : Nat)), .dat (eM (ms.getD i idM))] {} else .rt (.tuple [.str "move", .int (i : Nat)]) {}) := by
              intro i hi
              obtain ⟨b1, s1⟩ := ok.mo.at (i := (i : Int)) (by omega) (by omega)
              rw [Int.toNat_natCast] at b1 s1
              refine dss_one (ds_if (dt_not (dt_val (de_call Gi (hr.mono (by decide)) (da_cons (de_call Gt (hr.mono (by decide)) (da_cons (de_ixT (de_var 1 (pv 1) rfl) de_int rfl) (da_cons (de_var 3 (pv 3) rfl) da_nil)) (.mk t _ ht b1 (by decide) hs s1)) da_nil) (.mk _ ((ht.back hs).after (b1.after ht s1 hs) (size_back_ne hs) (size_after_ne s1 hs)) (by decide))))) (fun hx => ?_) (fun hx => ?_))
              · rw [if_neg (by simpa using hx)]
                exact (dss_one (ds_ret (de_tup (da_cons de_str (da_cons (de_var 2 (pv 2) rfl) da_nil)) (by show 2 ≤ 100000; decide))))
              · rw [if_pos (by simpa using hx)]
                exact dss_nil
            have hT : ∀ i z, (eMs ms)[i]? = some z → DG (cxOf CX0 P w K mg base ["moves", "value", "k", "m"] "judge_whole" (defScope (top 55)) f cdv A outer s H E).nox (match ((defBody (top 55)).getD 1 (.Pass ⟨0, 0, 0, 0⟩)) with
              | .If _ A _ _ => match A.getD 1 (.Pass ⟨0, 0, 0, 0⟩) with
                | .For tg _ _ _ _ => tg
                | _ => .Name "" ⟨0, 0, 0, 0⟩
              | _ => .Name "" ⟨0, 0, 0, 0⟩) (jR d (.tuple [x, eM t]) ms i) (.tuple [.int (i : Nat), z]) [.dat d, .dat (.tuple [x, eM t]), .dat (.int (i : Nat)), .dat (eM (ms.getD i idM))] := by
              intro i z hz
              have hi : i < ms.length := by
                rcases Nat.lt_or_ge i ms.length with q | q
                · exact q
                · rw [List.getElem?_eq_none (by simpa using q)] at hz; cases hz
              rw [get_ms hi] at hz
              cases hz
              unfold jR
              cases i <;> exact (dg_tup rfl (dgs_cons (dg_name (i := 2) sc_judge.nd rfl (.inl rfl)) (dgs_cons (dg_name (i := 3) sc_judge.nd rfl (.inl rfl)) dgs_nil)))
            have hlen : (eMs ms).length = ms.length := by simp
            cases hb : badAt t ms with
            | none =>
              have e : judgeP ms (.tuple [x, eM t]) = .none := by
                rw [judgeP_two, if_pos hc]
                have : moveOf (eM t) = t := rfl
                rw [this, hb]
              rw [e]
              refine dss_cons (ds_forE hd rfl PassesOwn.never Bl.enumerate (da_cons (de_var 0 (pv 0) rfl) da_nil) (jR d (.tuple [x, eM t]) ms) (fun i => [.dat d, .dat (.tuple [x, eM t]), .dat (.int (i : Nat)), .dat (eM (ms.getD i idM))]) (fun _ => {}) ms.length rfl rfl (fun i z _ hz => hT i z hz) (fun i hi _ => ?_) (.inl ⟨hlen.symm, rfl⟩)) (dss_one (ds_ret de_non))
              have hi' : i < ms.length := by omega
              have := hbody i hi'
              have hw : wholeM (toldM t (ms.getD i idM)) = true := by
                have := List.find?_range_eq_none.mp hb i hi'
                simpa using this
              rw [if_pos hw] at this
              rw [oAt_lt hi']
              exact this
            | some k =>
              have e : judgeP ms (.tuple [x, eM t]) = .tuple [.str "move", .int (k : Nat)] := by
                rw [judgeP_two, if_pos hc]
                have : moveOf (eM t) = t := rfl
                rw [this, hb]
              rw [e]
              obtain ⟨g1, g2, g3⟩ := List.find?_range_eq_some.mp hb
              have hk : k < ms.length := by simpa using g2
              refine dss_rt (ds_forE hd rfl PassesOwn.never Bl.enumerate (da_cons (de_var 0 (pv 0) rfl) da_nil) (jR d (.tuple [x, eM t]) ms) (fun i => [.dat d, .dat (.tuple [x, eM t]), .dat (.int (i : Nat)), .dat (eM (ms.getD i idM))]) (fun _ => {}) k rfl rfl (fun i z _ hz => hT i z hz) (fun i hi hle => ?_) (.inr ⟨by omega, _, _, rfl⟩))
              have hi' : i < ms.length := by omega
              have hbd := hbody i hi'
              by_cases hik : i < k
              · have hw : wholeM (toldM t (ms.getD i idM)) = true := by simpa using g3 i hik
                rw [if_pos hw] at hbd
                rw [oAt_lt hik]
                exact hbd
              · have : i = k := by omega
                subst this
                have hw : ¬ wholeM (toldM t (ms.getD i idM)) = true := by simpa using g1
                rw [if_neg hw] at hbd
                rw [oAt_eq]
                exact hbd
        · have hl3 : ds.length = 3 := by have := of_decide_eq_false hx; omega
          obtain ⟨x, y, z, rfl⟩ : ∃ x y z, ds = [x, y, z] := by
            match ds, hl3 with
            | [x, y, z], _ => exact ⟨x, y, z, rfl⟩
          have sx := ok.sh x _ rfl
          obtain ⟨z1, z2⟩ := ok.three x y z rfl
          refine dss_ifr (x := !(PyData.eqv x (.str "bars") && (isPrimeD y && isWordD ms.length z))) (dt_eq (dt_w (dw_or (dt_cmp (op_neD hr.units) (de_ixT (de_var 1 (pv 1) rfl) de_int rfl) de_str (rv_neD sx (by decide +kernel)) (nomark _)) fun hx => (dw_or (dt_not (dt_val (de_call Gp (hr.mono (by decide)) (da_cons (de_ixT (de_var 1 (pv 1) rfl) de_int rfl) da_nil) (.mk y)))) fun hx => (dw_or1 (dt_not (dt_val (de_call Gw (hr.mono (by decide)) (da_cons (de_ixT (de_var 1 (pv 1) rfl) de_int rfl) (da_cons (de_cb call_len_seq Bl.len (by decide +kernel) (da_cons (de_var 0 (pv 0) rfl) da_nil) (rc_lenM hd)) da_nil)) (.mk z ms.length z1)))))))) (by rw [Bool.not_and, Bool.not_and])) (fun hx => ?_) (fun hx => ?_)
          · have hc : (PyData.eqv x (.str "bars") && (isPrimeD y && isWordD ms.length z)) = false := by rw [Bool.not_eq_true'] at hx; exact hx
            refine dss_one (ds_ret (de_eq (de_tup (da_cons de_str da_nil) (by show 1 ≤ 100000; decide)) ?_))
            rw [judgeP_three, hc]; rfl
          · have hc : (PyData.eqv x (.str "bars") && (isPrimeD y && isWordD ms.length z)) = true := by rw [Bool.not_eq_false'] at hx; exact hx
            obtain ⟨h1, h2⟩ := Bool.and_eq_true_iff.mp (Bool.and_eq_true_iff.mp hc).2
            obtain ⟨pp, py⟩ := prime_of h1
            obtain ⟨we, wl⟩ := word_of h2
            have wlen : (wordOf z).length ≤ 3 := by
              cases z with
              | tuple zs => rw [word_len]; exact z2 zs rfl
              | _ => cases h2
            have wb := wordP_ok ok.mo wl (Nat.le_refl _)
            have wm : wordP ms (wordOf z) (wordOf z).length = wordM ms (wordOf z) := by unfold wordP; rw [List.take_length]
            rw [wm] at wb
            have e : judgeP ms (.tuple [x, y, z]) = (if keepsP (primeOf y) (wordM ms (wordOf z)) = true then .tuple [.str "keeps"] else .none) := by rw [judgeP_three, if_pos hc]
            rw [e]
            refine (dss_one (ds_ret (de_if (S1 := {}) (x := keepsP (primeOf y) (wordM ms (wordOf z))) (dt_val (de_call Gk hr (da_cons (de_eq (de_ixT (de_var 1 (pv 1) rfl) de_int rfl) py) (da_cons (de_call Gv (hr.mono (by decide)) (da_cons (de_var 0 (pv 0) rfl) (da_cons (de_eq (de_ixT (de_var 1 (pv 1) rfl) de_int rfl) we) da_nil)) (.mk d ms (wordOf z) hd ⟨fun m hm => (ok.mo.b m hm).mono (by decide), ok.mo.s⟩ ok.len wl (by omega))) da_nil)) (.mk _ _ pp wb.1 wb.2 (by omega)))) (fun hx => ?_) (fun hx => ?_))))
            · rw [if_pos hx]; exact (de_tup (da_cons de_str da_nil) (by show 1 ≤ 100000; decide))
            · rw [hx]; exact de_non
      · have hj : judgeP ms (.tuple ds) = .tuple [.str "form"] := by
          exact judgeP_other hl
        rw [hj]
        refine dss_ifr (x := true) (dt_eq (dt_w (dw_or (dt_not (dt_val (de_isi (de_var 1 (pv 1) rfl) (kit_tup _) Bl.isinstance Bl.tuple (by decide +kernel)))) fun hx => (dw_or1 (dt_cmp op_notIn_seq (de_cb call_len_seq Bl.len (by decide +kernel) (da_cons (de_var 1 (pv 1) rfl) da_nil) (rc_len (.inr rfl))) (de_tup (da_cons de_int (da_cons de_int da_nil)) (by show 2 ≤ 100000; decide)) (rv_notIn (ns := [2, 3]) (.inr rfl)) (by rfl))))) (by
          have : ¬ ((ds.length : Int) ∈ ([2, 3] : List Int)) := by simp; omega
          rw [decide_eq_false this]; rfl)) (fun hx => dss_one (ds_ret (de_tup (da_cons de_str da_nil) (by show 1 ≤ 100000; decide)))) (fun hx => by cases hx)
    · have hf : isTupN v = false := by simpa using ht
      have hj : judgeP ms v = .tuple [.str "form"] := by cases v <;> first | rfl | exact absurd rfl ht
      rw [hj]
      refine dss_ifr (x := true) (dt_eq (dt_w (dw_or (y := true) (dt_not (dt_val (de_isi (de_var 1 (pv 1) rfl) (kit_tup _) Bl.isinstance Bl.tuple (by decide +kernel)))) fun hx => by rw [hf] at hx; cases hx)) (by rw [hf]; rfl)) (fun hx => dss_one (ds_ret (de_tup (da_cons de_str da_nil) (by show 1 ≤ 100000; decide)))) (fun hx => by cases hx)
end
end Bm
namespace Bm
open PySem PySem.Spec PyProof.Rows L2 G
inductive R_lcommon : List PyData → PyData → Prop
  | mk (a b : Int) : R_lcommon [.int a, .int b] (.int (Nat.gcd a.natAbs b.natAbs : Nat))
inductive R_lparts : List PyData → PyData → Prop
  | mk (p : Nat) (n d : Int) (hp : IsP p) (hn : n ≠ 0) (hd : d ≠ 0) : R_lparts [.int p, .tuple [.int n, .int d]] (.int ((vI p n : Int) - (vI p d : Int)))
theorem lfrac_eq (n d : Int) : (Nat.gcd n.natAbs d.natAbs : Int) * (if d > 0 then 1 else 0 - 1) = fracG n d := by
  unfold fracG; split <;> omega
theorem eF_neg (x : Rat) : PyData.tuple [.int (0 - x.num), .int (x.den : Int)] = eF (-x) := by
  show _ = PyData.tuple [.int (-x).num, .int ((-x).den : Int)]
  have e1 : (-x).num = 0 - x.num := by rw [Int.zero_sub]; rfl
  have e2 : (-x).den = x.den := rfl
  rw [e1, e2]
theorem add_neg (x y : Rat) : x + -y = x - y := by grind
section
variable {P : Program} {w : World} {K : PySem.W.Frag} {mg : Str → Option Value} {base : Heap}
theorem sc_lraised : FnScope ["_law_p", "_law_n", "_law_found", "_law_lap"] ["_law_p", "_law_n"] (defScope (top 57)) := ⟨rfl, rfl, rfl, by decide +kernel, rfl, by decide +kernel, by decide +kernel⟩
theorem ok_lraised (Bl : Bl mg) (h : Has K mg "_law_raised" (top 57)) : Good P w K mg base 1 "_law_raised" ["_law_p", "_law_n"] (spF K R_raised) := by
  obtain ⟨f, fd, F, hm⟩ := h.ex
  refine good_F (k := 0) F hm sc_lraised (F.bindsN fun _ _ _ _ _ _ us hl => match us, hl with | [_, _], _ => rfl) (fun ds d h => by cases h <;> rfl) fun cdv A outer s H E ds d hr h => ?_
  cases h with
  | mk n t hn ht =>
    have hm2 : ∀ i : Nat, CMul (n ^ i) n := fun i => .inr (by unfold B at hn; omega)
    refine ⟨{}, dss_cons (ds_set (i := 2) sc_lraised.nd rfl (.inl rfl) de_int) (dss_forR1 rfl PassesOwn.never Bl.range (da_cons (de_var 1 (pv 1) rfl) da_nil) ht (fun i => [.dat (.int n), .dat (.int t), .dat (.int (n ^ i)), match i with | 0 => .no | j + 1 => .dat (.int (0 + j))]) (fun i => [.dat (.int n), .dat (.int t), .dat (.int (n ^ i)), .dat (.int (0 + i))]) (fun _ => {}) (by simp only [Int.pow_zero]; rfl) rfl
      (fun i _ => by cases i <;> exact dg_name (i := 3) sc_lraised.nd rfl (.inl rfl)) (fun i _ => dss_nx (dss_one (ds_set (i := 2) sc_lraised.nd rfl (.inl rfl) (de_muls (de_var 2 (pv 2) rfl) (de_var 0 (pv 0) rfl) (hm2 i)))) (by rw [Int.pow_succ]; rfl)) (dss_one (ds_ret (de_var 2 (pv 2) rfl))))⟩
theorem sc_lcommon : FnScope ["_law_a", "_law_b"] ["_law_a", "_law_b"] (defScope (top 60)) := ⟨rfl, rfl, rfl, by decide +kernel, rfl, by decide +kernel, by decide +kernel⟩
theorem ok_lcommon (Bl : Bl mg) (h : Has K mg "_law_common" (top 60)) : Good P w K mg base 1 "_law_common" ["_law_a", "_law_b"] (spF K R_lcommon) := by
  obtain ⟨f, fd, F, hm⟩ := h.ex
  refine good_F (k := 0) F hm sc_lcommon (F.bindsN fun _ _ _ _ _ _ us hl => match us, hl with | [_, _], _ => rfl) (fun ds d h => by cases h <;> rfl) fun cdv A outer s H E ds d hr h => ?_
  cases h with
  | mk a b =>
    refine ⟨{}, dss_cons (ds_par (i := 0) (j := 1) rfl sc_lcommon.nd rfl rfl (by decide) rfl rfl (da_cons (de_cb call_abs Bl.abs (by decide +kernel) (da_cons (de_var 0 (pv 0) rfl) da_nil) rc_abs) (da_cons (de_cb call_abs Bl.abs (by decide +kernel) (da_cons (de_var 1 (pv 1) rfl) da_nil) rc_abs) da_nil)) (by rfl))
     (dss_while PassesOwn.never (fun x : Nat × Nat => [.dat (.int (x.1 : Nat)), .dat (.int (x.2 : Nat))]) (fun _ => {}) (fun x => Nat.gcd x.1 x.2 = Nat.gcd a.natAbs b.natAbs) (fun x => x.2) (fun x => !decide ((x.2 : Int) = 0)) (fun x => (x.2, x.1 % x.2)) (a.natAbs, b.natAbs) rfl rfl rfl
      (fun x hx => dt_cmp op_ne (de_var 1 (pv 1) rfl) de_int rv_neI (nomark _)) (fun x hx ht => ?_) (fun x hx ht => ?_))⟩
    · obtain ⟨u, v⟩ := x
      have hv : v ≠ 0 := fun z => by subst z; simp at ht
      refine ⟨?_, Nat.mod_lt _ (by omega), ?_⟩
      · show Nat.gcd v (u % v) = _
        rw [Nat.gcd_comm v, ← Nat.gcd_rec, Nat.gcd_comm]; exact hx
      · have e : ((u : Int)).fmod (v : Int) = ((u % v : Nat) : Int) := by rw [Int.fmod_eq_emod_of_nonneg _ (by omega)]; rfl
        rw [← e]
        exact dss_one (ds_par (i := 0) (j := 1) rfl sc_lcommon.nd rfl rfl (by decide) rfl rfl (da_cons (de_var 1 (pv 1) rfl) (da_cons (de_mod (de_var 0 (pv 0) rfl) (de_var 1 (pv 1) rfl) (by omega)) da_nil)) (by rfl))
    · obtain ⟨u, v⟩ := x
      have hv : v = 0 := by
        have : ((v : Int)) = 0 := by simpa using ht
        omega
      subst hv
      rw [← hx]
      show DSs _ _ _ _ (.rt (.int (Nat.gcd u 0 : Nat)) _)
      rw [Nat.gcd_zero_right]
      exact dss_one (ds_ret (de_var 0 (pv 0) rfl))
theorem sc_lfraction : FnScope ["_law_n", "_law_d", "_law_sign", "_law_divisor"] ["_law_n", "_law_d"] (defScope (top 61)) := ⟨rfl, rfl, rfl, by decide +kernel, rfl, by decide +kernel, by decide +kernel⟩
theorem ok_lfraction (h : Has K mg "_law_fraction" (top 61)) (Gc : Good P w K mg base 1 "_law_common" ["_law_a", "_law_b"] (spF K R_lcommon)) : Good P w K mg base 2 "_law_fraction" ["_law_n", "_law_d"] (spF K R_fraction) := by
  obtain ⟨f, fd, F, hm⟩ := h.ex
  refine good_F (k := 1) F hm sc_lfraction (F.bindsN fun _ _ _ _ _ _ us hl => match us, hl with | [_, _], _ => rfl) (fun ds d h => by cases h; rfl) fun cdv A outer s H E ds d hr h => ?_
  cases h with
  | mk n d hd hb =>
    have hg := fracG_ne (n := n) hd
    have hl : (fracG n d).natAbs.log2 < 9000 := B.log (hb.le (fracG_le hd)) (by decide)
    have he : PyData.tuple [.int (n.fdiv (fracG n d)), .int (d.fdiv (fracG n d))] = eF (Rat.divInt n d) := by rw [fracG_num hd, fracG_den hd]
    have gb : B 9000 (Nat.gcd n.natAbs d.natAbs : Nat) := hb.le (by
      have := Nat.gcd_le_right n.natAbs (Int.natAbs_pos.mpr hd)
      show (Nat.gcd n.natAbs d.natAbs : Nat) ≤ _
      exact this)
    have sb : B 1 (if d > 0 then 1 else 0 - 1 : Int) := by
      split
      · show (1 : Nat) < 2 ^ 1; decide
      · show (1 : Nat) < 2 ^ 1; decide
    refine ⟨{}, dss_cons (ds_set (i := 2) (d := .int (if d > 0 then 1 else 0 - 1 : Int)) sc_lfraction.nd rfl (.inl rfl) (de_if (S1 := {}) (dt_cmp op_gt (de_var 1 (pv 1) rfl) de_int rv_gt (nomark _)) (fun hx => de_eq de_int ?_) (fun hx => de_eq (de_sub de_int de_int) ?_)))
     (dss_cons (ds_set (i := 3) (d := .int (fracG n d)) sc_lfraction.nd rfl (.inl rfl) (de_eq (de_mul (de_call Gc hr (da_cons (de_var 0 (pv 0) rfl) (da_cons (de_var 1 (pv 1) rfl) da_nil)) (.mk n d)) (de_var 2 (pv 2) rfl) (mulWB gb sb (by decide))) (congrArg PyData.int (lfrac_eq n d))))
      (dss_one (ds_ret (de_eq (de_tup (da_cons (de_fdiv (de_var 0 (pv 0) rfl) (de_var 3 (pv 3) rfl) hg hl) (da_cons (de_fdiv (de_var 1 (pv 1) rfl) (de_var 3 (pv 3) rfl) hg hl) da_nil)) (by show 2 ≤ 100000; decide)) he))))⟩
    · rw [if_pos (of_decide_eq_true hx)]
    · rw [if_neg (of_decide_eq_false hx)]
theorem sc_lsum : FnScope ["_law_x", "_law_y"] ["_law_x", "_law_y"] (defScope (top 62)) := ⟨rfl, rfl, rfl, by decide +kernel, rfl, by decide +kernel, by decide +kernel⟩
theorem ok_lsum (h : Has K mg "_law_sum" (top 62)) (Gf : Good P w K mg base 2 "_law_fraction" ["_law_n", "_law_d"] (spF K R_fraction)) : Good P w K mg base 3 "_law_sum" ["_law_x", "_law_y"] (spF K R_plus) := by
  obtain ⟨f, fd, F, hm⟩ := h.ex
  refine good_F (k := 2) F hm sc_lsum (F.bindsN fun _ _ _ _ _ _ us hl => match us, hl with | [_, _], _ => rfl) (fun ds d h => by cases h; rfl) fun cdv A outer s H E ds d hr h => ?_
  cases h with
  | mk x y hx hy hl =>
    refine ⟨{}, ?_⟩
    rw [← rat_add]
    exact (dss_one (ds_ret (de_call Gf hr (da_cons (de_add (de_mul (de_ixT (de_var 0 (pv 0) rfl) de_int rfl) (de_ixT (de_var 1 (pv 1) rfl) de_int rfl) (mulWB hx.1 hy.2 (by omega))) (de_mul (de_ixT (de_var 1 (pv 1) rfl) de_int rfl) (de_ixT (de_var 0 (pv 0) rfl) de_int rfl) (mulWB hy.1 hx.2 (by omega)))) (da_cons (de_mul (de_ixT (de_var 0 (pv 0) rfl) de_int rfl) (de_ixT (de_var 1 (pv 1) rfl) de_int rfl) (mulWB hx.2 hy.2 (by omega))) da_nil)) (.mk _ _ (Int.mul_ne_zero (den_ne x) (den_ne y)) ((hx.2.mul hy.2).mono (by omega))))))
theorem sc_lproduct : FnScope ["_law_x", "_law_y"] ["_law_x", "_law_y"] (defScope (top 63)) := ⟨rfl, rfl, rfl, by decide +kernel, rfl, by decide +kernel, by decide +kernel⟩
theorem ok_lproduct (h : Has K mg "_law_product" (top 63)) (Gf : Good P w K mg base 2 "_law_fraction" ["_law_n", "_law_d"] (spF K R_fraction)) : Good P w K mg base 3 "_law_product" ["_law_x", "_law_y"] (spF K R_times) := by
  obtain ⟨f, fd, F, hm⟩ := h.ex
  refine good_F (k := 2) F hm sc_lproduct (F.bindsN fun _ _ _ _ _ _ us hl => match us, hl with | [_, _], _ => rfl) (fun ds d h => by cases h; rfl) fun cdv A outer s H E ds d hr h => ?_
  cases h with
  | mk x y hx hy hl =>
    refine ⟨{}, ?_⟩
    rw [← rat_mul]
    exact (dss_one (ds_ret (de_call Gf hr (da_cons (de_mul (de_ixT (de_var 0 (pv 0) rfl) de_int rfl) (de_ixT (de_var 1 (pv 1) rfl) de_int rfl) (mulWB hx.1 hy.1 (by omega))) (da_cons (de_mul (de_ixT (de_var 0 (pv 0) rfl) de_int rfl) (de_ixT (de_var 1 (pv 1) rfl) de_int rfl) (mulWB hx.2 hy.2 (by omega))) da_nil)) (.mk _ _ (Int.mul_ne_zero (den_ne x) (den_ne y)) ((hx.2.mul hy.2).mono (by omega))))))
theorem sc_lparts : FnScope ["_law_p", "_law_x", "_law_found", "_law_n", "_law_d"] ["_law_p", "_law_x"] (defScope (top 64)) := ⟨rfl, rfl, rfl, by decide +kernel, rfl, by decide +kernel, by decide +kernel⟩
theorem ok_lparts (h : Has K mg "_law_parts" (top 64)) : Good P w K mg base 1 "_law_parts" ["_law_p", "_law_x"] (spF K R_lparts) := by
  obtain ⟨f, fd, F, hm⟩ := h.ex
  refine good_F (k := 0) F hm sc_lparts (F.bindsN fun _ _ _ _ _ _ us hl => match us, hl with | [_, _], _ => rfl) (fun ds d h => by cases h; rfl) fun cdv A outer s H E ds d hr h => ?_
  cases h with
  | mk p n d hp hn hd =>
    have hp0 := hp.pos
    have hp1 : (1 : Int) < p := by have := hp.two; omega
    have hpn : (p : Int) ≠ 0 := by omega
    refine ⟨{}, dss_cons (ds_par3 (S1 := {}) (i := 2) (j := 3) (l := 4) (da := .int 0) rfl sc_lparts.nd rfl rfl rfl (by decide) (by decide) (by decide) rfl rfl rfl (da_cons (de_if (S1 := {}) (dt_cmp op_eq (de_ixT (de_var 1 (pv 1) rfl) de_int rfl) de_int rv_eqI (nomark _)) (fun hx => absurd (of_decide_eq_true hx) hn) (fun hx => de_int)) (da_cons (de_ixT (de_var 1 (pv 1) rfl) de_int rfl) (da_cons (de_ixT (de_var 1 (pv 1) rfl) de_int rfl) da_nil))) (by rfl))
      (dss_while PassesOwn.never (fun a : Nat × Int => [.dat (.int p), .dat (.tuple [.int n, .int d]), .dat (.int a.1), .dat (.int a.2), .dat (.int d)]) (fun _ => {}) (fun a => n = (p : Int) ^ a.1 * a.2 ∧ a.2 ≠ 0) (fun a => a.2.natAbs) (fun a => decide (a.2 % (p : Int) = 0)) (fun a => (a.1 + 1, a.2 / (p : Int))) (0, n) ⟨by simp, hn⟩ rfl rfl
      (fun a ha => ?_) (fun a ha ht => ?_) (fun a ha ht => ?_))⟩
    · refine dt_eq (dt_w (dw_and (dt_cmp op_gt (de_var 0 (pv 0) rfl) de_int rv_gt (nomark _)) fun hx => (dw_and (dt_cmp op_ne (de_var 3 (pv 3) rfl) de_int rv_neI (nomark _)) fun hx => (dw_and1 (dt_cmp op_eq (de_mod (de_var 3 (pv 3) rfl) (de_var 0 (pv 0) rfl) hpn) de_int rv_eqI (nomark _)))))) ?_
      rw [decide_eq_true hp1, decide_eq_false ha.2, fmod_pos hp0]; rfl
    · obtain ⟨k, m⟩ := a
      obtain ⟨e, m0⟩ := ha
      have hdv : (p : Int) ∣ m := Int.dvd_of_emod_eq_zero (of_decide_eq_true ht)
      obtain ⟨q1, q2, q3⟩ := natAbs_div_lt hp.two m0 hdv
      refine ⟨⟨?_, q2⟩, q1, ?_⟩
      · show n = (p : Int) ^ (k + 1) * (m / (p : Int))
        rw [Int.pow_succ, Int.mul_assoc, ← q3]; exact e
      · rw [← fdiv_pos hp0]
        exact dss_nx (dss_one (ds_par (i := 2) (j := 3) rfl sc_lparts.nd rfl rfl (by decide) rfl rfl (da_cons (de_add (de_var 2 (pv 2) rfl) de_int) (da_cons (de_fdiv (de_var 3 (pv 3) rfl) (de_var 0 (pv 0) rfl) hpn hp.lg) da_nil)) (by rfl))) rfl
    · obtain ⟨k, m⟩ := a
      obtain ⟨e, m0⟩ := ha
      obtain ⟨q1, q2⟩ := vI_end hp e fun z => of_decide_eq_false ht (Int.emod_eq_zero_of_dvd z)
      subst q1
      refine dss_while PassesOwn.never (fun a : Nat × Int => [.dat (.int p), .dat (.tuple [.int n, .int d]), .dat (.int ((vI p n : Int) - a.1)), .dat (.int m), .dat (.int a.2)]) (fun _ => {}) (fun a => d = (p : Int) ^ a.1 * a.2 ∧ a.2 ≠ 0) (fun a => a.2.natAbs) (fun a => decide (a.2 % (p : Int) = 0)) (fun a => (a.1 + 1, a.2 / (p : Int))) (0, d) ⟨by simp, hd⟩ (by show _ = [Sl.dat (PyData.int p), .dat (.tuple [.int n, .int d]), .dat (.int ((vI p n : Int) - ((0 : Nat) : Int))), .dat (.int m), .dat (.int d)]; rw [show ((vI p n : Int) - ((0 : Nat) : Int)) = (vI p n : Int) by omega]) rfl
       (fun a ha => ?_) (fun a ha ht => ?_) (fun a ha ht => ?_)
      · refine dt_eq (dt_w (dw_and (dt_cmp op_gt (de_var 0 (pv 0) rfl) de_int rv_gt (nomark _)) fun hx => (dw_and (dt_cmp op_ne (de_var 4 (pv 4) rfl) de_int rv_neI (nomark _)) fun hx => (dw_and1 (dt_cmp op_eq (de_mod (de_var 4 (pv 4) rfl) (de_var 0 (pv 0) rfl) hpn) de_int rv_eqI (nomark _)))))) ?_
        rw [decide_eq_true hp1, decide_eq_false ha.2, fmod_pos hp0]; rfl
      · obtain ⟨k, m'⟩ := a
        obtain ⟨e, m0⟩ := ha
        have hdv : (p : Int) ∣ m' := Int.dvd_of_emod_eq_zero (of_decide_eq_true ht)
        obtain ⟨q1, q2, q3⟩ := natAbs_div_lt hp.two m0 hdv
        refine ⟨⟨?_, q2⟩, q1, ?_⟩
        · show d = (p : Int) ^ (k + 1) * (m' / (p : Int))
          rw [Int.pow_succ, Int.mul_assoc, ← q3]; exact e
        · rw [← fdiv_pos hp0]
          refine dss_nx (dss_one (ds_par (i := 2) (j := 4) rfl sc_lparts.nd rfl rfl (by decide) rfl rfl (da_cons (de_sub (de_var 2 (pv 2) rfl) de_int) (da_cons (de_fdiv (de_var 4 (pv 4) rfl) (de_var 0 (pv 0) rfl) hpn hp.lg) da_nil)) (by rfl))) ?_
          show [Sl.dat (PyData.int p), .dat (.tuple [.int n, .int d]), .dat (.int ((vI p n : Int) - (k : Int) - 1)), .dat (.int m), .dat (.int (m'.fdiv p))] = [Sl.dat (PyData.int p), .dat (.tuple [.int n, .int d]), .dat (.int ((vI p n : Int) - ((k + 1 : Nat) : Int))), .dat (.int m), .dat (.int (m'.fdiv p))]
          rw [show (vI p n : Int) - (k : Int) - 1 = (vI p n : Int) - ((k + 1 : Nat) : Int) by omega]
      · obtain ⟨k, m'⟩ := a
        obtain ⟨e, m0⟩ := ha
        obtain ⟨q1, q2⟩ := vI_end hp e fun z => of_decide_eq_false ht (Int.emod_eq_zero_of_dvd z)
        rw [← q1]
        exact dss_one (ds_ret (de_var 2 (pv 2) rfl))
theorem sc_lpower : FnScope ["_law_p", "_law_n"] ["_law_p", "_law_n"] (defScope (top 65)) := ⟨rfl, rfl, rfl, by decide +kernel, rfl, by decide +kernel, by decide +kernel⟩
theorem ok_lpower (h : Has K mg "_law_power" (top 65)) (Gr : Good P w K mg base 1 "_law_raised" ["_law_p", "_law_n"] (spF K R_raised)) : Good P w K mg base 2 "_law_power" ["_law_p", "_law_n"] (spF K R_power_of) := by
  obtain ⟨f, fd, F, hm⟩ := h.ex
  refine good_F (k := 1) F hm sc_lpower (F.bindsN fun _ _ _ _ _ _ us hl => match us, hl with | [_, _], _ => rfl) (fun ds d h => by cases h <;> rfl) fun cdv A outer s H E ds d hr h => ?_
  cases h with
  | mk p n hp hn =>
    refine ⟨{}, dss_one (ds_ret (de_if (S1 := {}) (dt_cmp op_ge (de_var 1 (pv 1) rfl) de_int rv_ge (nomark _)) (fun hx => ?_) (fun hx => ?_)))⟩
    · obtain ⟨e1, e2⟩ := powQ_pos (p := p) (of_decide_eq_true hx)
      refine de_eq (de_tup (da_cons (de_call Gr hr (da_cons (de_var 0 (pv 0) rfl) (da_cons (de_var 1 (pv 1) rfl) da_nil)) (.mk _ _ (hp.b7.mono (by decide)) (by omega))) (da_cons de_int da_nil)) (by show 2 ≤ 100000; decide)) ?_
      show PyData.tuple [.int _, .int _] = PyData.tuple [.int _, .int _]
      rw [e1, e2]; rfl
    · obtain ⟨e1, e2⟩ := powQ_neg (p := p) (n := n) (by have := hp.two; omega) (by have := of_decide_eq_false hx; omega)
      refine de_eq (de_tup (da_cons de_int (da_cons (de_call Gr hr (da_cons (de_var 0 (pv 0) rfl) (da_cons (de_sub de_int (de_var 1 (pv 1) rfl)) da_nil)) (.mk _ _ (hp.b7.mono (by decide)) (by omega))) da_nil)) (by show 2 ≤ 100000; decide)) ?_
      show PyData.tuple [.int _, .int _] = PyData.tuple [.int _, .int _]
      rw [e1, e2, Int.zero_sub]
theorem sc_lturned : FnScope ["_law_n", "_law_m", "_law_a", "_law_b", "_law_u", "_law_v"] ["_law_n", "_law_m"] (defScope (top 66)) := ⟨rfl, rfl, rfl, by decide +kernel, rfl, by decide +kernel, by decide +kernel⟩
theorem ok_lturned (h : Has K mg "_law_turned" (top 66)) : Good P w K mg base 1 "_law_turned" ["_law_n", "_law_m"] (spF K R_inverse) := by
  obtain ⟨f, fd, F, hm⟩ := h.ex
  refine good_F (k := 0) F hm sc_lturned (F.bindsN fun _ _ _ _ _ _ us hl => match us, hl with | [_, _], _ => rfl) (fun ds d h => by cases h <;> rfl) fun cdv A outer s H E ds d hr h => ?_
  cases h with
  | mk n m hw hb hc =>
    have e0 : n.fmod m = n % m := fmod_pos hw
    refine ⟨{}, dss_cons (ds_asg (de_tup (da_cons (de_var 1 (pv 1) rfl) (da_cons (de_mod (de_var 0 (pv 0) rfl) (de_var 1 (pv 1) rfl) (by omega)) (da_cons de_int (da_cons de_int da_nil)))) (by show 4 ≤ 100000; decide)) (dg_tup rfl (dgs_cons (dg_name (i := 2) sc_lturned.nd rfl (.inl rfl)) (dgs_cons (dg_name (i := 3) sc_lturned.nd rfl (.inl rfl)) (dgs_cons (dg_name (i := 4) sc_lturned.nd rfl (.inl rfl)) (dgs_cons (dg_name (i := 5) sc_lturned.nd rfl (.inl rfl)) dgs_nil))))))
      (dss_while PassesOwn.never (fun a : Int × Int × Int × Int => [.dat (.int n), .dat (.int m), .dat (.int a.1), .dat (.int a.2.1), .dat (.int a.2.2.1), .dat (.int a.2.2.2)]) (fun _ => {}) (fun a => Ew n m a) (fun a => a.2.1.natAbs) (fun a => !decide (a.2.1 = 0)) euN (m, n % m, 0, 1) (Ew.start2 hw hc) (by rw [e0]; rfl) rfl
      (fun a ha => ?_) (fun a ha ht => ?_) (fun a ha ht => ?_))⟩
    · exact dt_cmp op_ne (de_var 3 (pv 3) rfl) de_int rv_neI (nomark _)
    · have hb0 : a.2.1 ≠ 0 := fun z => by simp [z] at ht
      obtain ⟨h1, h2⟩ := Ew.step ha hb0
      obtain ⟨b1, b2, b3, b4, b5⟩ := Ew.bnd hb ha
      have hpos : 0 < a.2.1 := by have := ha.eu.b0; have : (0:Int) ≤ a.2.1 := this; omega
      refine ⟨h1, h2, ?_⟩
      have e1 : a.1.fdiv a.2.1 = a.1 / a.2.1 := fdiv_pos hpos
      have e2 : a.1.fmod a.2.1 = a.1 - a.1 / a.2.1 * a.2.1 := by rw [fmod_pos hpos]; have := Int.emod_add_mul_ediv a.1 a.2.1; grind
      refine dss_nx (dss_one (ds_asg (de_tup (da_cons (de_var 3 (pv 3) rfl) (da_cons (de_eq (de_mod (de_var 2 (pv 2) rfl) (de_var 3 (pv 3) rfl) hb0) (congrArg PyData.int e2)) (da_cons (de_var 5 (pv 5) rfl) (da_cons (de_sub (de_var 4 (pv 4) rfl) (de_mul (de_eq (de_fdiv (de_var 2 (pv 2) rfl) (de_var 3 (pv 3) rfl) hb0 (b2.lg (by decide) (by decide))) (congrArg PyData.int e1)) (de_var 5 (pv 5) rfl) (mulW b5 b4 (by decide) (by decide) (by decide)))) da_nil)))) (by show 4 ≤ 100000; decide)) (dg_tup rfl (dgs_cons (dg_name (i := 2) sc_lturned.nd rfl (.inl rfl)) (dgs_cons (dg_name (i := 3) sc_lturned.nd rfl (.inl rfl)) (dgs_cons (dg_name (i := 4) sc_lturned.nd rfl (.inl rfl)) (dgs_cons (dg_name (i := 5) sc_lturned.nd rfl (.inl rfl)) dgs_nil))))))) rfl
    · have hb0 : a.2.1 = 0 := by simpa using ht
      exact dss_one (ds_ret (de_eq (de_mod (de_var 4 (pv 4) rfl) (de_var 1 (pv 1) rfl) (by omega)) (congrArg PyData.int ((fmod_pos hw).trans (Ew.done hw ha hb0)))))
end
end Bm
namespace Bm
open PySem PySem.Spec PyProof.Rows L2 G
theorem vI_1 (p : Nat) : vI p 1 = 0 := vN_one p
theorem vI_den (p : Nat) (x : Rat) : vI p (x.den : Int) = vN p x.den := rfl
inductive R_lhas : List PyData → PyData → Prop
  | mk (p : Nat) (β : Bq) (x : Rat) {j k l : Nat} (hp : IsP p) (hb : BB p k l β) (hx : HR j x) (hl : j + (k + l) ≤ 8000) : R_lhas [.int p, eB β, eF x] (.bool (hasQ p β x))
inductive R_lmove : List PyData → PyData → Prop
  | mk (m : M4) {k : Nat} (hb : MB k m) (hk : k ≤ 8900) (h0 : firstM m ≠ 0) : R_lmove [.int m.a, .int m.b, .int m.c, .int m.d] (eM (formM m))
theorem ballQ_zero (p : Nat) (n : Int) : ballQ p n 0 = ⟨n, 0⟩ := by
  unfold ballQ
  split
  · rfl
  · congr 1
    have e : ((0 : Rat).num * invF (((0 : Rat).den : Int) / (p : Int) ^ vN p (0 : Rat).den) ((p : Int) ^ (n + (vN p (0 : Rat).den : Int)).toNat)) % (p : Int) ^ (n + (vN p (0 : Rat).den : Int)).toNat = 0 := by
      show (0 * _) % _ = (0 : Int)
      rw [Int.zero_mul, Int.zero_emod]
    rw [e, Rat.zero_divInt]
theorem inv_pos_eq {x : Rat} (h : 0 < x.num) : PyData.tuple [.int (x.den : Int), .int x.num] = eF x⁻¹ := by
  show _ = PyData.tuple [.int (x⁻¹).num, .int ((x⁻¹).den : Int)]
  rw [Rat.num_inv, Rat.den_inv, if_neg (by omega), Int.sign_eq_one_of_pos h, Int.one_mul]
  congr 3
  congr 1
  omega
theorem inv_neg_eq {x : Rat} (h : x.num < 0) : PyData.tuple [.int (0 - (x.den : Int)), .int (0 - x.num)] = eF x⁻¹ := by
  show _ = PyData.tuple [.int (x⁻¹).num, .int ((x⁻¹).den : Int)]
  rw [Rat.num_inv, Rat.den_inv, if_neg (by omega), Int.sign_eq_neg_one_of_neg h]
  have e1 : 0 - (x.den : Int) = -1 * (x.den : Int) := by omega
  have e2 : 0 - x.num = (x.num.natAbs : Int) := by omega
  rw [e1, e2]
theorem law_left {u1 u2 v1 v2 : Rat} : (u1 + -(u2 * v2⁻¹) * v1) * v2⁻¹ = (u1 - u2 / v2 * v1) / v2 := by
  rw [Rat.div_def, Rat.div_def]; grind
theorem gcd4_law (a b c d : Int) : (Nat.gcd (((Nat.gcd a.natAbs b.natAbs : Nat) : Int)).natAbs (((Nat.gcd c.natAbs d.natAbs : Nat) : Int)).natAbs) = gcd4 ⟨a, b, c, d⟩ := by
  show Nat.gcd (Nat.gcd a.natAbs b.natAbs) (Nat.gcd c.natAbs d.natAbs) = Nat.gcd (Nat.gcd (Nat.gcd a.natAbs b.natAbs) c.natAbs) d.natAbs
  exact (Nat.gcd_assoc _ _ _).symm
section
variable {P : Program} {w : World} {K : PySem.W.Frag} {mg : Str → Option Value} {base : Heap}
theorem sc_lball : FnScope ["_law_p", "_law_n", "_law_x", "_law_least", "_law_most", "_law_unit"] ["_law_p", "_law_n", "_law_x"] (defScope (top 67)) := ⟨rfl, rfl, rfl, by decide +kernel, rfl, by decide +kernel, by decide +kernel⟩
theorem ok_lball (h : Has K mg "_law_ball" (top 67)) (Gp : Good P w K mg base 1 "_law_parts" ["_law_p", "_law_x"] (spF K R_lparts)) (Gr : Good P w K mg base 1 "_law_raised" ["_law_p", "_law_n"] (spF K R_raised)) (Gt : Good P w K mg base 1 "_law_turned" ["_law_n", "_law_m"] (spF K R_inverse)) (Gf : Good P w K mg base 2 "_law_fraction" ["_law_n", "_law_d"] (spF K R_fraction)) : Good P w K mg base 3 "_law_ball" ["_law_p", "_law_n", "_law_x"] (spF K R_ball) := by
  obtain ⟨f, fd, F, hm⟩ := h.ex
  refine good_F (k := 2) F hm sc_lball (F.bindsN fun _ _ _ _ _ _ us hl => match us, hl with | [_, _, _], _ => rfl) (fun ds d h => by cases h <;> rfl) fun cdv A outer s H E ds d hr h => ?_
  cases h with
  | mk p n x hb =>
    have hp := hb.pr
    have hlow := vN_le hp x.den_nz (show x.den < 2 ^ 4400 from hb.hx.2)
    have pl := ppos hp (vN p x.den)
    have h40 := hb.n40
    refine ⟨{}, dss_ifr (dt_cmp op_eq (de_ixT (de_var 2 (pv 2) rfl) de_int rfl) de_int rv_eqI (nomark _)) (fun hx => ?_) (fun hx => ?_)⟩
    · have : x = 0 := Rat.num_eq_zero.mp (of_decide_eq_true hx)
      subst this
      rw [ballQ_zero]
      exact dss_one (ds_ret (de_tup (da_cons (de_var 1 (pv 1) rfl) (da_cons (de_tup (da_cons de_int (da_cons de_int da_nil)) (by show 2 ≤ 100000; decide)) da_nil)) (by show 2 ≤ 100000; decide)))
    · have e1 : (vI p 1 : Int) - (vI p (x.den : Int) : Int) = -(vN p x.den : Int) := by rw [vI_1, vI_den]; omega
      refine (dss_cons (ds_set (i := 3) (d := .int (-(vN p x.den : Int))) sc_lball.nd rfl (.inl rfl) (de_eq (de_call Gp (hr.mono (by decide)) (da_cons (de_var 0 (pv 0) rfl) (da_cons (de_tup (da_cons de_int (da_cons (de_ixT (de_var 2 (pv 2) rfl) de_int rfl) da_nil)) (by show 2 ≤ 100000; decide)) da_nil)) (.mk p 1 _ hp (by decide) (den_ne x))) (congrArg PyData.int e1)))
        (dss_ifr (dt_cmp op_le (de_var 1 (pv 1) rfl) (de_var 3 (pv 3) rfl) rv_le (nomark _)) (fun hx => ?_) (fun hx => ?_)))
      · have hle := of_decide_eq_true hx
        have e : ballQ p n x = ⟨n, 0⟩ := by unfold ballQ; rw [if_pos (by omega)]
        rw [e]
        exact dss_one (ds_ret (de_tup (da_cons (de_var 1 (pv 1) rfl) (da_cons (de_tup (da_cons de_int (da_cons de_int da_nil)) (by show 2 ≤ 100000; decide)) da_nil)) (by show 2 ≤ 100000; decide)))
      · have hgt := of_decide_eq_false hx
        have hw : B 8500 ((p : Int) ^ (n + (vN p x.den : Int)).toNat) := hb.hw.resolve_left (by omega)
        have e2 : n - -(vN p x.den : Int) = n + (vN p x.den : Int) := by omega
        have e3 : (0 - -(vN p x.den : Int)).toNat = vN p x.den := by omega
        have p7 := hp.b7.mono (show 7 ≤ 60 by decide)
        have wpos := ppos hp (n + (vN p x.den : Int)).toNat
        have lb : B 4400 ((p : Int) ^ vN p x.den) := B_pow_den hp hb.hx
        have hraise : ∀ (X : Cx), True := fun _ => trivial
        refine (dss_cons (ds_par (i := 4) (j := 5) (da := .int ((p : Int) ^ (n + (vN p x.den : Int)).toNat)) (db := .int ((x.den : Int) / (p : Int) ^ vN p x.den)) rfl sc_lball.nd rfl rfl (by decide) rfl rfl (da_cons (de_eq (de_call Gr (hr.mono (by decide)) (da_cons (de_var 0 (pv 0) rfl) (da_cons (de_sub (de_var 1 (pv 1) rfl) (de_var 3 (pv 3) rfl)) da_nil)) (.mk _ _ p7 (by omega))) (by rw [e2])) (da_cons (de_eq (de_fdiv (de_ixT (de_var 2 (pv 2) rfl) de_int rfl) (de_eq (d := .int ((p : Int) ^ vN p x.den)) (de_call Gr (hr.mono (by decide)) (da_cons (de_var 0 (pv 0) rfl) (da_cons (de_sub de_int (de_var 3 (pv 3) rfl)) da_nil)) (.mk _ _ p7 (by omega))) (by rw [e3])) (by omega) (lb.lg (by decide) (by decide))) (congrArg PyData.int (fdiv_pos pl))) da_nil)) (by rfl))
          (dss_one (ds_ret (de_eq (de_tup (da_cons (de_var 1 (pv 1) rfl) (da_cons (de_call Gf hr (da_cons (de_mod (de_mul (de_ixT (de_var 2 (pv 2) rfl) de_int rfl) (de_call Gt (hr.mono (by decide)) (da_cons (de_var 5 (pv 5) rfl) (da_cons (de_var 4 (pv 4) rfl) da_nil)) (.mk _ _ wpos hw (unit_cop hp x _))) (mulWB hb.hx.1 (invF_bnd wpos hw (unit_cop hp x _)) (by decide))) (de_var 4 (pv 4) rfl) (by omega)) (da_cons (de_eq (d := .int ((p : Int) ^ vN p x.den)) (de_call Gr (hr.mono (by decide)) (da_cons (de_var 0 (pv 0) rfl) (da_cons (de_sub de_int (de_var 3 (pv 3) rfl)) da_nil)) (.mk _ _ p7 (by omega))) (by rw [e3])) da_nil)) (.mk _ _ (by omega) (lb.mono (by decide)))) da_nil)) (by show 2 ≤ 100000; decide)) ?_))))
        unfold ballQ
        rw [if_neg (by omega), fmod_pos wpos]
theorem sc_lhas : FnScope ["_law_p", "_law_spot", "_law_x", "_law_gap"] ["_law_p", "_law_spot", "_law_x"] (defScope (top 68)) := ⟨rfl, rfl, rfl, by decide +kernel, rfl, by decide +kernel, by decide +kernel⟩
theorem ok_lhas (h : Has K mg "_law_has" (top 68)) (Gp : Good P w K mg base 1 "_law_parts" ["_law_p", "_law_x"] (spF K R_lparts)) (Gs : Good P w K mg base 3 "_law_sum" ["_law_x", "_law_y"] (spF K R_plus)) : Good P w K mg base 4 "_law_has" ["_law_p", "_law_spot", "_law_x"] (spF K R_lhas) := by
  obtain ⟨f, fd, F, hm⟩ := h.ex
  refine good_F (k := 3) F hm sc_lhas (F.bindsN fun _ _ _ _ _ _ us hl => match us, hl with | [_, _, _], _ => rfl) (fun ds d h => by cases h <;> rfl) fun cdv A outer s H E ds d hr h => ?_
  cases h with
  | mk p β x hp hb hx hl =>
    refine ⟨{}, (dss_cons (ds_set (i := 3) (d := eF (x - β.q)) sc_lhas.nd rfl (.inl rfl) (de_eq (de_call Gs hr (da_cons (de_var 2 (pv 2) rfl) (da_cons (de_eq (de_tup (da_cons (de_sub de_int (de_ixT (de_ixT (de_var 1 (pv 1) rfl) de_int rfl) de_int rfl)) (da_cons (de_ixT (de_ixT (de_var 1 (pv 1) rfl) de_int rfl) de_int rfl) da_nil)) (by show 2 ≤ 100000; decide)) (eF_neg β.q)) da_nil)) (.mk x (-β.q) hx hb.hr.neg (by omega))) (by rw [add_neg])))
 (dss_one (ds_ret (de_eq (de_or (y := decide (vQ p (x - β.q) ≥ β.n)) (de_cmp op_eq (de_ixT (de_var 3 (pv 3) rfl) de_int rfl) de_int rv_eqI (nomark _)) fun hx => (de_one (de_cmp op_ge (de_call Gp (hr.mono (by decide)) (da_cons (de_var 0 (pv 0) rfl) (da_cons (de_var 3 (pv 3) rfl) da_nil)) (.mk p _ _ hp (of_decide_eq_false hx) (den_ne _))) (de_ixT (de_var 1 (pv 1) rfl) de_int rfl) rv_ge (nomark _)))) ?_))))⟩
    unfold hasQ
    congr 2
    exact decide_eq_decide.mpr Rat.num_eq_zero
theorem sc_lsteps : FnScope ["_law_p", "_law_one", "_law_other", "_law_gap", "_law_least"] ["_law_p", "_law_one", "_law_other"] (defScope (top 69)) := ⟨rfl, rfl, rfl, by decide +kernel, rfl, by decide +kernel, by decide +kernel⟩
theorem ok_lsteps (Bl : Bl mg) (h : Has K mg "_law_steps" (top 69)) (Gp : Good P w K mg base 1 "_law_parts" ["_law_p", "_law_x"] (spF K R_lparts)) (Gs : Good P w K mg base 3 "_law_sum" ["_law_x", "_law_y"] (spF K R_plus)) : Good P w K mg base 4 "_law_steps" ["_law_p", "_law_one", "_law_other"] (spF K R_steps) := by
  obtain ⟨f, fd, F, hm⟩ := h.ex
  refine good_F (k := 3) F hm sc_lsteps (F.bindsN fun _ _ _ _ _ _ us hl => match us, hl with | [_, _, _], _ => rfl) (fun ds d h => by cases h <;> rfl) fun cdv A outer s H E ds d hr h => ?_
  cases h with
  | mk p β γ hp hb hc hl =>
    rename_i k l k' l'
    have hT := (top_B hp hb hc).lt hp
    refine ⟨{}, (dss_cons (ds_set (i := 3) (d := eF (β.q - γ.q)) sc_lsteps.nd rfl (.inl rfl) (de_eq (de_call Gs hr (da_cons (de_ixT (de_var 1 (pv 1) rfl) de_int rfl) (da_cons (de_eq (de_tup (da_cons (de_sub de_int (de_ixT (de_ixT (de_var 2 (pv 2) rfl) de_int rfl) de_int rfl)) (da_cons (de_ixT (de_ixT (de_var 2 (pv 2) rfl) de_int rfl) de_int rfl) da_nil)) (by show 2 ≤ 100000; decide)) (eF_neg γ.q)) da_nil)) (.mk _ _ hb.hr hc.hr.neg (by omega))) (by rw [add_neg])))
 (dss_cons (ds_set (i := 4) (d := .int (topQ p β γ)) sc_lsteps.nd rfl (.inl rfl) (de_if (S1 := {}) (dt_cmp op_eq (de_ixT (de_var 3 (pv 3) rfl) de_int rfl) de_int rv_eqI (nomark _)) (fun hx => ?_) (fun hx => ?_)))
 (dss_one (ds_ret (de_sub (de_add (de_ixT (de_var 1 (pv 1) rfl) de_int rfl) (de_ixT (de_var 2 (pv 2) rfl) de_int rfl)) (de_mul de_int (de_var 4 (pv 4) rfl) (mulWB (j := 2) (by show (2 : Nat) < 2 ^ 2; decide) (smallB hT (by omega)) (by decide))))))))⟩
    · have := Rat.num_eq_zero.mp (of_decide_eq_true hx)
      refine de_eq (de_cb (call_min2 rfl) Bl.min (by decide +kernel) (da_cons (de_ixT (de_var 1 (pv 1) rfl) de_int rfl) (da_cons (de_ixT (de_var 2 (pv 2) rfl) de_int rfl) da_nil)) rc_min) ?_
      unfold topQ; rw [if_pos this]
    · have hne : ¬ β.q - γ.q = 0 := fun z => of_decide_eq_false hx (by rw [z]; rfl)
      refine de_eq (de_cb (call_min3 rfl) Bl.min (by decide +kernel) (da_cons (de_ixT (de_var 1 (pv 1) rfl) de_int rfl) (da_cons (de_ixT (de_var 2 (pv 2) rfl) de_int rfl) (da_cons (de_call Gp (hr.mono (by decide)) (da_cons (de_var 0 (pv 0) rfl) (da_cons (de_var 3 (pv 3) rfl) da_nil)) (.mk p _ _ hp (of_decide_eq_false hx) (den_ne _))) da_nil))) rc_min3) ?_
      unfold topQ; rw [if_neg hne]; rfl
theorem sc_lmove : FnScope ["_law_a", "_law_b", "_law_c", "_law_d", "_law_divisor", "_law_first", "_law_x"] ["_law_a", "_law_b", "_law_c", "_law_d"] (defScope (top 71)) := ⟨rfl, rfl, rfl, by decide +kernel, rfl, by decide +kernel, by decide +kernel⟩
theorem ok_lmove (h : Has K mg "_law_move" (top 71)) (Gc : Good P w K mg base 1 "_law_common" ["_law_a", "_law_b"] (spF K R_lcommon)) : Good P w K mg base 2 "_law_move" ["_law_a", "_law_b", "_law_c", "_law_d"] (spF K R_lmove) := by
  obtain ⟨f, fd, F, hm⟩ := h.ex
  refine good_F (k := 1) F hm sc_lmove (F.bindsN fun _ _ _ _ _ _ us hl => match us, hl with | [_, _, _, _], _ => rfl) (fun ds d h => by cases h <;> rfl) fun cdv A outer s H E ds d hr h => ?_
  cases h with
  | mk m hb hk h0 =>
    obtain ⟨a, b, c, d⟩ := m
    have g0 := formG_ne h0
    have gl := (formG_B hb h0).lg ((formG_B hb h0).pos g0) (by omega)
    refine ⟨{}, dss_cons (ds_set (i := 4) (d := .int (gcd4 ⟨a, b, c, d⟩ : Nat)) sc_lmove.nd rfl (.inl rfl) (de_eq (de_call Gc hr (da_cons (de_call Gc hr (da_cons (de_var 0 (pv 0) rfl) (da_cons (de_var 1 (pv 1) rfl) da_nil)) (.mk a b)) (da_cons (de_call Gc hr (da_cons (de_var 2 (pv 2) rfl) (da_cons (de_var 3 (pv 3) rfl) da_nil)) (.mk c d)) da_nil)) (.mk _ _)) (by rw [gcd4_law])))
     (dss_cons (S1 := {}) (ds_set (i := 5) (d := .int (firstM ⟨a, b, c, d⟩)) sc_lmove.nd rfl (.inl rfl) (de_ixL (S1 := {})
        (de_lcTi (ys := [.int a, .int b, .int c, .int d]) (t := fun i => !decide ((([a, b, c, d] : List Int).getD i 0) = 0)) (v := fun i => .int (([a, b, c, d] : List Int).getD i 0)) rfl sc_lmove.nd (de_tup (da_cons (de_var 0 (pv 0) rfl) (da_cons (de_var 1 (pv 1) rfl) (da_cons (de_var 2 (pv 2) rfl) (da_cons (de_var 3 (pv 3) rfl) da_nil)))) (by show 4 ≤ 100000; decide)) (blkOk_by (N := ["_law_a", "_law_b", "_law_c", "_law_d", "_law_divisor", "_law_first", "_law_x"]) (sc := defScope (top 71)) (by decide +kernel)) (fun _ _ _ _ _ => pg_name (i := 6) sc_lmove.nd rfl (.inl rfl)) rfl (by show 4 ≤ 50000; decide)
          (fun i hi _ _ _ _ _ => dt_cmp op_ne (de_eq (de_var 6 (pv 6) rfl) (get4 hi)) de_int rv_neI (nomark _)) (fun i hi _ _ _ _ _ _ => de_eq (de_var 6 (pv 6) rfl) (get4 hi)))
        de_int (firstG a b c d h0)))
     (dss_cons (S1 := {}) (ds_set (i := 4) (d := .int (formG ⟨a, b, c, d⟩)) sc_lmove.nd rfl (.inl rfl) (de_if (S1 := {}) (dt_cmp op_gt (de_var 5 (pv 5) rfl) de_int rv_gt (nomark _)) (fun hx => de_eq (de_var 4 (pv 4) rfl) ?_) (fun hx => de_eq (de_sub de_int (de_var 4 (pv 4) rfl)) ?_)))
     (dss_one (ds_ret (de_tup (da_cons (de_fdiv (de_var 0 (pv 0) rfl) (de_var 4 (pv 4) rfl) g0 gl) (da_cons (de_fdiv (de_var 1 (pv 1) rfl) (de_var 4 (pv 4) rfl) g0 gl) (da_cons (de_fdiv (de_var 2 (pv 2) rfl) (de_var 4 (pv 4) rfl) g0 gl) (da_cons (de_fdiv (de_var 3 (pv 3) rfl) (de_var 4 (pv 4) rfl) g0 gl) da_nil)))) (by show 4 ≤ 100000; decide))))))⟩
    · have hx' := of_decide_eq_true hx
      unfold formG; rw [if_pos hx']
    · have hx' := of_decide_eq_false hx
      unfold formG; rw [if_neg hx', Int.zero_sub]
theorem sc_lafter : FnScope ["_law_one", "_law_other", "_law_a", "_law_b", "_law_c", "_law_d", "_law_e", "_law_f", "_law_g", "_law_h"] ["_law_one", "_law_other"] (defScope (top 72)) := ⟨rfl, rfl, rfl, by decide +kernel, rfl, by decide +kernel, by decide +kernel⟩
theorem ok_lafter (h : Has K mg "_law_after" (top 72)) (Gi : Good P w K mg base 2 "_law_move" ["_law_a", "_law_b", "_law_c", "_law_d"] (spF K R_lmove)) : Good P w K mg base 3 "_law_after" ["_law_one", "_law_other"] (spF K R_after) := by
  obtain ⟨f, fd, F, hm⟩ := h.ex
  refine good_F (k := 2) F hm sc_lafter (F.bindsN fun _ _ _ _ _ _ us hl => match us, hl with | [_, _], _ => rfl) (fun ds d h => by cases h <;> rfl) fun cdv A outer s H E ds d hr h => ?_
  cases h with
  | mk m n hj hk hl sm sn =>
    exact ⟨{}, (dss_cons (ds_asg (de_var 0 (pv 0) rfl) (dg_tup rfl (dgs_cons (dg_name (i := 2) sc_lafter.nd rfl (.inl rfl)) (dgs_cons (dg_name (i := 3) sc_lafter.nd rfl (.inl rfl)) (dgs_cons (dg_name (i := 4) sc_lafter.nd rfl (.inl rfl)) (dgs_cons (dg_name (i := 5) sc_lafter.nd rfl (.inl rfl)) dgs_nil))))))
 (dss_cons (ds_asg (de_var 1 (pv 1) rfl) (dg_tup rfl (dgs_cons (dg_name (i := 6) sc_lafter.nd rfl (.inl rfl)) (dgs_cons (dg_name (i := 7) sc_lafter.nd rfl (.inl rfl)) (dgs_cons (dg_name (i := 8) sc_lafter.nd rfl (.inl rfl)) (dgs_cons (dg_name (i := 9) sc_lafter.nd rfl (.inl rfl)) dgs_nil))))))
 (dss_one (ds_ret (de_call Gi hr (da_cons (de_add (de_mul (de_var 2 (pv 2) rfl) (de_var 6 (pv 6) rfl) (mulWB hj.a hk.a (by omega))) (de_mul (de_var 3 (pv 3) rfl) (de_var 8 (pv 8) rfl) (mulWB hj.b hk.c (by omega)))) (da_cons (de_add (de_mul (de_var 2 (pv 2) rfl) (de_var 7 (pv 7) rfl) (mulWB hj.a hk.b (by omega))) (de_mul (de_var 3 (pv 3) rfl) (de_var 9 (pv 9) rfl) (mulWB hj.b hk.d (by omega)))) (da_cons (de_add (de_mul (de_var 4 (pv 4) rfl) (de_var 6 (pv 6) rfl) (mulWB hj.c hk.a (by omega))) (de_mul (de_var 5 (pv 5) rfl) (de_var 8 (pv 8) rfl) (mulWB hj.d hk.c (by omega)))) (da_cons (de_add (de_mul (de_var 4 (pv 4) rfl) (de_var 7 (pv 7) rfl) (mulWB hj.c hk.b (by omega))) (de_mul (de_var 5 (pv 5) rfl) (de_var 9 (pv 9) rfl) (mulWB hj.d hk.d (by omega)))) da_nil)))) (R_lmove.mk (mulM m n) (hj.mul hk) (by omega) (first_ne (by rw [size_mul]; exact Int.mul_ne_zero sm sn))))))))⟩
theorem sc_lback : FnScope ["_law_m"] ["_law_m"] (defScope (top 73)) := ⟨rfl, rfl, rfl, by decide +kernel, rfl, by decide +kernel, by decide +kernel⟩
theorem ok_lback (h : Has K mg "_law_back" (top 73)) (Gi : Good P w K mg base 2 "_law_move" ["_law_a", "_law_b", "_law_c", "_law_d"] (spF K R_lmove)) : Good P w K mg base 3 "_law_back" ["_law_m"] (spF K R_back) := by
  obtain ⟨f, fd, F, hm⟩ := h.ex
  refine good_F (k := 2) F hm sc_lback (F.bindsN fun _ _ _ _ _ _ us hl => match us, hl with | [_], _ => rfl) (fun ds d h => by cases h <;> rfl) fun cdv A outer s H E ds d hr h => ?_
  cases h with
  | mk m hk hl sm =>
    exact ⟨{}, (dss_one (ds_ret (de_call Gi hr (da_cons (de_ixT (de_var 0 (pv 0) rfl) de_int rfl) (da_cons (de_eq (de_sub de_int (de_ixT (de_var 0 (pv 0) rfl) de_int rfl)) (congrArg PyData.int (Int.zero_sub _))) (da_cons (de_eq (de_sub de_int (de_ixT (de_var 0 (pv 0) rfl) de_int rfl)) (congrArg PyData.int (Int.zero_sub _))) (da_cons (de_ixT (de_var 0 (pv 0) rfl) de_int rfl) da_nil)))) (R_lmove.mk (adjM m) hk.adj (by omega) (first_ne (by rw [size_adj]; exact sm))))))⟩
theorem sc_lsize : FnScope ["_law_m"] ["_law_m"] (defScope (top 74)) := ⟨rfl, rfl, rfl, by decide +kernel, rfl, by decide +kernel, by decide +kernel⟩
theorem ok_lsize (h : Has K mg "_law_size" (top 74)) : Good P w K mg base 1 "_law_size" ["_law_m"] (spF K R_size) := by
  obtain ⟨f, fd, F, hm⟩ := h.ex
  refine good_F (k := 0) F hm sc_lsize (F.bindsN fun _ _ _ _ _ _ us hl => match us, hl with | [_], _ => rfl) (fun ds d h => by cases h <;> rfl) fun cdv A outer s H E ds d hr h => ?_
  cases h with
  | mk m hb hk =>
    exact ⟨{}, (dss_one (ds_ret (de_sub (de_mul (de_ixT (de_var 0 (pv 0) rfl) de_int rfl) (de_ixT (de_var 0 (pv 0) rfl) de_int rfl) (mulWB hb.a hb.d (by omega))) (de_mul (de_ixT (de_var 0 (pv 0) rfl) de_int rfl) (de_ixT (de_var 0 (pv 0) rfl) de_int rfl) (mulWB hb.b hb.c (by omega))))))⟩
theorem sc_lstretch : FnScope ["_law_p", "_law_m", "_law_k", "_law_total"] ["_law_p", "_law_m"] (defScope (top 76)) := ⟨rfl, rfl, rfl, by decide +kernel, rfl, by decide +kernel, by decide +kernel⟩
theorem ok_lstretch (Bl : Bl mg) (h : Has K mg "_law_stretch" (top 76)) (Gp : Good P w K mg base 1 "_law_parts" ["_law_p", "_law_x"] (spF K R_lparts)) (Gz : Good P w K mg base 1 "_law_size" ["_law_m"] (spF K R_size)) : Good P w K mg base 2 "_law_stretch" ["_law_p", "_law_m"] (spF K R_stretch) := by
  obtain ⟨f, fd, F, hm⟩ := h.ex
  refine good_F (k := 1) F hm sc_lstretch (F.bindsN fun _ _ _ _ _ _ us hl => match us, hl with | [_, _], _ => rfl) (fun ds d h => by cases h <;> rfl) fun cdv A outer s H E ds d hr h => ?_
  cases h with
  | mk p m hp hmb sm hl =>
    refine ⟨{}, (dss_cons (ds_par (i := 2) (j := 3) (da := .int (vI p (sizeM m) : Nat)) rfl sc_lstretch.nd rfl rfl (by decide) rfl rfl (da_cons (de_eq (de_call Gp hr (da_cons (de_var 0 (pv 0) rfl) (da_cons (de_tup (da_cons (de_call Gz hr (da_cons (de_var 1 (pv 1) rfl) da_nil) (.mk m hmb (by omega))) (da_cons de_int da_nil)) (by show 2 ≤ 100000; decide)) da_nil)) (.mk p _ 1 hp sm (by decide))) (congrArg PyData.int (by rw [vI_1]; omega))) (da_cons (de_add (de_ixT (de_var 1 (pv 1) rfl) de_int rfl) (de_ixT (de_var 1 (pv 1) rfl) de_int rfl)) da_nil)) (by rfl))
 (dss_one (ds_ret (de_if (S1 := {}) (dt_cmp op_ne (de_var 3 (pv 3) rfl) de_int rv_neI (nomark _)) (fun hx => ?_) (fun hx => ?_)))))⟩
    · have tn : trM m ≠ 0 := fun z => by
        have : m.a + m.d = 0 := z
        simp [this] at hx
      have v1 := (vI_B hp hmb.tr tn).lt hp
      have e2 : (vI p (m.a + m.d) : Int) - (vI p 1 : Int) = (vI p (trM m) : Int) := by rw [vI_1]; show (vI p (m.a + m.d) : Int) - 0 = (vI p (m.a + m.d) : Int); omega
      refine de_eq (de_cb (call_max2 rfl) Bl.max (by decide +kernel) (da_cons de_int (da_cons (de_sub (de_var 2 (pv 2) rfl) (de_mul de_int (de_eq (d := .int (vI p (trM m) : Nat)) (de_call Gp hr (da_cons (de_var 0 (pv 0) rfl) (da_cons (de_tup (da_cons (de_var 3 (pv 3) rfl) (da_cons de_int da_nil)) (by show 2 ≤ 100000; decide)) da_nil)) (.mk p (m.a + m.d) 1 hp tn (by decide))) (congrArg PyData.int e2)) (mulWB (j := 2) (by show (2 : Nat) < 2 ^ 2; decide) (smallB v1 (by omega)) (by decide)))) da_nil)) rc_max) ?_
      unfold stretchQ; rw [if_neg tn]
    · have tn : trM m = 0 := by
        show m.a + m.d = 0
        simpa using hx
      refine de_eq de_int ?_
      unfold stretchQ; rw [if_pos tn]
end
end Bm
namespace Bm
open PySem PySem.Spec PyProof.Rows L2 G
inductive R_lroad : List PyData → PyData → Prop
  | mk (p : Nat) (γ : Bq) {k l : Nat} (hp : IsP p) (hc : BB p k l γ) (hl : l ≤ k) (hk : k ≤ 250) : R_lroad [.int p, eB start0, eB γ] (.list ((List.range ((stepsQ p start0 γ).toNat + 1)).map fun i => eB (roadAt p start0 γ i)))
inductive R_lstart : List PyData → PyData → Prop
  | mk : R_lstart [] (eB start0)
inductive R_lkeeps : List PyData → PyData → Prop
  | mk (p : Nat) (m : M4) {k : Nat} (hp : IsP p) (hm : MB k m) (sm : sizeM m ≠ 0) (hl : k ≤ 4000) : R_lkeeps [.int p, eM m] (.bool (keepsL p m))
theorem swap_eq {p C D : Nat} {u v : Rat × Rat} (c : ColOk p C D u v) : (decide (v.2.num = 0) || ((!decide (u.2.num = 0)) && decide (vQ p u.2 < vQ p v.2))) = hasMore p v.2 u.2 := by
  unfold hasMore
  by_cases hv : v.2 = 0
  · have hu : u.2 ≠ 0 := fun z => c.ne (by rw [z, hv]; grind)
    rw [hv, if_neg hu]; rfl
  · have e1 : decide (v.2.num = 0) = false := decide_eq_false fun z => hv (Rat.num_eq_zero.mp z)
    rw [e1, Bool.false_or]
    by_cases hu : u.2 = 0
    · rw [hu, if_pos rfl]; rfl
    · have e2 : decide (u.2.num = 0) = false := decide_eq_false fun z => hu (Rat.num_eq_zero.mp z)
      have e3 : decide (v.2 = 0) = false := decide_eq_false hv
      rw [if_neg hu, e2, e3]; rfl
section
variable {P : Program} {w : World} {K : PySem.W.Frag} {mg : Str → Option Value} {base : Heap}
theorem sc_lled : FnScope ["_law_p", "_law_m", "_law_spot", "_law_high", "_law_q", "_law_one", "_law_other", "_law_over", "_law_times", "_law_left"] ["_law_p", "_law_m", "_law_spot"] (defScope (top 75)) := ⟨rfl, rfl, rfl, by decide +kernel, rfl, by decide +kernel, by decide +kernel⟩
theorem ok_lled (h : Has K mg "_law_led" (top 75)) (Gw : Good P w K mg base 2 "_law_power" ["_law_p", "_law_n"] (spF K R_power_of)) (Gt : Good P w K mg base 3 "_law_product" ["_law_x", "_law_y"] (spF K R_times)) (Ga : Good P w K mg base 3 "_law_sum" ["_law_x", "_law_y"] (spF K R_plus)) (Gp : Good P w K mg base 1 "_law_parts" ["_law_p", "_law_x"] (spF K R_lparts)) (Gb : Good P w K mg base 3 "_law_ball" ["_law_p", "_law_n", "_law_x"] (spF K R_ball)) : Good P w K mg base 4 "_law_led" ["_law_p", "_law_m", "_law_spot"] (spF K R_led) := by
  obtain ⟨f, fd, F, hm⟩ := h.ex
  refine good_F (k := 3) F hm sc_lled (F.bindsN fun _ _ _ _ _ _ us hl => match us, hl with | [_, _, _], _ => rfl) (fun ds d h => by cases h <;> rfl) fun cdv A outer s H E ds d hr h => ?_
  cases h with
  | mk p m β hp hmb sm hb hl =>
    rename_i a k l
    have c := col_ok hp hmb sm hb
    obtain ⟨n1, n2⟩ := more_ne c
    have kk := hb.n.lt hp
    have hpw := hb.n.HR hp (by omega)
    have hq := hb.hr
    generalize hC : a + (k + l) + 1 = C at c
    generalize hD : 2 * a + 1 + k = D at c
    have main : ∀ u v : Rat × Rat, ColOk p C D u v → v.2 ≠ 0 → DSs (cxOf CX0 P w K mg base ["_law_p", "_law_m", "_law_spot", "_law_high", "_law_q", "_law_one", "_law_other", "_law_over", "_law_times", "_law_left"] "_law_led" (defScope (top 75)) f cdv A outer s H E).nox [.dat (.int p), .dat (eM m), .dat (eB β), .dat (eF ((p : Rat) ^ β.n)), .dat (eF β.q), .dat (.tuple [eF u.1, eF u.2]), .dat (.tuple [eF v.1, eF v.2]), .no, .no, .no] {} ((defBody (top 75)).drop 4) (.rt (eB (ballC p u v)) {}) := by
      intro u v c h0
      have l1 := col_left hp c h0
      have b1 := ballC_ok hp c h0 (by omega) (by omega)
      have oi : HR (C + 1) (v.2)⁻¹ := c.v2.inv h0
      have htm : HR (C + (C + 1)) (u.2 * (v.2)⁻¹) := c.u2.mul oi
      have hlf : HR (C + (C + (C + 1) + C) + 1) (u.1 + -(u.2 * (v.2)⁻¹) * v.1) := c.u1.add (htm.neg.mul c.v1)
      have hne : (u.1 + -(u.2 * (v.2)⁻¹) * v.1) * (v.2)⁻¹ ≠ 0 := by rw [law_left]; exact l1.1
      have n0 : v.2.num ≠ 0 := fun z => h0 (Rat.num_eq_zero.mp z)
      refine (dss_cons (ds_set (i := 7) (d := eF (v.2)⁻¹) sc_lled.nd rfl (.inl rfl) (de_if (S1 := {}) (dt_cmp op_gt (de_ixT (de_ixT (de_var 6 (pv 6) rfl) de_int rfl) de_int rfl) de_int rv_gt (nomark _)) (fun hx => de_eq (de_tup (da_cons (de_ixT (de_ixT (de_var 6 (pv 6) rfl) de_int rfl) de_int rfl) (da_cons (de_ixT (de_ixT (de_var 6 (pv 6) rfl) de_int rfl) de_int rfl) da_nil)) (by show 2 ≤ 100000; decide)) (inv_pos_eq (of_decide_eq_true hx))) (fun hx => de_eq (de_tup (da_cons (de_sub de_int (de_ixT (de_ixT (de_var 6 (pv 6) rfl) de_int rfl) de_int rfl)) (da_cons (de_sub de_int (de_ixT (de_ixT (de_var 6 (pv 6) rfl) de_int rfl) de_int rfl)) da_nil)) (by show 2 ≤ 100000; decide)) (inv_neg_eq (by have := of_decide_eq_false hx; omega)))))
 (dss_cons (ds_set (i := 8) sc_lled.nd rfl (.inl rfl) (de_call Gt hr (da_cons (de_ixT (de_var 5 (pv 5) rfl) de_int rfl) (da_cons (de_var 7 (pv 7) rfl) da_nil)) (.mk u.2 (v.2)⁻¹ c.u2 oi (by omega))))
 (dss_cons (ds_set (i := 9) sc_lled.nd rfl (.inl rfl) (de_call Ga hr (da_cons (de_ixT (de_var 5 (pv 5) rfl) de_int rfl) (da_cons (de_call Gt hr (da_cons (de_eq (de_tup (da_cons (de_sub de_int (de_ixT (de_var 8 (pv 8) rfl) de_int rfl)) (da_cons (de_ixT (de_var 8 (pv 8) rfl) de_int rfl) da_nil)) (by show 2 ≤ 100000; decide)) (eF_neg _)) (da_cons (de_ixT (de_var 6 (pv 6) rfl) de_int rfl) da_nil)) (.mk _ v.1 htm.neg c.v1 (by omega))) da_nil)) (.mk u.1 _ c.u1 (htm.neg.mul c.v1) (by omega))))
 (dss_one (ds_ret (de_call Gb hr (da_cons (de_var 0 (pv 0) rfl) (da_cons (de_eq (de_call Gp (hr.mono (by decide)) (da_cons (de_var 0 (pv 0) rfl) (da_cons (de_call Gt hr (da_cons (de_var 9 (pv 9) rfl) (da_cons (de_var 7 (pv 7) rfl) da_nil)) (.mk _ _ hlf oi (by omega))) da_nil)) (.mk p _ _ hp (fun z => hne (Rat.num_eq_zero.mp z)) (den_ne _))) ?_) (da_cons (de_eq (de_call Gt hr (da_cons (de_ixT (de_var 6 (pv 6) rfl) de_int rfl) (da_cons (de_var 7 (pv 7) rfl) da_nil)) (.mk v.1 (v.2)⁻¹ c.v1 oi (by omega))) ?_) da_nil))) (R_ball.mk p (vQ p ((u.1 - u.2 / v.2 * v.1) / v.2)) (v.1 / v.2) b1)))))))
      · rw [law_left]; rfl
      · rw [← Rat.div_def]
    have sw : (decide ((colB m β).2.num = 0) || ((!decide ((colA p m β).2.num = 0)) && decide (vQ p (colA p m β).2 < vQ p (colB m β).2))) = hasMore p (colB m β).2 (colA p m β).2 := swap_eq c
    refine ⟨{}, (dss_cons (ds_par (i := 3) (j := 4) rfl sc_lled.nd rfl rfl (by decide) rfl rfl (da_cons (de_call Gw (hr.mono (by decide)) (da_cons (de_var 0 (pv 0) rfl) (da_cons (de_ixT (de_var 2 (pv 2) rfl) de_int rfl) da_nil)) (.mk p β.n hp (by omega))) (da_cons (de_ixT (de_var 2 (pv 2) rfl) de_int rfl) da_nil)) (by rfl))
 (dss_cons (ds_set (i := 5) sc_lled.nd rfl (.inl rfl) (de_tup (da_cons (de_call Gt hr (da_cons (de_tup (da_cons (de_ixT (de_var 1 (pv 1) rfl) de_int rfl) (da_cons de_int da_nil)) (by show 2 ≤ 100000; decide)) (da_cons (de_var 3 (pv 3) rfl) da_nil)) (.mk (m.a : Rat) _ (HR_int hmb.a) hpw (by omega))) (da_cons (de_call Gt hr (da_cons (de_tup (da_cons (de_ixT (de_var 1 (pv 1) rfl) de_int rfl) (da_cons de_int da_nil)) (by show 2 ≤ 100000; decide)) (da_cons (de_var 3 (pv 3) rfl) da_nil)) (.mk (m.c : Rat) _ (HR_int hmb.c) hpw (by omega))) da_nil)) (by show 2 ≤ 100000; decide)))
 (dss_cons (ds_set (i := 6) sc_lled.nd rfl (.inl rfl) (de_tup (da_cons (de_call Ga hr (da_cons (de_call Gt hr (da_cons (de_tup (da_cons (de_ixT (de_var 1 (pv 1) rfl) de_int rfl) (da_cons de_int da_nil)) (by show 2 ≤ 100000; decide)) (da_cons (de_var 4 (pv 4) rfl) da_nil)) (.mk (m.a : Rat) β.q (HR_int hmb.a) hq (by omega))) (da_cons (de_tup (da_cons (de_ixT (de_var 1 (pv 1) rfl) de_int rfl) (da_cons de_int da_nil)) (by show 2 ≤ 100000; decide)) da_nil)) (.mk _ (m.b : Rat) ((HR_int hmb.a).mul hq) (HR_int hmb.b) (by omega))) (da_cons (de_call Ga hr (da_cons (de_call Gt hr (da_cons (de_tup (da_cons (de_ixT (de_var 1 (pv 1) rfl) de_int rfl) (da_cons de_int da_nil)) (by show 2 ≤ 100000; decide)) (da_cons (de_var 4 (pv 4) rfl) da_nil)) (.mk (m.c : Rat) β.q (HR_int hmb.c) hq (by omega))) (da_cons (de_tup (da_cons (de_ixT (de_var 1 (pv 1) rfl) de_int rfl) (da_cons de_int da_nil)) (by show 2 ≤ 100000; decide)) da_nil)) (.mk _ (m.d : Rat) ((HR_int hmb.c).mul hq) (HR_int hmb.d) (by omega))) da_nil)) (by show 2 ≤ 100000; decide)))
   ?_)))⟩
    have cond : ∀ {ρ : Rho}, ρ[0]? = some (.dat (.int p)) → ρ[5]? = some (.dat (.tuple [eF (colA p m β).1, eF (colA p m β).2])) → ρ[6]? = some (.dat (.tuple [eF (colB m β).1, eF (colB m β).2])) → True := fun _ _ _ => trivial
    unfold ledQ
    cases hc : hasMore p (colB m β).2 (colA p m β).2 with
    | true =>
      rw [if_pos rfl]
      exact dss_cons (ds_if (x := true) (dt_eq (dt_w (dw_or (dt_cmp op_eq (de_ixT (de_ixT (de_var 6 (pv 6) rfl) de_int rfl) de_int rfl) de_int rv_eqI (nomark _)) fun hx => (dw_or1 (dt_w (dw_and (y := decide (vQ p (colA p m β).2 < vQ p (colB m β).2)) (dt_cmp op_ne (de_ixT (de_ixT (de_var 5 (pv 5) rfl) de_int rfl) de_int rfl) de_int rv_neI (nomark _)) fun hx2 => (dw_and1 (dt_cmp op_lt (de_call Gp (hr.mono (by decide)) (da_cons (de_var 0 (pv 0) rfl) (da_cons (de_ixT (de_var 5 (pv 5) rfl) de_int rfl) da_nil)) (.mk p _ _ hp (by simpa using hx2) (den_ne _))) (de_call Gp (hr.mono (by decide)) (da_cons (de_var 0 (pv 0) rfl) (da_cons (de_ixT (de_var 6 (pv 6) rfl) de_int rfl) da_nil)) (.mk p _ _ hp (of_decide_eq_false hx) (den_ne _))) rv_lt (nomark _)))))))) (sw.trans hc))
        (fun hx => (dss_one (ds_par (i := 5) (j := 6) rfl sc_lled.nd rfl rfl (by decide) rfl rfl (da_cons (de_var 6 (pv 6) rfl) (da_cons (de_var 5 (pv 5) rfl) da_nil)) (by rfl)))) (fun hx => by cases hx)) (main _ _ c.swap (n1 hc))
    | false =>
      rw [if_neg Bool.false_ne_true]
      exact dss_cons (ds_if (x := false) (dt_eq (dt_w (dw_or (dt_cmp op_eq (de_ixT (de_ixT (de_var 6 (pv 6) rfl) de_int rfl) de_int rfl) de_int rv_eqI (nomark _)) fun hx => (dw_or1 (dt_w (dw_and (y := decide (vQ p (colA p m β).2 < vQ p (colB m β).2)) (dt_cmp op_ne (de_ixT (de_ixT (de_var 5 (pv 5) rfl) de_int rfl) de_int rfl) de_int rv_neI (nomark _)) fun hx2 => (dw_and1 (dt_cmp op_lt (de_call Gp (hr.mono (by decide)) (da_cons (de_var 0 (pv 0) rfl) (da_cons (de_ixT (de_var 5 (pv 5) rfl) de_int rfl) da_nil)) (.mk p _ _ hp (by simpa using hx2) (den_ne _))) (de_call Gp (hr.mono (by decide)) (da_cons (de_var 0 (pv 0) rfl) (da_cons (de_ixT (de_var 6 (pv 6) rfl) de_int rfl) da_nil)) (.mk p _ _ hp (of_decide_eq_false hx) (den_ne _))) rv_lt (nomark _)))))))) (sw.trans hc))
        (fun hx => by cases hx) (fun hx => dss_nil)) (main _ _ c (n2 hc))
theorem sc_lroad : FnScope ["_law_p", "_law_one", "_law_other", "_law_found", "_law_lap", "_law_here"] ["_law_p", "_law_one", "_law_other"] (defScope (top 70)) := ⟨rfl, rfl, rfl, by decide +kernel, rfl, by decide +kernel, by decide +kernel⟩
noncomputable def rdL (p : Nat) (γ : Bq) (i : Nat) : List PyData := (List.range (i + 1)).map fun i => eB (roadAt p start0 γ i)
theorem rdL_succ (p : Nat) (γ : Bq) (i : Nat) : rdL p γ (i + 1) = rdL p γ i ++ [eB (roadAt p start0 γ (i + 1))] := by
  unfold rdL; rw [List.range_succ, List.map_append]; rfl
theorem rdL_last (p : Nat) (γ : Bq) (i : Nat) : atI (rdL p γ i) (-1) = some (eB (roadAt p start0 γ i)) := by
  have hl : (rdL p γ i).length = i + 1 := by unfold rdL; rw [List.length_map, List.length_range]
  unfold atI ixN
  rw [if_neg (by decide), if_pos (by omega), hl]
  have e : (-1 + ((i + 1 : Nat) : Int)).toNat = i := by omega
  rw [e]
  show (rdL p γ i)[i]? = _
  unfold rdL
  rw [List.getElem?_map, List.getElem?_range (by omega)]; rfl
theorem ok_lroad (Bl : Bl mg) (h : Has K mg "_law_road" (top 70)) (Gs : Good P w K mg base 4 "_law_steps" ["_law_p", "_law_one", "_law_other"] (spF K R_steps)) (Gh : Good P w K mg base 4 "_law_has" ["_law_p", "_law_spot", "_law_x"] (spF K R_lhas)) (Gb : Good P w K mg base 3 "_law_ball" ["_law_p", "_law_n", "_law_x"] (spF K R_ball)) : Good P w K mg base 5 "_law_road" ["_law_p", "_law_one", "_law_other"] (spF K R_lroad) := by
  obtain ⟨f, fd, F, hm⟩ := h.ex
  refine good_F (k := 4) F hm sc_lroad (F.bindsN fun _ _ _ _ _ _ us hl => match us, hl with | [_, _, _], _ => rfl) (fun ds d h => by cases h <;> rfl) fun cdv A outer s H E ds d hr h => ?_
  cases h with
  | mk p γ hp hc hl hk =>
    rename_i k l
    have k0 := hc.n.lt hp
    have l0 := hc.den.pos1
    obtain ⟨s0, _, s1⟩ := steps_B hp hc hl
    refine ⟨{}, dss_own (i := 3) (ds := rdL p γ 0) sc_lroad.nd rfl (.inl rfl) (da_cons (de_var 1 (pv 1) rfl) da_nil) (by show 1 ≤ 100000; decide) rfl rfl
      (dss_forR1 (n := stepsQ p start0 γ) (S0 := { own := some (rdL p γ 0) }) rfl PassesOwn.never Bl.range (da_cons (de_call Gs hr (da_cons (de_var 0 (pv 0) rfl) (da_cons (de_var 1 (pv 1) rfl) (da_cons (de_var 2 (pv 2) rfl) da_nil))) (.mk p start0 γ hp BB.start hc (by omega))) da_nil) (by omega)
        (fun i => [.dat (.int p), .dat (eB start0), .dat (eB γ), .own, if i = 0 then .no else .dat (.int (0 + (i - 1 : Nat))), if i = 0 then .no else .dat (eB (roadAt p start0 γ (i - 1)))])
        (fun i => [.dat (.int p), .dat (eB start0), .dat (eB γ), .own, .dat (.int (0 + (i : Nat))), if i = 0 then .no else .dat (eB (roadAt p start0 γ (i - 1)))])
        (fun i => { own := some (rdL p γ i) }) rfl rfl (fun i _ => ?_) (fun i hi => ?_) ?_)⟩
    · cases i <;> exact dg_name (i := 4) sc_lroad.nd rfl (.inl rfl)
    · have hb := road_BB hp hc hl (i := i) (by omega)
      have hb1 := road_BB hp hc hl (i := i + 1) (by omega)
      refine dss_cons (ρ1 := [.dat (.int p), .dat (eB start0), .dat (eB γ), .own, .dat (.int (0 + (i : Nat))), .dat (eB (roadAt p start0 γ i))]) (S1 := { own := some (rdL p γ i) }) (ds_set (i := 5) (d := eB (roadAt p start0 γ i)) sc_lroad.nd rfl (.inl rfl) (de_ixOwn (i := 3) rfl (pv 3) rfl (de_neg de_int) (rdL_last p γ i))) ?_
      have lenl : (rdL p γ i).length < 100000 := by unfold rdL; rw [List.length_map, List.length_range]; omega
      refine dss_one (ds_if (x := hasQ p (roadAt p start0 γ i) γ.q && decide ((roadAt p start0 γ i).n < γ.n)) (dt_w (dw_and (dt_val (de_call Gh hr (da_cons (de_var 0 (pv 0) rfl) (da_cons (de_var 5 (pv 5) rfl) (da_cons (de_ixT (de_var 2 (pv 2) rfl) de_int rfl) da_nil))) (.mk p _ _ hp hb hc.hr (by omega)))) fun hx => (dw_and1 (dt_cmp op_lt (de_ixT (de_var 5 (pv 5) rfl) de_int rfl) (de_ixT (de_var 2 (pv 2) rfl) de_int rfl) rv_lt (nomark _))))) (fun hx => ?_) (fun hx => ?_))
      · have e1 : roadAt p start0 γ (i + 1) = ballQ p ((roadAt p start0 γ i).n + 1) γ.q := by rw [roadAt, if_pos hx]
        have hn := hb1.n
        rw [e1, ball_n] at hn
        rw [rdL_succ, e1]
        exact dss_nx (dss_one (ds_app (i := 3) rfl (pv 3) rfl (de_call Gb (hr.mono (by decide)) (da_cons (de_var 0 (pv 0) rfl) (da_cons (de_add (de_ixT (de_var 5 (pv 5) rfl) de_int rfl) de_int) (da_cons (de_ixT (de_var 2 (pv 2) rfl) de_int rfl) da_nil))) (R_ball.mk p _ _ (ballOk_of hp hn hc.den (hc.hr.mono (by omega)) (by omega)))) lenl)) rfl
      · have e1 : roadAt p start0 γ (i + 1) = ballQ p ((roadAt p start0 γ i).n - 1) (roadAt p start0 γ i).q := by rw [roadAt, if_neg (by rw [hx]; exact Bool.false_ne_true)]
        have hn := hb1.n
        rw [e1, ball_n] at hn
        rw [rdL_succ, e1]
        exact dss_nx (dss_one (ds_app (i := 3) rfl (pv 3) rfl (de_call Gb (hr.mono (by decide)) (da_cons (de_var 0 (pv 0) rfl) (da_cons (de_sub (de_ixT (de_var 5 (pv 5) rfl) de_int rfl) de_int) (da_cons (de_ixT (de_var 5 (pv 5) rfl) de_int rfl) da_nil))) (R_ball.mk p _ _ (ballOk_of hp hn hb.den (hb.hr.mono (by omega)) (by omega)))) lenl)) rfl
    · refine dss_frz (i := 3) rfl rfl (by cases (stepsQ p start0 γ).toNat <;> rfl) (dss_one (ds_ret (de_var 3 (pv 3) rfl)))
theorem sc_lstart : FnScope [] [] (defScope (top 83)) := ⟨rfl, rfl, rfl, by decide +kernel, rfl, by decide +kernel, by decide +kernel⟩
theorem ok_lstart (h : Has K mg "_law_start" (top 83)) : Good P w K mg base 1 "_law_start" [] (spF K R_lstart) := by
  obtain ⟨f, fd, F, hm⟩ := h.ex
  refine good_F (k := 0) F hm sc_lstart (F.bindsN fun _ _ _ _ _ _ us hl => match us, hl with | [], _ => rfl) (fun ds d h => by cases h <;> rfl) fun cdv A outer s H E ds d hr h => ?_
  cases h with
  | mk => exact ⟨{}, (dss_one (ds_ret (de_tup (da_cons de_int (da_cons (de_tup (da_cons de_int (da_cons de_int da_nil)) (by show 2 ≤ 100000; decide)) da_nil)) (by show 2 ≤ 100000; decide))))⟩
theorem sc_lkeeps : FnScope ["_law_p", "_law_m"] ["_law_p", "_law_m"] (defScope (top 84)) := ⟨rfl, rfl, rfl, by decide +kernel, rfl, by decide +kernel, by decide +kernel⟩
theorem ok_lkeeps (h : Has K mg "_law_keeps_some" (top 84)) (Gt : Good P w K mg base 2 "_law_stretch" ["_law_p", "_law_m"] (spF K R_stretch)) (Gp : Good P w K mg base 1 "_law_parts" ["_law_p", "_law_x"] (spF K R_lparts)) (Gz : Good P w K mg base 1 "_law_size" ["_law_m"] (spF K R_size)) : Good P w K mg base 3 "_law_keeps_some" ["_law_p", "_law_m"] (spF K R_lkeeps) := by
  obtain ⟨f, fd, F, hm⟩ := h.ex
  refine good_F (k := 2) F hm sc_lkeeps (F.bindsN fun _ _ _ _ _ _ us hl => match us, hl with | [_, _], _ => rfl) (fun ds d h => by cases h <;> rfl) fun cdv A outer s H E ds d hr h => ?_
  cases h with
  | mk p m hp hmb sm hl =>
    refine ⟨{}, (dss_one (ds_ret (de_eq (de_and (de_cmp op_eq (de_call Gt hr (da_cons (de_var 0 (pv 0) rfl) (da_cons (de_var 1 (pv 1) rfl) da_nil)) (.mk p m hp hmb sm hl)) de_int rv_eqI (nomark _)) fun hx => (de_one (de_cmp op_eq (de_mod (de_call Gp (hr.mono (by decide)) (da_cons (de_var 0 (pv 0) rfl) (da_cons (de_tup (da_cons (de_call Gz (hr.mono (by decide)) (da_cons (de_var 1 (pv 1) rfl) da_nil) (.mk m hmb (by omega))) (da_cons de_int da_nil)) (by show 2 ≤ 100000; decide)) da_nil)) (.mk p _ 1 hp sm (by decide))) de_int (by decide)) de_int rv_eqI (nomark _)))) ?_)))⟩
    unfold keepsL
    congr 2
    rw [vI_1, fmod_pos (by decide)]
    exact decide_eq_decide.mpr ⟨fun z => by omega, fun z => by omega⟩
end
end Bm
namespace Bm
open PySem PySem.Spec PyProof.Rows L2 G
inductive R_lprimes : List PyData → PyData → Prop
  | mk (n : Int) : R_lprimes [.int n] (.list ((primesL n).map fun (p : Nat) => .int (p : Int)))
def isPr (p : Nat) : Bool := ((List.range (p - 2)).map fun (i : Nat) => decide (0 < (p : Int) % (2 + (i : Int)))).all id
/-- the scope of the comprehension that a def gives back -/
def retScope (st : Stmt) : Scope := match defBody st with
  | [.Return (some (.ListComp _ _ sc _)) _] => sc
  | _ => defScope st
theorem P97_eq : ((List.range 96).filter fun i => isPr (2 + i)).map (fun i => 2 + i) = P97 := by decide +kernel
theorem primes_outs (n : Int) : outs (fun i => decide (n % (2 + (i : Int)) = 0) && isPr (2 + i)) (fun i => .int (2 + (i : Nat))) 96 = (primesL n).map fun (p : Nat) => PyData.int (p : Int) := by
  unfold outs primesL
  rw [← P97_eq, List.filter_map, List.map_map, List.filter_filter]
  have e1 : (fun i : Nat => decide (n % (2 + (i : Int)) = 0) && isPr (2 + i)) = fun a => ((fun p : Nat => decide (n % (p : Int) = 0)) ∘ fun i => 2 + i) a && isPr (2 + a) := by
    funext i
    show _ = (decide (n % ((2 + i : Nat) : Int) = 0) && isPr (2 + i))
    rw [show ((2 + i : Nat) : Int) = 2 + (i : Int) by omega]
  rw [e1]
  refine List.map_congr_left fun i _ => ?_
  show PyData.int (2 + (i : Int)) = PyData.int (((2 + i : Nat)) : Int)
  rw [show ((2 + i : Nat) : Int) = 2 + (i : Int) by omega]
section
variable {P : Program} {w : World} {K : PySem.W.Frag} {mg : Str → Option Value} {base : Heap}
theorem sc_lprimes : FnScope ["_law_n", "_law_p", "_law_q"] ["_law_n"] (defScope (top 87)) := ⟨rfl, rfl, rfl, by decide +kernel, rfl, by decide +kernel, by decide +kernel⟩
theorem ok_lprimes (Bl : Bl mg) (h : Has K mg "_law_primes_of" (top 87)) : Good P w K mg base 1 "_law_primes_of" ["_law_n"] (spF K R_lprimes) := by
  obtain ⟨f, fd, F, hm⟩ := h.ex
  refine good_F (k := 0) F hm sc_lprimes (F.bindsN fun _ _ _ _ _ _ us hl => match us, hl with | [_], _ => rfl) (fun ds d h => by cases h <;> rfl) fun cdv A outer s H E ds d hr h => ?_
  cases h with
  | mk n =>
    refine ⟨{}, dss_one (ds_ret (de_eq (de_lcQ2i (lo := 2) (m := 98) (t := fun i => decide (n % (2 + (i : Int)) = 0) && isPr (2 + i)) (v := fun i => .int (2 + (i : Nat))) rfl sc_lprimes.nd Bl.range (da_cons de_int (da_cons de_int da_nil)) (by decide) (blkOk_by (N := ["_law_n", "_law_p", "_law_q"]) (sc := defScope (top 87)) (by decide +kernel)) (fun _ _ _ _ _ => pg_name (i := 1) sc_lprimes.nd rfl (.inr rfl)) rfl
      (fun i hi _ _ _ _ _ => ?_) (fun i hi _ _ _ _ _ _ => de_var 1 (pv 1) rfl)) (congrArg PyData.list (primes_outs n))))⟩
    have hp : (0 : Int) < 2 + (i : Int) := by omega
    have hi96 : i < 96 := hi
    refine dt_eq (dt_w (dw_and (dt_cmp op_eq (de_mod (de_ct call_int1 Bl.int (by decide +kernel) (da_cons (de_var 0 (pv 0) rfl) da_nil) rc_int) (de_var 1 (pv 1) rfl) (by omega)) de_int rv_eqI (nomark _)) fun hx => (dw_and1 (dt_val (de_cb (cr_all rfl) Bl.all (by decide +kernel) (da_cons (de_eq (de_lcQ2 (lo := 2) (m := 2 + (i : Int)) (v := fun j => .bool (decide (0 < (2 + (i : Int)) % (2 + (j : Int))))) rfl sc_lprimes.nd Bl.range (da_cons de_int (da_cons (de_var 1 (pv 1) rfl) da_nil)) (by omega) (blkOk_by (N := ["_law_n", "_law_p", "_law_q"]) (sc := ⟨.function, [(".0", .local), ("_law_p", .cell), ("int", .globalImplicit), ("all", .globalImplicit), ("range", .globalImplicit), ("_law_n", .cell)], false, false, []⟩) (by decide +kernel)) (fun _ _ _ _ _ => pg_name (i := 2) sc_lprimes.nd rfl (.inl rfl)) rfl
      (fun j hj _ _ _ _ _ => de_eq (de_cmp op_gt (de_mod (de_var 1 (pv 1) rfl) (de_var 2 (pv 2) rfl) (by omega)) de_int rv_gt (nomark _)) (by rw [fmod_pos (by omega)]))) (congrArg PyData.list (outs_bool _ _))) da_nil) rc_all))))) ?_
    rw [fmod_pos hp]
    congr 1
    unfold isPr
    have e : (2 + (i : Int) - 2).toNat = 2 + i - 2 := by omega
    rw [e]
    rfl
end
end Bm
namespace Bm
open PySem PySem.Spec PyProof.Rows L2 G
theorem rc_sorted {K : PySem.W.Frag} {ns ns0 : List Int} (hp : ns0.Perm ns) (hs : ns0.Pairwise (· ≤ ·)) (h64 : ns.length < 64) : RcD K (rSorted K) [.list (ns.map .int)] (.list (ns0.map .int)) := fun Hi xs H Q e r q => by
  cases r with
  | cons r1 r2 =>
    cases r2
    cases r1 with
    | lst hl hr =>
      rw [hr.ints] at hl
      refine ⟨_, ns, rfl, .inl (.inl (e _ _ hl)), h64, fun ns' p h1 h2 h3 => ?_⟩
      have en : ns' = ns0 := List.Perm.eq_of_pairwise (le := fun a b : Int => a ≤ b) (fun a b _ _ h1 h2 => Int.le_antisymm h1 h2) h2 hs (h1.trans hp.symm)
      subst en
      exact q _ _ _ (PSt.lay e h3) (.lst upd_same (RpAll.ofInts ns'))
/-! the primes that divide some size, in the order in which they are found -/
def badF (f : List Nat) (m : M4) : List Nat := f ++ (primesL (sizeM m)).filter fun p => !decide (p ∈ f)
def badGo (ms : List M4) : List Nat := ms.foldl badF []
theorem P97_nodup : P97.Nodup := by decide
theorem P97_sorted : P97.Pairwise (· ≤ ·) := by decide
theorem badF_nodup {f : List Nat} {m : M4} (h : f.Nodup) : (badF f m).Nodup := by
  unfold badF
  refine List.nodup_append.mpr ⟨h, ((P97_nodup.filter _).filter _), fun a ha b hb => ?_⟩
  have := (List.mem_filter.mp hb).2
  intro e
  subst e
  simp [ha] at this
theorem badGo_nodup (ms : List M4) {f : List Nat} (h : f.Nodup) : (ms.foldl badF f).Nodup := by
  induction ms generalizing f with
  | nil => exact h
  | cons m ms ih => exact ih (badF_nodup h)
theorem badGo_mem (ms : List M4) {f : List Nat} {p : Nat} : p ∈ ms.foldl badF f ↔ p ∈ f ∨ (p ∈ P97 ∧ ∃ m ∈ ms, sizeM m % (p : Int) = 0) := by
  induction ms generalizing f with
  | nil => simp
  | cons m ms ih =>
    show p ∈ ms.foldl badF (badF f m) ↔ _
    rw [ih]
    unfold badF primesL
    simp only [List.mem_append, List.mem_filter, decide_eq_true_eq, Bool.not_eq_true', decide_eq_false_iff_not, List.mem_cons]
    constructor
    · rintro ((h | ⟨⟨h1, h2⟩, h3⟩) | ⟨h1, m', h2, h3⟩)
      · exact .inl h
      · exact .inr ⟨h1, m, .inl rfl, h2⟩
      · exact .inr ⟨h1, m', .inr h2, h3⟩
    · rintro (h | ⟨h1, m', rfl | h2, h3⟩)
      · exact .inl (.inl h)
      · by_cases hp : p ∈ f
        · exact .inl (.inl hp)
        · exact .inl (.inr ⟨⟨h1, h3⟩, hp⟩)
      · exact .inr ⟨h1, m', h2, h3⟩
theorem badL_perm (ms : List M4) : (badL ms).Perm (badGo ms) := by
  refine (List.perm_ext_iff_of_nodup (P97_nodup.filter _) (badGo_nodup ms List.nodup_nil)).mpr fun p => ?_
  show p ∈ P97.filter _ ↔ p ∈ ms.foldl badF []
  rw [badGo_mem]
  simp [List.mem_filter]
theorem badL_sorted (ms : List M4) : (badL ms).Pairwise (· ≤ ·) := P97_sorted.filter _
theorem badGo_len (ms : List M4) : (badGo ms).length ≤ 25 := by
  rw [← (badL_perm ms).length_eq]
  exact List.length_filter_le _ _
abbrev eNs (l : List Nat) : List PyData := l.map fun (p : Nat) => .int (p : Int)
theorem eNs_int (l : List Nat) : eNs l = (l.map fun (p : Nat) => (p : Int)).map .int := by rw [List.map_map]; rfl
/-- the first i moves looked at -/
def badP (ms : List M4) (i : Nat) : List Nat := badGo (ms.take i)
theorem badP_succ {ms : List M4} {i : Nat} (h : i < ms.length) : badP ms (i + 1) = badF (badP ms i) (ms.getD i idM) := by
  unfold badP badGo
  rw [List.take_succ_eq_append_getElem h, List.foldl_append, List.getD_eq_getElem?_getD, List.getElem?_eq_getElem h]; rfl
theorem badF_outs (f : List Nat) (m : M4) : outs (fun i => !decide (((primesL (sizeM m)).map fun (p : Nat) => (p : Int)).getD i 0 ∈ f.map fun (p : Nat) => (p : Int))) (fun i => .int (((primesL (sizeM m)).map fun (p : Nat) => (p : Int)).getD i 0)) (primesL (sizeM m)).length = eNs ((primesL (sizeM m)).filter fun p => !decide (p ∈ f)) := by
  generalize primesL (sizeM m) = l
  unfold outs
  induction l with
  | nil => rfl
  | cons p l ih =>
    rw [List.length_cons, List.range_succ_eq_map, List.filter_cons]
    have hm : decide ((p : Int) ∈ f.map fun (p : Nat) => (p : Int)) = decide (p ∈ f) := by
      refine decide_eq_decide.mpr ⟨fun h => ?_, fun h => List.mem_map.mpr ⟨p, h, rfl⟩⟩
      obtain ⟨q, h1, h2⟩ := List.mem_map.mp h
      have : q = p := by omega
      exact this ▸ h1
    have hz : (((p :: l).map fun (p : Nat) => (p : Int)).getD 0 0) = (p : Int) := rfl
    rw [hz, hm, List.filter_map]
    by_cases hp : p ∈ f
    · rw [if_neg (by simp [hp]), List.filter_cons, if_neg (by simp [hp]), List.map_map]
      exact ih
    · rw [if_pos (by simp [hp]), List.filter_cons, if_pos (by simp [hp]), List.map_cons, List.map_map]
      exact congrArg (List.cons (PyData.int (p : Int))) ih
inductive R_lbad : List PyData → PyData → Prop
  | mk (ms : List M4) {k : Nat} (hm : MsOk k ms) (hk : k ≤ 4000) : R_lbad [.list (eMs ms)] (.list (eNs (badL ms)))
section
variable {P : Program} {w : World} {K : PySem.W.Frag} {mg : Str → Option Value} {base : Heap}
theorem sc_ltold : FnScope ["_law_t", "_law_m"] ["_law_t", "_law_m"] (defScope (top 81)) := ⟨rfl, rfl, rfl, by decide +kernel, rfl, by decide +kernel, by decide +kernel⟩
theorem ok_ltold (h : Has K mg "_law_told_by" (top 81)) (Ga : Good P w K mg base 3 "_law_after" ["_law_one", "_law_other"] (spF K R_after)) (Gb : Good P w K mg base 3 "_law_back" ["_law_m"] (spF K R_back)) : Good P w K mg base 4 "_law_told_by" ["_law_t", "_law_m"] (spF K R_told) := by
  obtain ⟨f, fd, F, hm⟩ := h.ex
  refine good_F (k := 3) F hm sc_ltold (F.bindsN fun _ _ _ _ _ _ us hl => match us, hl with | [_, _], _ => rfl) (fun ds d h => by cases h <;> rfl) fun cdv A outer s H E ds d hr h => ?_
  cases h with
  | mk t m ht hk hl st sm =>
    exact ⟨{}, (dss_one (ds_ret (de_call Ga hr (da_cons (de_call Gb hr (da_cons (de_var 0 (pv 0) rfl) da_nil) (.mk t ht (by omega) st)) (da_cons (de_call Ga hr (da_cons (de_var 1 (pv 1) rfl) (da_cons (de_var 0 (pv 0) rfl) da_nil)) (.mk m t hk ht (by omega) sm st)) da_nil)) (.mk _ _ (ht.back st) (hk.after ht sm st) (by omega) (size_back_ne st) (size_after_ne sm st)))))⟩
theorem sc_lis_whole : FnScope ["_law_m"] ["_law_m"] (defScope (top 82)) := ⟨rfl, rfl, rfl, by decide +kernel, rfl, by decide +kernel, by decide +kernel⟩
theorem ok_lis_whole (h : Has K mg "_law_is_whole" (top 82)) (Gs : Good P w K mg base 1 "_law_size" ["_law_m"] (spF K R_size)) : Good P w K mg base 2 "_law_is_whole" ["_law_m"] (spF K R_is_whole) := by
  obtain ⟨f, fd, F, hm⟩ := h.ex
  refine good_F (k := 1) F hm sc_lis_whole (F.bindsN fun _ _ _ _ _ _ us hl => match us, hl with | [_], _ => rfl) (fun ds d h => by cases h <;> rfl) fun cdv A outer s H E ds d hr h => ?_
  cases h with
  | mk m hk hl =>
    exact ⟨{}, dss_one (ds_ret (de_eq (de_cmp op_in_seq (de_call Gs hr (da_cons (de_var 0 (pv 0) rfl) da_nil) (.mk m hk hl)) (de_tup (da_cons de_int (da_cons (de_sub de_int de_int) da_nil)) (by show 2 ≤ 100000; decide)) (rv_in (ns := [1, -1]) (.inr rfl)) (by rfl)) (congrArg PyData.bool (whole_in _))))⟩
theorem sc_lword_move : FnScope ["_law_moves", "_law_word", "_law_found", "_law_k", "_law_s"] ["_law_moves", "_law_word"] (defScope (top 79)) := ⟨rfl, rfl, rfl, by decide +kernel, rfl, by decide +kernel, by decide +kernel⟩
theorem ok_lword_move (h : Has K mg "_law_word_move" (top 79)) (Ga : Good P w K mg base 3 "_law_after" ["_law_one", "_law_other"] (spF K R_after)) (Gb : Good P w K mg base 3 "_law_back" ["_law_m"] (spF K R_back)) : Good P w K mg base 4 "_law_word_move" ["_law_moves", "_law_word"] (spF K R_word_move) := by
  obtain ⟨f, fd, F, hm⟩ := h.ex
  refine good_F (k := 3) F hm sc_lword_move (F.bindsN fun _ _ _ _ _ _ us hl => match us, hl with | [_, _], _ => rfl) (fun ds d h => by cases h <;> rfl) fun cdv A outer s H E ds d hr h => ?_
  cases h with
  | mk d ms wd hd hm hl hw hwl =>
    refine ⟨{}, dss_cons (ds_set (i := 2) (d := eM idM) sc_lword_move.nd rfl (.inl rfl) (de_tup (da_cons de_int (da_cons de_int (da_cons de_int (da_cons de_int da_nil)))) (by show 4 ≤ 100000; decide))) (dss_forT (xs := wd.map fun l => PyData.tuple [.int l.1, .int l.2]) rfl PassesOwn.never (de_var 1 (pv 1) rfl) (wdR d ms wd) (fun i => [.dat d, .dat (eW wd), .dat (eM (wordP ms wd i)), .dat (.int (wd.getD i (0, 0)).1), .dat (.int (wd.getD i (0, 0)).2)]) (fun _ => {}) rfl rfl (fun i x hx => ?_) (fun i hi => ?_) ?_)⟩
    · obtain ⟨h1, h2, rfl⟩ := wrd_get hx
      cases i <;> exact (dg_tup rfl (dgs_cons (dg_name (i := 3) sc_lword_move.nd rfl (.inl rfl)) (dgs_cons (dg_name (i := 4) sc_lword_move.nd rfl (.inl rfl)) dgs_nil)))
    · have hi' : i < wd.length := by simpa using hi
      have hmem : wd.getD i (0, 0) ∈ wd := by rw [List.getD_eq_getElem?_getD, List.getElem?_eq_getElem hi']; exact List.getElem_mem _
      have hlt := hw _ hmem
      obtain ⟨b1, s1⟩ := hm.at hlt.1 hlt.2.1
      obtain ⟨b2, s2⟩ := let_ok hm hlt
      obtain ⟨b3, s3⟩ := wordP_ok hm hw (i := i) (by omega)
      refine dss_nx (dss_one (ds_set (i := 2) sc_lword_move.nd rfl (.inl rfl) (de_call Ga hr (da_cons (de_var 2 (pv 2) rfl) (da_cons (de_if (S1 := {}) (d := eM (letM ms (wd.getD i (0, 0)))) (dt_cmp op_eq (de_var 4 (pv 4) rfl) de_int rv_eqI (nomark _)) (fun hx => ?_) (fun hx => ?_)) da_nil)) (.mk _ _ b3 b2 (by have : (60 + 1) * i ≤ 61 * 20 := Nat.mul_le_mul_left _ (by omega); omega) s3 s2)))) ?_
      · have e1 : (wd.getD i (0, 0)).2 = 1 := of_decide_eq_true hx
        unfold letM
        rw [if_pos e1]
        rcases hd with rfl | rfl
        · exact (de_ixL (de_var 0 (pv 0) rfl) (de_var 3 (pv 3) rfl) (atI_ms hlt.1 hlt.2.1))
        · exact (de_ixT (de_var 0 (pv 0) rfl) (de_var 3 (pv 3) rfl) (atI_ms hlt.1 hlt.2.1))
      · have e1 : ¬ (wd.getD i (0, 0)).2 = 1 := of_decide_eq_false hx
        unfold letM
        rw [if_neg e1]
        refine de_call Gb hr (da_cons ?_ da_nil) (.mk _ b1 (by decide) s1)
        rcases hd with rfl | rfl
        · exact (de_ixL (de_var 0 (pv 0) rfl) (de_var 3 (pv 3) rfl) (atI_ms hlt.1 hlt.2.1))
        · exact (de_ixT (de_var 0 (pv 0) rfl) (de_var 3 (pv 3) rfl) (atI_ms hlt.1 hlt.2.1))
      · unfold wdR
        rw [wordP_succ ms wd hi']
        rfl
    · refine dss_one (ds_ret (de_eq (de_var 2 (pv 2) rfl) ?_))
      unfold wordP
      rw [List.take_of_length_le (by simp)]
theorem sc_lbad : FnScope ["_law_moves", "_law_found", "_law_m", "_law_p"] ["_law_moves"] (defScope (top 88)) := ⟨rfl, rfl, rfl, by decide +kernel, rfl, by decide +kernel, by decide +kernel⟩
theorem ok_lbad (Bl : Bl mg) (h : Has K mg "_law_bad_primes" (top 88)) (Gp : Good P w K mg base 1 "_law_primes_of" ["_law_n"] (spF K R_lprimes)) (Gs : Good P w K mg base 1 "_law_size" ["_law_m"] (spF K R_size)) : Good P w K mg base 2 "_law_bad_primes" ["_law_moves"] (spF K R_lbad) := by
  obtain ⟨f, fd, F, hm⟩ := h.ex
  refine good_F (k := 1) F hm sc_lbad (F.bindsN fun _ _ _ _ _ _ us hl => match us, hl with | [_], _ => rfl) (fun ds d h => by cases h <;> rfl) fun cdv A outer s H E ds d hr h => ?_
  cases h with
  | mk ms hm hk =>
    have len : (eMs ms).length = ms.length := by simp
    refine ⟨{}, dss_cons (ds_set (i := 1) (d := .list (eNs (badP ms 0))) sc_lbad.nd rfl (.inr rfl) (de_lst da_nil (by show 0 ≤ 100000; decide))) (dss_forL (xs := eMs ms) rfl PassesOwn.never (de_var 0 (pv 0) rfl) (fun i => [.dat (.list (eMs ms)), .dat (.list (eNs (badP ms i))), .no, .no]) (fun i => [.dat (.list (eMs ms)), .dat (.list (eNs (badP ms i))), .dat (eM (ms.getD i idM)), .no]) (fun _ => {}) rfl rfl (fun i x hx => ?_) (fun i hi => ?_) ?_)⟩
    · have hi : i < ms.length := by
        rcases Nat.lt_or_ge i ms.length with q | q
        · exact q
        · rw [List.getElem?_eq_none (by simpa using q)] at hx; cases hx
      rw [get_ms hi] at hx
      cases hx
      exact dg_name (i := 2) sc_lbad.nd rfl (.inl rfl)
    · have hi' : i < ms.length := by omega
      obtain ⟨b1, s1⟩ := hm.at (i := (i : Int)) (by omega) (by omega)
      rw [Int.toNat_natCast] at b1
      generalize hmm : ms.getD i idM = m at *
      generalize hf : badP ms i = fnd at *
      have hgetp : ∀ j, j < (primesL (sizeM m)).length → (eNs (primesL (sizeM m))).getD j .none = .int (((primesL (sizeM m)).map fun (p : Nat) => (p : Int)).getD j 0) := fun j hj => by
        rw [List.getD_eq_getElem?_getD, List.getD_eq_getElem?_getD, List.getElem?_map, List.getElem?_map, List.getElem?_eq_getElem hj]; rfl
      have lp : (primesL (sizeM m)).length ≤ 25 := List.length_filter_le _ _
      have lf : fnd.length ≤ 25 := hf ▸ badGo_len _
      have le : (eNs (primesL (sizeM m))).length = (primesL (sizeM m)).length := by simp
      refine dss_cons (S1 := {}) (ρ1 := [.dat (.list (eMs ms)), .dat (.list (eNs (badF fnd m))), .dat (eM m), .no]) (ds_set (i := 1) (d := .list (eNs (badF fnd m))) sc_lbad.nd rfl (.inr rfl) (de_eq (de_cat (ds := eNs fnd) (es := eNs ((primesL (sizeM m)).filter fun p => !decide (p ∈ fnd))) (de_var 1 (pv 1) rfl) (de_eq (de_lcLi (ys := eNs (primesL (sizeM m))) (t := fun i => !decide (((primesL (sizeM m)).map fun (p : Nat) => (p : Int)).getD i 0 ∈ fnd.map fun (p : Nat) => (p : Int))) (v := fun i => .int (((primesL (sizeM m)).map fun (p : Nat) => (p : Int)).getD i 0)) rfl sc_lbad.nd
         (de_call Gp hr (da_cons (de_call Gs hr (da_cons (de_var 2 (pv 2) rfl) da_nil) (.mk m b1 (by omega))) da_nil) (.mk _)) (blkOk_by (N := ["_law_moves", "_law_found", "_law_m", "_law_p"]) (sc := defScope (top 88)) (by decide +kernel)) (fun _ _ _ _ _ => pg_name (i := 3) sc_lbad.nd rfl (.inl rfl)) rfl (by rw [le]; omega)
         (fun j hj _ _ _ _ _ => dt_cmp op_notIn_seq (de_eq (de_var 3 (pv 3) rfl) (hgetp j (by omega))) (de_var 1 (pv 1) rfl) (rv_notIn (ns := fnd.map fun (p : Nat) => (p : Int)) (.inl (by rw [← eNs_int]))) (by rfl)) (fun j hj _ _ _ _ _ _ => de_eq (de_var 3 (pv 3) rfl) (hgetp j (by omega)))) (by rw [le, badF_outs])) (by
            have h1 : (eNs fnd).length = fnd.length := by simp
            have h2 : (eNs ((primesL (sizeM m)).filter fun p => !decide (p ∈ fnd))).length ≤ 25 := by simp only [eNs, List.length_map]; exact Nat.le_trans (List.length_filter_le _ _) lp
            omega)) (by unfold badF eNs; rw [List.map_append]))) (dss_drop 2 (dss_nx dss_nil ?_))
      show [Sl.dat (.list (eMs ms)), .dat (.list (eNs (badF fnd m))), .no, .no] = _
      rw [badP_succ hi', hmm, hf]
    · have e1 : badP ms (eMs ms).length = badGo ms := by unfold badP; rw [List.take_of_length_le (by omega)]
      have pm : ((badL ms).map fun (p : Nat) => (p : Int)).Perm ((badGo ms).map fun (p : Nat) => (p : Int)) := (badL_perm ms).map _
      have so : ((badL ms).map fun (p : Nat) => (p : Int)).Pairwise (· ≤ ·) := List.pairwise_map.mpr ((badL_sorted ms).imp fun h => by omega)
      have l64 : ((badGo ms).map fun (p : Nat) => (p : Int)).length < 64 := by rw [List.length_map]; have := badGo_len ms; omega
      refine dss_one (ds_ret (de_eq (de_cb cr_sorted Bl.sorted (by decide +kernel) (da_cons (de_eq (d := .list (((badGo ms).map fun (p : Nat) => (p : Int)).map .int)) (de_var 1 (pv 1) rfl) (by rw [e1, ← eNs_int])) da_nil) (rc_sorted pm so l64)) (by rw [eNs_int])))
end
end Bm
namespace Bm
open PySem PySem.Spec PyProof.Rows L2 G
noncomputable def nearD (p : Nat) (ms : List M4) : PyData := match nearL p ms with
  | some β => eB β
  | none => .none
def wdD : Option Wd → PyData
  | some w => eW w
  | none => .none
inductive R_lnear : List PyData → PyData → Prop
  | mk (p : Nat) (ms : List M4) (hp : IsP p) (hm : MsOk 25 ms) (hl : ms.length ≤ 100) : R_lnear [.int p, .list (eMs ms)] (nearD p ms)
inductive R_lbarring : List PyData → PyData → Prop
  | mk (p : Nat) (ms : List M4) (hp : IsP p) (hm : MsOk 25 ms) (hl : ms.length ≤ 100) : R_lbarring [.int p, .list (eMs ms)] (wdD (barL p ms))
noncomputable def farP (p : Nat) (ms : List M4) (i : Nat) : Bq := (ms.take i).foldl (farL p) start0
theorem farP_succ (p : Nat) {ms : List M4} {i : Nat} (h : i < ms.length) : farP p ms (i + 1) = farL p (farP p ms i) (ms.getD i idM) := by
  unfold farP
  rw [List.take_succ_eq_append_getElem h, List.foldl_append, List.getD_eq_getElem?_getD, List.getElem?_eq_getElem h]; rfl
theorem farP_BB {p : Nat} (hp : IsP p) {ms : List M4} (hm : MsOk 25 ms) (i : Nat) : BB p 331 56 (farP p ms i) :=
  far_BB hp (a := 25) (fun m h => ⟨hm.b m (List.mem_of_mem_take h), hm.s m (List.mem_of_mem_take h)⟩) (start_BB (by decide) (by decide))
theorem rd_mid (p : Nat) (γ : Bq) (n : Nat) : atI (rdL p γ n) (((n + 1 : Nat) : Int).fdiv 2) = some (eB (roadAt p start0 γ ((n + 1) / 2))) := by
  have e : ((n + 1 : Nat) : Int).fdiv 2 = (((n + 1) / 2 : Nat) : Int) := by rw [fdiv_pos (by decide)]; rfl
  rw [e, atI_nat]
  unfold rdL
  rw [List.getElem?_map, List.getElem?_range (by omega)]; rfl
theorem rdL_len (p : Nat) (γ : Bq) (n : Nat) : (rdL p γ n).length = n + 1 := by unfold rdL; rw [List.length_map, List.length_range]
theorem getD_eMs {ms : List M4} {i : Nat} (h : i < ms.length) : (eMs ms).getD i .none = eM (ms.getD i idM) := by
  rw [List.getD_eq_getElem?_getD, get_ms h]; rfl
section
variable {P : Program} {w : World} {K : PySem.W.Frag} {mg : Str → Option Value} {base : Heap}
theorem sc_lnear : FnScope ["_law_p", "_law_moves", "_law_found", "_law_m", "_law_way", "_law_gate"] ["_law_p", "_law_moves"] (defScope (top 85)) := ⟨rfl, rfl, rfl, by decide +kernel, rfl, by decide +kernel, by decide +kernel⟩
theorem ok_lnear (Bl : Bl mg) (h : Has K mg "_law_nearest_common" (top 85)) (Gs0 : Good P w K mg base 1 "_law_start" [] (spF K R_lstart)) (Gk : Good P w K mg base 3 "_law_keeps_some" ["_law_p", "_law_m"] (spF K R_lkeeps)) (Gl : Good P w K mg base 4 "_law_led" ["_law_p", "_law_m", "_law_spot"] (spF K R_led)) (Gr : Good P w K mg base 5 "_law_road" ["_law_p", "_law_one", "_law_other"] (spF K R_lroad)) (Gs : Good P w K mg base 4 "_law_steps" ["_law_p", "_law_one", "_law_other"] (spF K R_steps)) : Good P w K mg base 6 "_law_nearest_common" ["_law_p", "_law_moves"] (spF K R_lnear) := by
  obtain ⟨f, fd, F, hm⟩ := h.ex
  refine good_F (k := 5) F hm sc_lnear (F.bindsN fun _ _ _ _ _ _ us hl => match us, hl with | [_, _], _ => rfl) (fun ds d h => by cases h <;> rfl) fun cdv A outer s H E ds d hr h => ?_
  cases h with
  | mk p ms hp hm hl =>
    have len : (eMs ms).length = ms.length := by simp
    have hin : ∀ i, i < ms.length → MB 25 (ms.getD i idM) ∧ sizeM (ms.getD i idM) ≠ 0 := fun i hi => by
      have := hm.at (i := (i : Int)) (by omega) (by omega)
      rwa [Int.toNat_natCast] at this
    let R : Nat → Rho := fun i => [.dat (.int p), .dat (.list (eMs ms)), .dat (eB (farP p ms i)), .no, .no, .no]
    let T : Nat → Rho := fun i => [.dat (.int p), .dat (.list (eMs ms)), .dat (eB (farP p ms i)), .dat (eM (ms.getD i idM)), .no, .no]
    have start : DS (cxOf CX0 P w K mg base ["_law_p", "_law_moves", "_law_found", "_law_m", "_law_way", "_law_gate"] "_law_nearest_common" (defScope (top 85)) f cdv A outer s H E).nox [.dat (.int p), .dat (.list (eMs ms)), .no, .no, .no, .no] {} ((defBody (top 85)).getD 0 (.Pass ⟨0, 0, 0, 0⟩)) (.nx (R 0) {}) :=
      ds_set (i := 2) (d := eB start0) sc_lnear.nd rfl (.inr rfl) (de_call0 Gs0 (hr.mono (by decide)) .mk)
    have hg : ∀ i x, (eMs ms)[i]? = some x → DG (cxOf CX0 P w K mg base ["_law_p", "_law_moves", "_law_found", "_law_m", "_law_way", "_law_gate"] "_law_nearest_common" (defScope (top 85)) f cdv A outer s H E).nox (match (defBody (top 85)).getD 1 (.Pass ⟨0, 0, 0, 0⟩) with
        | .For tg _ _ _ _ => tg
        | _ => .Name "" ⟨0, 0, 0, 0⟩) (R i) x (T i) := fun i x hx => by
      have hi : i < ms.length := by
        rcases Nat.lt_or_ge i ms.length with q | q
        · exact q
        · rw [List.getElem?_eq_none (by simpa using q)] at hx; cases hx
      rw [get_ms hi] at hx
      cases hx
      exact dg_name (i := 3) sc_lnear.nd rfl (.inl rfl)
    have hno : ∀ i, i < ms.length → keepsL p (ms.getD i idM) = false → DSs (cxOf CX0 P w K mg base ["_law_p", "_law_moves", "_law_found", "_law_m", "_law_way", "_law_gate"] "_law_nearest_common" (defScope (top 85)) f cdv A outer s H E).nox (T i) {} (match (defBody (top 85)).getD 1 (.Pass ⟨0, 0, 0, 0⟩) with
        | .For _ _ b _ _ => b
        | _ => []) (.rt .none {}) := fun i hi hk => by
      obtain ⟨b1, s1⟩ := hin i hi
      refine dss_rt (ds_if (x := true) (dt_eq (dt_not (dt_val (de_call Gk (hr.mono (by decide)) (da_cons (de_var 0 (pv 0) rfl) (da_cons (de_var 3 (pv 3) rfl) da_nil)) (.mk p _ hp b1 s1 (by decide))))) (by rw [hk]; rfl)) (fun _ => dss_one (ds_ret de_non)) (fun z => by cases z))
    have hyes : ∀ i, i < ms.length → keepsL p (ms.getD i idM) = true → DSs (cxOf CX0 P w K mg base ["_law_p", "_law_moves", "_law_found", "_law_m", "_law_way", "_law_gate"] "_law_nearest_common" (defScope (top 85)) f cdv A outer s H E).nox (T i) {} (match (defBody (top 85)).getD 1 (.Pass ⟨0, 0, 0, 0⟩) with
        | .For _ _ b _ _ => b
        | _ => []) (.nx (R (i + 1)) {}) := fun i hi hk => by
      obtain ⟨b1, s1⟩ := hin i hi
      have hf := farP_BB hp hm i
      have hbl := led0_BB hp b1 s1
      have hgt := gate_BB hp b1 s1
      have e1 : farP p ms (i + 1) = if stepsQ p start0 (gateL p (ms.getD i idM)) > stepsQ p start0 (farP p ms i) then gateL p (ms.getD i idM) else farP p ms i := farP_succ p hi
      refine dss_cons (S1 := {}) (ds_if (x := false) (dt_eq (dt_not (dt_val (de_call Gk (hr.mono (by decide)) (da_cons (de_var 0 (pv 0) rfl) (da_cons (de_var 3 (pv 3) rfl) da_nil)) (.mk p _ hp b1 s1 (by decide))))) (by rw [hk]; rfl)) (fun z => by cases z) (fun _ => dss_nil))
       (dss_cons (S1 := {}) (ds_set (i := 4) (d := .list (rdL p (ledQ p (ms.getD i idM) start0) (stepsQ p start0 (ledQ p (ms.getD i idM) start0)).toNat)) sc_lnear.nd rfl (.inl rfl) (de_call Gr hr (da_cons (de_var 0 (pv 0) rfl) (da_cons (de_call0 Gs0 (hr.mono (by decide)) .mk) (da_cons (de_call Gl (hr.mono (by decide)) (da_cons (de_var 0 (pv 0) rfl) (da_cons (de_var 3 (pv 3) rfl) (da_cons (de_call0 Gs0 (hr.mono (by decide)) .mk) da_nil))) (.mk p _ start0 hp b1 s1 BB.start (by decide))) da_nil))) (.mk p _ hp hbl (by decide) (by decide))))
       (dss_cons (S1 := {}) (ds_set (i := 5) (d := eB (gateL p (ms.getD i idM))) sc_lnear.nd rfl (.inl rfl) (de_ixL (de_var 4 (pv 4) rfl) (de_fdiv (de_eq (d := .int ((((stepsQ p start0 (ledQ p (ms.getD i idM) start0)).toNat + 1 : Nat)) : Int)) (de_cb call_len_seq Bl.len (by decide +kernel) (da_cons (de_var 4 (pv 4) rfl) da_nil) (rc_len (.inl rfl))) (by rw [rdL_len])) de_int (by decide) (by decide +kernel)) (rd_mid p _ _)))
       (dss_cons (S1 := {}) (ds_set (i := 2) (d := eB (farP p ms (i + 1))) sc_lnear.nd rfl (.inr rfl) (de_if (S1 := {}) (dt_cmp op_gt (de_call Gs (hr.mono (by decide)) (da_cons (de_var 0 (pv 0) rfl) (da_cons (de_call0 Gs0 (hr.mono (by decide)) .mk) (da_cons (de_var 5 (pv 5) rfl) da_nil))) (.mk p start0 _ hp BB.start hgt (by decide))) (de_call Gs (hr.mono (by decide)) (da_cons (de_var 0 (pv 0) rfl) (da_cons (de_call0 Gs0 (hr.mono (by decide)) .mk) (da_cons (de_var 2 (pv 2) rfl) da_nil))) (.mk p start0 _ hp BB.start hf (by decide))) rv_gt (nomark _)) (fun hx => de_eq (de_var 5 (pv 5) rfl) ?_) (fun hx => de_eq (de_var 2 (pv 2) rfl) ?_))) (dss_drop 3 (dss_drop 4 (dss_drop 5 (dss_nx dss_nil rfl)))))))
      · rw [e1, if_pos (of_decide_eq_true hx)]
      · rw [e1, if_neg (of_decide_eq_false hx)]
    cases hfind : (List.range ms.length).find? (fun k => !keepsL p (ms.getD k idM)) with
    | some k =>
      obtain ⟨g1, g2, g3⟩ := List.find?_range_eq_some.mp hfind
      have hk : k < ms.length := by simpa using g2
      have hkk : keepsL p (ms.getD k idM) = false := by simpa using g1
      have e : nearD p ms = .none := by
        unfold nearD nearL
        rw [if_neg]
        intro z
        rw [List.all_eq_true] at z
        have := z _ (getD_ms (ms := ms) (k := (k : Int)) (by omega) (by omega))
        rw [Int.toNat_natCast, hkk] at this
        cases this
      rw [e]
      exact ⟨{}, dss_cons start (dss_rt (ds_forLs (xs := eMs ms) k rfl PassesOwn.never (de_var 1 (pv 1) rfl) R T (fun _ => {}) rfl rfl (by omega) hg (fun i hi => hyes i (by omega) (by simpa using g3 i hi)) (hno k hk hkk)))⟩
    | none =>
      have hall := List.find?_range_eq_none.mp hfind
      have hall' : ∀ i, i < ms.length → keepsL p (ms.getD i idM) = true := fun i hi => by simpa using hall i hi
      refine ⟨{}, dss_cons start (dss_forL (xs := eMs ms) rfl PassesOwn.never (de_var 1 (pv 1) rfl) R T (fun _ => {}) rfl rfl hg (fun i hi => hyes i (by omega) (hall' i (by omega))) ?_)⟩
      have ef : farP p ms (eMs ms).length = ms.foldl (farL p) start0 := by unfold farP; rw [List.take_of_length_le (by omega)]
      have hf := farP_BB hp hm (eMs ms).length
      rw [ef] at hf
      have e : nearD p ms = (if (ms.all fun m => decide (ledQ p m (ms.foldl (farL p) start0) = ms.foldl (farL p) start0)) = true then eB (ms.foldl (farL p) start0) else .none) := by
        unfold nearD nearL
        rw [if_pos (List.all_eq_true.mpr fun m hmm => by
          obtain ⟨i, hi, rfl⟩ := List.mem_iff_getElem.mp hmm
          have := hall' i hi
          rwa [List.getD_eq_getElem?_getD, List.getElem?_eq_getElem hi] at this)]
        generalize (ms.all fun m => decide (ledQ p m (ms.foldl (farL p) start0) = ms.foldl (farL p) start0)) = b
        cases b <;> rfl
      rw [e]
      refine dss_eqR (ρ' := [.dat (.int p), .dat (.list (eMs ms)), .dat (eB (ms.foldl (farL p) start0)), .no, .no, .no]) (by show R _ = _; simp only [R]; rw [ef]) ?_
      generalize ms.foldl (farL p) start0 = fr at *
      have eall : (ms.all fun m => decide (ledQ p m fr = fr)) = ((List.range ms.length).map fun i => decide (ledQ p (ms.getD i idM) fr = fr)).all id := by
        have : ∀ ms : List M4, (ms.all fun m => decide (ledQ p m fr = fr)) = ((List.range ms.length).map fun i => decide (ledQ p (ms.getD i idM) fr = fr)).all id := by
          intro ms
          induction ms with
          | nil => rfl
          | cons m ms ih =>
            rw [List.length_cons, List.range_succ_eq_map, List.map_cons, List.all_cons, List.map_map, List.all_cons, ih]
            rfl
        exact this ms
      refine dss_one (ds_ret (de_if (S1 := {}) (x := ms.all fun m => decide (ledQ p m fr = fr)) (dt_eq (dt_val (de_cb (cr_all rfl) Bl.all (by decide +kernel) (da_cons (de_eq (de_lcL0 (ys := eMs ms) (v := fun i => .bool (decide (ledQ p (ms.getD i idM) fr = fr))) rfl sc_lnear.nd (de_var 1 (pv 1) rfl) (blkOk_by (N := ["_law_p", "_law_moves", "_law_found", "_law_m", "_law_way", "_law_gate"]) (sc := defScope (top 85)) (by decide +kernel)) (fun _ _ _ _ _ => pg_name (i := 3) sc_lnear.nd rfl (.inl rfl)) rfl (by omega)
        (fun i hi _ _ _ _ _ => de_eq (de_cmp (op_eqD hr.units) (de_call Gl (hr.mono (by decide)) (da_cons (de_var 0 (pv 0) rfl) (da_cons (de_eq (de_var 3 (pv 3) rfl) (getD_eMs (by omega))) (da_cons (de_var 2 (pv 2) rfl) da_nil))) (.mk p _ fr hp (hin i (by omega)).1 (hin i (by omega)).2 hf (by decide))) (de_var 2 (pv 2) rfl) (rv_eqD rfl rfl) (nomark _)) (by rw [eqv_eB]))) (by rw [len, outs_bool])) da_nil) rc_all)) eall.symm) (fun hx => ?_) (fun hx => ?_)))
      · rw [if_pos hx]; exact de_var 2 (pv 2) rfl
      · rw [if_neg (by rw [hx]; exact Bool.false_ne_true)]; exact de_non
theorem sc_lbarring : FnScope ["_law_p", "_law_moves", "_law_k", "_law_i", "_law_j"] ["_law_p", "_law_moves"] (defScope (top 89)) := ⟨rfl, rfl, rfl, by decide +kernel, rfl, by decide +kernel, by decide +kernel⟩
theorem atI_eMs {ms : List M4} {i : Nat} (h : i < ms.length) : atI (eMs ms) (0 + (i : Int)) = some (eM (ms.getD i idM)) := by
  rw [Int.zero_add, atI_nat, get_ms h]
theorem ok_lbarring (Bl : Bl mg) (h : Has K mg "_law_barring" (top 89)) (Gk : Good P w K mg base 3 "_law_keeps_some" ["_law_p", "_law_m"] (spF K R_lkeeps)) (Ga : Good P w K mg base 3 "_law_after" ["_law_one", "_law_other"] (spF K R_after)) : Good P w K mg base 4 "_law_barring" ["_law_p", "_law_moves"] (spF K R_lbarring) := by
  obtain ⟨f, fd, F, hm⟩ := h.ex
  refine good_F (k := 3) F hm sc_lbarring (F.bindsN fun _ _ _ _ _ _ us hl => match us, hl with | [_, _], _ => rfl) (fun ds d h => by cases h <;> rfl) fun cdv A outer s H E ds d hr h => ?_
  cases h with
  | mk p ms hp hm hl =>
    have hin : ∀ i, i < ms.length → MB 25 (ms.getD i idM) ∧ sizeM (ms.getD i idM) ≠ 0 := fun i hi => by
      have := hm.at (i := (i : Int)) (by omega) (by omega)
      rwa [Int.toNat_natCast] at this
    have hT : (((ms.length : Nat) : Int)).toNat = ms.length := Int.toNat_natCast _
    have hlen : DA (cxOf CX0 P w K mg base ["_law_p", "_law_moves", "_law_k", "_law_i", "_law_j"] "_law_barring" (defScope (top 89)) f cdv A outer s H E).nox = DA _ := rfl
    cases hf1 : (List.range ms.length).find? (fun k => !keepsL p (ms.getD k idM)) with
    | some k =>
      obtain ⟨g1, g2, g3⟩ := List.find?_range_eq_some.mp hf1
      have hk : k < ms.length := by simpa using g2
      have hkk : keepsL p (ms.getD k idM) = false := by simpa using g1
      have e : wdD (barL p ms) = eW [((k : Int), 1)] := by unfold barL; rw [hf1]; rfl
      rw [e]
      refine ⟨{}, dss_rt (ds_forR1s (n := (ms.length : Int)) k rfl PassesOwn.never Bl.range (da_cons (de_cb call_len_seq Bl.len (by decide +kernel) (da_cons (de_var 1 (pv 1) rfl) da_nil) (rc_lenM (.inl rfl))) da_nil) (by omega) (fun i => [.dat (.int p), .dat (.list (eMs ms)), .no, .no, .no]) (fun i => [.dat (.int p), .dat (.list (eMs ms)), .dat (.int (0 + (i : Nat))), .no, .no]) (fun _ => {}) rfl rfl (by omega)
        (fun i _ => dg_name (i := 2) sc_lbarring.nd rfl (.inl rfl)) (fun i hi => ?_) ?_)⟩
      · have hi' : i < ms.length := by omega
        have hki : keepsL p (ms.getD i idM) = true := by simpa using g3 i hi
        exact dss_cons (S1 := {}) (ds_if (x := false) (dt_eq (dt_not (dt_val (de_call Gk hr (da_cons (de_var 0 (pv 0) rfl) (da_cons (de_ixL (de_var 1 (pv 1) rfl) (de_var 2 (pv 2) rfl) (atI_eMs hi')) da_nil)) (.mk p _ hp (hin i hi').1 (hin i hi').2 (by decide))))) (by rw [hki]; rfl)) (fun z => by cases z) (fun _ => dss_nil)) (dss_drop 2 (dss_nx dss_nil rfl))
      · refine dss_one (ds_if (x := true) (dt_eq (dt_not (dt_val (de_call Gk hr (da_cons (de_var 0 (pv 0) rfl) (da_cons (de_ixL (de_var 1 (pv 1) rfl) (de_var 2 (pv 2) rfl) (atI_eMs hk)) da_nil)) (.mk p _ hp (hin k hk).1 (hin k hk).2 (by decide))))) (by rw [hkk]; rfl)) (fun _ => dss_one (ds_ret (de_eq (de_tup (da_cons (de_tup (da_cons (de_var 2 (pv 2) rfl) (da_cons de_int da_nil)) (by show 2 ≤ 100000; decide)) da_nil) (by show 1 ≤ 100000; decide)) ?_))) (fun z => by cases z))
        rw [Int.zero_add]; rfl
    | none =>
      have hall := List.find?_range_eq_none.mp hf1
      have hall' : ∀ i, i < ms.length → keepsL p (ms.getD i idM) = true := fun i hi => by simpa using hall i hi
      let R : Nat → Rho := fun i => [.dat (.int p), .dat (.list (eMs ms)), .no, .no, .no]
      let T : Nat → Rho := fun i => [.dat (.int p), .dat (.list (eMs ms)), .no, .dat (.int (0 + (i : Nat))), .no]
      -- the inner turn
      have inTest : ∀ i j, i < ms.length → i + 1 + j < ms.length → ∀ (b : Bool), keepsL p (afterM (ms.getD i idM) (ms.getD (i + 1 + j) idM)) = b → DT (cxOf CX0 P w K mg base ["_law_p", "_law_moves", "_law_k", "_law_i", "_law_j"] "_law_barring" (defScope (top 89)) f cdv A outer s H E).nox [.dat (.int p), .dat (.list (eMs ms)), .no, .dat (.int (0 + (i : Nat))), .dat (.int (0 + (i : Nat) + 1 + (j : Nat)))] {} (match (defBody (top 89)).getD 1 (.Pass ⟨0, 0, 0, 0⟩) with
          | .For _ _ [.For _ _ [.If c _ _ _] _ _] _ _ => c
          | _ => .Name "" ⟨0, 0, 0, 0⟩) (!b) {} := fun i j hi hj b hb => by
        have e2 : 0 + (i : Int) + 1 + (j : Int) = 0 + ((i + 1 + j : Nat) : Int) := by omega
        obtain ⟨b1, s1⟩ := hin i hi
        obtain ⟨b2, s2⟩ := hin _ hj
        rw [e2]
        exact dt_eq (dt_not (dt_val (de_call Gk hr (da_cons (de_var 0 (pv 0) rfl) (da_cons (de_call Ga hr (da_cons (de_ixL (de_var 1 (pv 1) rfl) (de_var 3 (pv 3) rfl) (atI_eMs hi)) (da_cons (de_ixL (de_var 1 (pv 1) rfl) (de_var 4 (pv 4) rfl) (atI_eMs hj)) da_nil)) (.mk _ _ b1 b2 (by decide) s1 s2)) da_nil)) (.mk p _ hp (b1.after b2 s1 s2) (size_after_ne s1 s2) (by decide))))) (by rw [hb])
      have inLen : ∀ i : Nat, ((ms.length : Int) - (0 + (i : Int) + 1)).toNat = ms.length - (i + 1) := fun i => by omega
      -- a whole inner loop in which all is kept
      have inAll : ∀ i, i < ms.length → innerAt p ms i = none → DSs (cxOf CX0 P w K mg base ["_law_p", "_law_moves", "_law_k", "_law_i", "_law_j"] "_law_barring" (defScope (top 89)) f cdv A outer s H E).nox (T i) {} (match (defBody (top 89)).getD 1 (.Pass ⟨0, 0, 0, 0⟩) with
          | .For _ _ b _ _ => b
          | _ => []) (.nx (R (i + 1)) {}) := fun i hi hn => by
        have hn' := List.find?_range_eq_none.mp hn
        refine dss_forR2 (lo := 0 + (i : Int) + 1) (n := (ms.length : Int)) (S0 := {}) rfl PassesOwn.never Bl.range (da_cons (de_add (de_var 3 (pv 3) rfl) de_int) (da_cons (de_cb call_len_seq Bl.len (by decide +kernel) (da_cons (de_var 1 (pv 1) rfl) da_nil) (rc_lenM (.inl rfl))) da_nil)) (by omega) (fun j => T i) (fun j => [.dat (.int p), .dat (.list (eMs ms)), .no, .dat (.int (0 + (i : Nat))), .dat (.int (0 + (i : Nat) + 1 + (j : Nat)))]) (fun _ => {}) rfl rfl
          (fun j _ => dg_name (i := 4) sc_lbarring.nd rfl (.inl rfl)) (fun j hj => ?_) (dss_drop 3 (dss_nx dss_nil rfl))
        rw [inLen] at hj
        exact dss_cons (S1 := {}) (ds_if (x := false) (inTest i j hi (by omega) true (by simpa using hn' j (by omega))) (fun z => by cases z) (fun _ => dss_nil)) (dss_drop 4 (dss_nx dss_nil rfl))
      have first : ∀ {o : Out}, DSs (cxOf CX0 P w K mg base ["_law_p", "_law_moves", "_law_k", "_law_i", "_law_j"] "_law_barring" (defScope (top 89)) f cdv A outer s H E).nox (R 0) {} ((defBody (top 89)).drop 1) o → DSs (cxOf CX0 P w K mg base ["_law_p", "_law_moves", "_law_k", "_law_i", "_law_j"] "_law_barring" (defScope (top 89)) f cdv A outer s H E).nox [.dat (.int p), .dat (.list (eMs ms)), .no, .no, .no] {} (defBody (top 89)) o := fun {o} hk => by
        refine dss_forR1 (n := (ms.length : Int)) rfl PassesOwn.never Bl.range (da_cons (de_cb call_len_seq Bl.len (by decide +kernel) (da_cons (de_var 1 (pv 1) rfl) da_nil) (rc_lenM (.inl rfl))) da_nil) (by omega) R (fun i => [.dat (.int p), .dat (.list (eMs ms)), .dat (.int (0 + (i : Nat))), .no, .no]) (fun _ => {}) rfl rfl
         (fun i _ => dg_name (i := 2) sc_lbarring.nd rfl (.inl rfl)) (fun i hi => ?_) hk
        have hi' : i < ms.length := by omega
        exact dss_cons (S1 := {}) (ds_if (x := false) (dt_eq (dt_not (dt_val (de_call Gk hr (da_cons (de_var 0 (pv 0) rfl) (da_cons (de_ixL (de_var 1 (pv 1) rfl) (de_var 2 (pv 2) rfl) (atI_eMs hi')) da_nil)) (.mk p _ hp (hin i hi').1 (hin i hi').2 (by decide))))) (by rw [hall' i hi']; rfl)) (fun z => by cases z) (fun _ => dss_nil)) (dss_drop 2 (dss_nx dss_nil rfl))
      have hgo : ∀ i : Nat, i < ((ms.length : Int)).toNat → DG (cxOf CX0 P w K mg base ["_law_p", "_law_moves", "_law_k", "_law_i", "_law_j"] "_law_barring" (defScope (top 89)) f cdv A outer s H E).nox (match (defBody (top 89)).getD 1 (.Pass ⟨0, 0, 0, 0⟩) with
          | .For tg _ _ _ _ => tg
          | _ => .Name "" ⟨0, 0, 0, 0⟩) (R i) (.int (0 + i)) (T i) := fun i _ => dg_name (i := 3) sc_lbarring.nd rfl (.inl rfl)
      cases hf2 : outerAt p ms with
      | none =>
        have hn := List.find?_range_eq_none.mp hf2
        have e : wdD (barL p ms) = .none := by unfold barL; rw [hf1]; show wdD (match outerAt p ms with | some i => _ | none => none) = _; rw [hf2]; rfl
        rw [e]
        refine ⟨{}, first (dss_forR1 (n := (ms.length : Int)) rfl PassesOwn.never Bl.range (da_cons (de_cb call_len_seq Bl.len (by decide +kernel) (da_cons (de_var 1 (pv 1) rfl) da_nil) (rc_lenM (.inl rfl))) da_nil) (by omega) R T (fun _ => {}) rfl rfl hgo (fun i hi => inAll i (by omega) ?_) (dss_one (ds_ret de_non)))⟩
        have := hn i (by omega)
        simpa using this
      | some i =>
        obtain ⟨g1, g2, g3⟩ := List.find?_range_eq_some.mp hf2
        have hi : i < ms.length := by simpa using g2
        obtain ⟨j, hj⟩ := Option.isSome_iff_exists.mp g1
        obtain ⟨q1, q2, q3⟩ := List.find?_range_eq_some.mp hj
        have hjl : j < ms.length - (i + 1) := by simpa using q2
        have e : wdD (barL p ms) = eW [((i : Int), 1), (((i + 1 + j : Nat) : Int), 1)] := by
          unfold barL; rw [hf1]
          show wdD (match outerAt p ms with | some i => (match innerAt p ms i with | some j => some [((i : Int), 1), (((i + 1 + j : Nat) : Int), 1)] | none => none) | none => none) = _
          rw [hf2]
          show wdD (match innerAt p ms i with | some j => some [((i : Int), 1), (((i + 1 + j : Nat) : Int), 1)] | none => none) = _
          rw [hj]; rfl
        rw [e]
        refine ⟨{}, first (dss_rt (ds_forR1s (n := (ms.length : Int)) i rfl PassesOwn.never Bl.range (da_cons (de_cb call_len_seq Bl.len (by decide +kernel) (da_cons (de_var 1 (pv 1) rfl) da_nil) (rc_lenM (.inl rfl))) da_nil) (by omega) R T (fun _ => {}) rfl rfl (by omega) hgo (fun i' hi' => inAll i' (by omega) (by simpa using g3 i' hi')) ?_))⟩
        refine dss_one (ds_forR2s (lo := 0 + (i : Int) + 1) (n := (ms.length : Int)) (S0 := {}) j rfl PassesOwn.never Bl.range (da_cons (de_add (de_var 3 (pv 3) rfl) de_int) (da_cons (de_cb call_len_seq Bl.len (by decide +kernel) (da_cons (de_var 1 (pv 1) rfl) da_nil) (rc_lenM (.inl rfl))) da_nil)) (by omega) (fun j => T i) (fun j => [.dat (.int p), .dat (.list (eMs ms)), .no, .dat (.int (0 + (i : Nat))), .dat (.int (0 + (i : Nat) + 1 + (j : Nat)))]) (fun _ => {}) rfl rfl (by omega)
          (fun j _ => dg_name (i := 4) sc_lbarring.nd rfl (.inl rfl)) (fun j' hj' => ?_) ?_)
        · exact dss_cons (S1 := {}) (ds_if (x := false) (inTest i j' hi (by omega) true (by simpa using q3 j' hj')) (fun z => by cases z) (fun _ => dss_nil)) (dss_drop 4 (dss_nx dss_nil rfl))
        · refine dss_one (ds_if (x := true) (inTest i j hi (by omega) false (by simpa using q1)) (fun _ => dss_one (ds_ret (de_eq (de_tup (da_cons (de_tup (da_cons (de_var 3 (pv 3) rfl) (da_cons de_int da_nil)) (by show 2 ≤ 100000; decide)) (da_cons (de_tup (da_cons (de_var 4 (pv 4) rfl) (da_cons de_int da_nil)) (by show 2 ≤ 100000; decide)) da_nil)) (by show 2 ≤ 100000; decide)) ?_))) (fun z => by cases z))
          rw [show 0 + (i : Int) + 1 + (j : Int) = ((i + 1 + j : Nat) : Int) by omega, Int.zero_add]; rfl
end
end Bm
namespace Bm
open PySem PySem.Spec PyProof.Rows L2 G
abbrev eP (x : Nat × Bq) : PyData := .tuple [.int (x.1 : Nat), eB x.2]
abbrev ePs (ps : List (Nat × Bq)) : List PyData := ps.map fun x => eP x
inductive R_lgrid : List PyData → PyData → Prop
  | mk (ps : List (Nat × Bq)) (h : GridOk ps) : R_lgrid [.list (ePs ps)] (eM (gridL ps))
def whD : Wh → PyData
  | .whole t => .tuple [.str "whole", eM t]
  | .bars p w => .tuple [.str "bars", .int (p : Nat), wdD w]
inductive R_lwhole : List PyData → PyData → Prop
  | mk (ms : List M4) (hm : MsOk 25 ms) (hl : ms.length ≤ 100) (hs : ∀ p ∈ badL ms, ∀ s, nearL p ms = some s → SpotOk p s) : R_lwhole [.list (eMs ms)] (whD (wholeL ms))
theorem get_ps {ps : List (Nat × Bq)} {i : Nat} {x : PyData} (h : (ePs ps)[i]? = some x) : ∃ hi : i < ps.length, x = eP ps[i] := by
  have hl : i < ps.length := by
    rcases Nat.lt_or_ge i ps.length with z | z
    · exact z
    · rw [List.getElem?_eq_none (by simpa using z)] at h; cases h
  rw [List.getElem?_map, List.getElem?_eq_getElem hl] at h
  exact ⟨hl, by cases h; rfl⟩
theorem badL_isP {ms : List M4} {p : Nat} (h : p ∈ badL ms) : IsP p := by
  have h1 : p ∈ P97 := (List.mem_filter.mp h).1
  exact (prime_of (d := .int (p : Int)) (by show decide _ = true; exact decide_eq_true (List.mem_map.mpr ⟨p, h1, rfl⟩))).1
theorem getNs {L : List Nat} {i : Nat} {x : PyData} (h : (eNs L)[i]? = some x) : ∃ hi : i < L.length, x = .int (L[i] : Nat) := by
  have hl : i < L.length := by
    rcases Nat.lt_or_ge i L.length with z | z
    · exact z
    · rw [List.getElem?_eq_none (by simpa using z)] at h; cases h
  rw [List.getElem?_map, List.getElem?_eq_getElem hl] at h
  exact ⟨hl, by cases h; rfl⟩
section
variable {P : Program} {w : World} {K : PySem.W.Frag} {mg : Str → Option Value} {base : Heap}
theorem sc_lgrid : FnScope ["_law_pairs", "_law_below", "_law_above", "_law_found", "_law_p", "_law_spot", "_law_least", "_law_high", "_law_gap"] ["_law_pairs"] (defScope (top 86)) := ⟨rfl, rfl, rfl, by decide +kernel, rfl, by decide +kernel, by decide +kernel⟩
theorem max0 (x : Int) : (max 0 (0 - x)) = ((max 0 (0 - x)).toNat : Int) := by omega
theorem ok_lgrid (Bl : Bl mg) (h : Has K mg "_law_grid_of" (top 86)) (Gr : Good P w K mg base 1 "_law_raised" ["_law_p", "_law_n"] (spF K R_raised)) (Gt : Good P w K mg base 3 "_law_product" ["_law_x", "_law_y"] (spF K R_times)) (Gw : Good P w K mg base 2 "_law_power" ["_law_p", "_law_n"] (spF K R_power_of)) (Gi : Good P w K mg base 1 "_law_turned" ["_law_n", "_law_m"] (spF K R_inverse)) (Gm : Good P w K mg base 2 "_law_move" ["_law_a", "_law_b", "_law_c", "_law_d"] (spF K R_lmove)) : Good P w K mg base 4 "_law_grid_of" ["_law_pairs"] (spF K R_lgrid) := by
  obtain ⟨f, fd, F, hm⟩ := h.ex
  refine good_F (k := 3) F hm sc_lgrid (F.bindsN fun _ _ _ _ _ _ us hl => match us, hl with | [_], _ => rfl) (fun ds d h => by cases h <;> rfl) fun cdv A outer s H E ds d hr h => ?_
  cases h with
  | mk ps g =>
    have len : (ePs ps).length = ps.length := by simp
    have g25 := g.len
    let R1 : Nat → Rho := fun i => [.dat (.list (ePs ps)), .dat (.int (belowP ps i)), .dat (.int 1), .dat (.int 0), .no, .no, .no, .no, .no]
    let R2 : Nat → Rho := fun i => [.dat (.list (ePs ps)), .dat (.int (belowL ps)), .dat (.int (gridP ps i).2), .dat (.int (gridP ps i).1), .no, .no, .no, .no, .no]
    have hp0 : gridP ps 0 = (0, 1) := by unfold gridP; rw [List.take_zero]; rfl
    have hb0 : belowP ps 0 = 1 := by unfold belowP; rw [List.take_zero]; rfl
    refine ⟨{}, dss_cons (S1 := {}) (ρ1 := R1 0) (ds_asg (de_tup (ds := [.int 1, .int 1, .int 0]) (da_cons de_int (da_cons de_int (da_cons de_int da_nil))) (by show 3 ≤ 100000; decide)) (by
        show DG _ _ _ _ (R1 0)
        simp only [R1]
        rw [hb0]
        exact dg_tup rfl (dgs_cons (dg_name (i := 1) sc_lgrid.nd rfl (.inl rfl)) (dgs_cons (dg_name (i := 2) sc_lgrid.nd rfl (.inl rfl)) (dgs_cons (dg_name (i := 3) sc_lgrid.nd rfl (.inl rfl)) dgs_nil)))))
      (dss_forL (xs := ePs ps) rfl PassesOwn.never (de_var 0 (pv 0) rfl) R1 (fun i => [.dat (.list (ePs ps)), .dat (.int (belowP ps i)), .dat (.int 1), .dat (.int 0), .dat (.int ((ps.getD i (2, start0)).1 : Nat)), .dat (eB (ps.getD i (2, start0)).2), .no, .no, .no]) (fun _ => {}) rfl rfl (fun i x hx => ?_) (fun i hi => ?_)
      (dss_eqR (ρ' := R2 0) ?_ (dss_forL (xs := ePs ps) rfl PassesOwn.never (de_var 0 (pv 0) rfl) R2 (fun i => [.dat (.list (ePs ps)), .dat (.int (belowL ps)), .dat (.int (gridP ps i).2), .dat (.int (gridP ps i).1), .dat (.int ((ps.getD i (2, start0)).1 : Nat)), .dat (eB (ps.getD i (2, start0)).2), .no, .no, .no]) (fun _ => {}) rfl rfl (fun i x hx => ?_) (fun i hi => ?_) ?_)))⟩
    · obtain ⟨hi, rfl⟩ := get_ps hx
      rw [List.getD_eq_getElem?_getD, List.getElem?_eq_getElem hi]
      exact dg_tup rfl (dgs_cons (dg_name (i := 4) sc_lgrid.nd rfl (.inl rfl)) (dgs_cons (dg_name (i := 5) sc_lgrid.nd rfl (.inl rfl)) dgs_nil))
    · have hi' : i < ps.length := by omega
      have hs := g.ok _ (List.getElem_mem hi')
      obtain ⟨b1, b2⟩ := belowP_ok g (i := i) (by omega)
      have hlB := least_B hs
      have h60 := hs.bb.n.lt hs.pr
      have es := belowP_succ hi'
      simp only [List.getD_eq_getElem?_getD, List.getElem?_eq_getElem hi', Option.getD_some]
      refine dss_cons (S1 := {}) (ds_set (i := 1) (d := .int (belowP ps (i + 1))) sc_lgrid.nd rfl (.inl rfl) (de_eq (de_mul (de_var 1 (pv 1) rfl) (de_eq (d := .int (leastL (ps[i]).1 (ps[i]).2)) (de_cb (call_max2 rfl) Bl.max (by decide +kernel) (da_cons (de_ixT (de_ixT (de_var 5 (pv 5) rfl) de_int rfl) de_int rfl) (da_cons (de_call Gr (hr.mono (by decide)) (da_cons (de_var 4 (pv 4) rfl) (da_cons (de_cb (call_max2 rfl) Bl.max (by decide +kernel) (da_cons de_int (da_cons (de_sub de_int (de_ixT (de_var 5 (pv 5) rfl) de_int rfl)) da_nil)) rc_max) da_nil)) (.mk _ _ (hs.pr.b7.mono (by decide)) (by omega))) da_nil)) rc_max) rfl) (mulWB b1 hlB (by omega))) (congrArg PyData.int es.symm))) (dss_drop 4 (dss_drop 5 (dss_nx dss_nil rfl)))
    · show R1 _ = R2 _
      simp only [R1, R2]
      rw [hp0, len, belowP_all]
    · obtain ⟨hi, rfl⟩ := get_ps hx
      rw [List.getD_eq_getElem?_getD, List.getElem?_eq_getElem hi]
      exact dg_tup rfl (dgs_cons (dg_name (i := 4) sc_lgrid.nd rfl (.inl rfl)) (dgs_cons (dg_name (i := 5) sc_lgrid.nd rfl (.inl rfl)) dgs_nil))
    · have hi' : i < ps.length := by omega
      have hs := g.ok _ (List.getElem_mem hi')
      obtain ⟨b1, b2⟩ := belowP_ok g (Nat.le_refl ps.length)
      rw [belowP_all] at b1 b2
      have hI := gridI g (Nat.le_of_lt hi')
      have hI2 := gridI g (show i + 1 ≤ ps.length by omega)
      have hcop := grid_cop g hi'
      have hlB := least_B hs
      have hhB := high_B hs
      have h60 := hs.bb.n.lt hs.pr
      have hpos : 0 < highL (ps[i]).1 (ps[i]).2 := by rw [high_pow hs]; exact ppow_pos hs.pr _
      have hdp : 0 < ((ps[i]).2.q.den : Int) := by have := (ps[i]).2.q.den_nz; omega
      have eS : gridP ps (i + 1) = gridStep (belowL ps) (gridP ps i) ps[i] := gridP_succ hi'
      have bA := hI.b
      have bF : B (120 * i + 1) (gridP ps i).1 := hI.b.le (by have := hI.f0; have := hI.f1; omega)
      have bq : B 3001 (belowL ps / ((ps[i]).2.q.den : Int)) := (b1.le (by
        have h1 : belowL ps / ((ps[i]).2.q.den : Int) ≤ belowL ps := Int.ediv_le_self _ (by omega)
        have h2 : 0 ≤ belowL ps / ((ps[i]).2.q.den : Int) := Int.ediv_nonneg (by omega) (by omega)
        omega)).mono (by omega)
      have bg : B 3122 ((ps[i]).2.q.num * (belowL ps / ((ps[i]).2.q.den : Int)) - (gridP ps i).1) := ((hs.bb.num.mul bq).sub (bF.mono (show 120 * i + 1 ≤ 60 + 60 + 3001 by omega))).mono (by omega)
      have bi := invF_bnd hpos hhB hcop
      have hr0 := Int.emod_nonneg (((ps[i]).2.q.num * (belowL ps / ((ps[i]).2.q.den : Int)) - (gridP ps i).1) * invF (gridP ps i).2 (highL (ps[i]).1 (ps[i]).2)) (show highL (ps[i]).1 (ps[i]).2 ≠ 0 by omega)
      have hr1 := Int.emod_lt_of_pos (((ps[i]).2.q.num * (belowL ps / ((ps[i]).2.q.den : Int)) - (gridP ps i).1) * invF (gridP ps i).2 (highL (ps[i]).1 (ps[i]).2)) hpos
      simp only [List.getD_eq_getElem?_getD, List.getElem?_eq_getElem hi', Option.getD_some]
      refine (dss_cons (S1 := {}) (ds_set (i := 6) (d := .int (leastL (ps[i]).1 (ps[i]).2)) sc_lgrid.nd rfl (.inl rfl) (de_eq (de_cb (call_max2 rfl) Bl.max (by decide +kernel) (da_cons (de_ixT (de_ixT (de_var 5 (pv 5) rfl) de_int rfl) de_int rfl) (da_cons (de_call Gr (hr.mono (by decide)) (da_cons (de_var 4 (pv 4) rfl) (da_cons (de_cb (call_max2 rfl) Bl.max (by decide +kernel) (da_cons de_int (da_cons (de_sub de_int (de_ixT (de_var 5 (pv 5) rfl) de_int rfl)) da_nil)) rc_max) da_nil)) (.mk _ _ (hs.pr.b7.mono (by decide)) (by omega))) da_nil)) rc_max) rfl))
 (dss_cons (S1 := {}) (ds_set (i := 7) (d := .int (highL (ps[i]).1 (ps[i]).2)) sc_lgrid.nd rfl (.inl rfl) (de_ixT (ds := [.int (highL (ps[i]).1 (ps[i]).2), .int (((((ps[i]).1 : Rat) ^ (ps[i]).2.n * (leastL (ps[i]).1 (ps[i]).2 : Rat)).den : Nat) : Int)]) (de_call Gt hr (da_cons (de_call Gw (hr.mono (by decide)) (da_cons (de_var 4 (pv 4) rfl) (da_cons (de_ixT (de_var 5 (pv 5) rfl) de_int rfl) da_nil)) (.mk _ _ hs.pr (by omega))) (da_cons (de_tup (da_cons (de_var 6 (pv 6) rfl) (da_cons de_int da_nil)) (by show 2 ≤ 100000; decide)) da_nil)) (R_times.mk (((ps[i]).1 : Rat) ^ (ps[i]).2.n) (leastL (ps[i]).1 (ps[i]).2 : Rat) (hs.bb.n.HR hs.pr (by decide)) (HR_int hlB) (by decide))) de_int rfl))
 (dss_cons (S1 := {}) (ds_set (i := 8) (d := .int ((ps[i]).2.q.num * (belowL ps / ((ps[i]).2.q.den : Int)) - (gridP ps i).1)) sc_lgrid.nd rfl (.inl rfl) (de_sub (de_mul (de_ixT (de_ixT (de_var 5 (pv 5) rfl) de_int rfl) de_int rfl) (de_eq (de_fdiv (de_var 1 (pv 1) rfl) (de_ixT (de_ixT (de_var 5 (pv 5) rfl) de_int rfl) de_int rfl) (by omega) (hs.bb.den.lg (by decide) (by decide))) (congrArg PyData.int (fdiv_pos hdp))) (mulWB hs.bb.num bq (by decide))) (de_var 3 (pv 3) rfl)))
 (dss_cons (S1 := {}) (ds_set (i := 3) (d := .int (gridP ps (i + 1)).1) sc_lgrid.nd rfl (.inl rfl) (de_eq (de_add (de_var 3 (pv 3) rfl) (de_mul (de_var 2 (pv 2) rfl) (de_eq (de_mod (de_ct call_int1 Bl.int (by decide +kernel) (da_cons (de_mul (de_var 8 (pv 8) rfl) (de_call Gi (hr.mono (by decide)) (da_cons (de_var 2 (pv 2) rfl) (da_cons (de_var 7 (pv 7) rfl) da_nil)) (.mk _ _ hpos (hhB.mono (by decide)) hcop)) (mulWB bg bi (by decide))) da_nil) rc_int) (de_var 7 (pv 7) rfl) (by omega)) (congrArg PyData.int (fmod_pos hpos))) (mulWB bA (hhB.le (by omega)) (by omega)))) (by rw [eS]; rfl)))
 (dss_cons (S1 := {}) (ds_set (i := 2) (d := .int (gridP ps (i + 1)).2) sc_lgrid.nd rfl (.inl rfl) (de_eq (de_mul (de_var 2 (pv 2) rfl) (de_var 7 (pv 7) rfl) (mulWB bA hhB (by omega))) (by rw [eS]; rfl)))
   (dss_drop 4 (dss_drop 5 (dss_drop 6 (dss_drop 7 (dss_drop 8 (dss_nx dss_nil rfl)))))))))))
    · obtain ⟨r1, r2⟩ := rawG_ok g
      rw [gridL_eq]
      refine dss_one (ds_ret (de_call Gm (hr.mono (by decide)) (da_cons (de_var 2 (pv 2) rfl) (da_cons (de_var 3 (pv 3) rfl) (da_cons de_int (da_cons (de_var 1 (pv 1) rfl) da_nil)))) ?_))
      rw [len]
      exact R_lmove.mk (rawG ps) r1 (by decide) (first_ne r2)
theorem sc_lwhole : FnScope ["_law_moves", "_law_pairs", "_law_p", "_law_spot"] ["_law_moves"] (defScope (top 90)) := ⟨rfl, rfl, rfl, by decide +kernel, rfl, by decide +kernel, by decide +kernel⟩
noncomputable def prP (ms : List M4) (i : Nat) : List (Nat × Bq) := ((badL ms).take i).map fun p => (p, spotOf ms p)
theorem nearD_some {ms : List M4} {p : Nat} (h : (nearL p ms).isSome = true) : nearL p ms = some (spotOf ms p) ∧ nearD p ms = eB (spotOf ms p) := by
  obtain ⟨s, hs⟩ := Option.isSome_iff_exists.mp h
  have e : spotOf ms p = s := by unfold spotOf; rw [hs]; rfl
  rw [e]
  exact ⟨hs, by unfold nearD; rw [hs]⟩
theorem prP_succ {ms : List M4} {i : Nat} (h : i < (badL ms).length) : prP ms (i + 1) = prP ms i ++ [((badL ms)[i], spotOf ms (badL ms)[i])] := by
  unfold prP; rw [List.take_succ_eq_append_getElem h, List.map_append]; rfl
theorem ok_lwhole (h : Has K mg "_law_whole" (top 90)) (Gb : Good P w K mg base 2 "_law_bad_primes" ["_law_moves"] (spF K R_lbad)) (Gn : Good P w K mg base 6 "_law_nearest_common" ["_law_p", "_law_moves"] (spF K R_lnear)) (Gr : Good P w K mg base 4 "_law_barring" ["_law_p", "_law_moves"] (spF K R_lbarring)) (Gg : Good P w K mg base 4 "_law_grid_of" ["_law_pairs"] (spF K R_lgrid)) : Good P w K mg base 7 "_law_whole" ["_law_moves"] (spF K R_lwhole) := by
  obtain ⟨f, fd, F, hm⟩ := h.ex
  refine good_F (k := 6) F hm sc_lwhole (F.bindsN fun _ _ _ _ _ _ us hl => match us, hl with | [_], _ => rfl) (fun ds d h => by cases h <;> rfl) fun cdv A outer s H E ds d hr h => ?_
  cases h with
  | mk ms hm hl hs =>
    have lb : (badL ms).length ≤ 25 := List.length_filter_le _ _
    have len : (eNs (badL ms)).length = (badL ms).length := by simp
    let R : Nat → Rho := fun i => [.dat (.list (eMs ms)), .own, .no, .no]
    let T : Nat → Rho := fun i => [.dat (.list (eMs ms)), .own, .dat (.int ((badL ms).getD i 2 : Nat)), .no]
    let M : Nat → MS := fun i => { own := some (ePs (prP ms i)) }
    have hg : ∀ i x, (eNs (badL ms))[i]? = some x → DG (cxOf CX0 P w K mg base ["_law_moves", "_law_pairs", "_law_p", "_law_spot"] "_law_whole" (defScope (top 90)) f cdv A outer s H E).nox (match (defBody (top 90)).getD 1 (.Pass ⟨0, 0, 0, 0⟩) with
        | .For tg _ _ _ _ => tg
        | _ => .Name "" ⟨0, 0, 0, 0⟩) (R i) x (T i) := fun i x hx => by
      obtain ⟨hi, rfl⟩ := getNs hx
      have eD : (badL ms).getD i 2 = (badL ms)[i] := by rw [List.getD_eq_getElem?_getD, List.getElem?_eq_getElem hi]; rfl
      simp only [T]
      rw [eD]
      exact dg_name (i := 2) sc_lwhole.nd rfl (.inl rfl)
    have hmem : ∀ i, (h : i < (badL ms).length) → IsP (badL ms)[i] := fun i h => badL_isP (List.getElem_mem h)
    have hyes : ∀ i, (hi : i < (badL ms).length) → (nearL (badL ms)[i] ms).isSome = true → DSs (cxOf CX0 P w K mg base ["_law_moves", "_law_pairs", "_law_p", "_law_spot"] "_law_whole" (defScope (top 90)) f cdv A outer s H E).nox (T i) (M i) (match (defBody (top 90)).getD 1 (.Pass ⟨0, 0, 0, 0⟩) with
        | .For _ _ b _ _ => b
        | _ => []) (.nx (R (i + 1)) (M (i + 1))) := fun i hi hk => by
      obtain ⟨n1, n2⟩ := nearD_some hk
      have e1 : M (i + 1) = { own := some (ePs (prP ms i) ++ [eP ((badL ms)[i], spotOf ms (badL ms)[i])]) } := by
        show ({ own := some (ePs (prP ms (i + 1))) } : MS) = _
        rw [prP_succ hi, ePs, List.map_append]; rfl
      have lp : (ePs (prP ms i)).length < 100000 := by
        simp only [ePs, prP, List.length_map, List.length_take]; omega
      rw [e1]
      simp only [T, List.getD_eq_getElem?_getD, List.getElem?_eq_getElem hi, Option.getD_some]
      exact dss_cons (S1 := M i) (ds_set (i := 3) (d := eB (spotOf ms (badL ms)[i])) sc_lwhole.nd rfl (.inl rfl) (de_eq (de_call Gn hr (da_cons (de_var 2 (pv 2) rfl) (da_cons (de_var 0 (pv 0) rfl) da_nil)) (.mk _ ms (hmem i hi) hm hl)) n2))
       (dss_cons (S1 := M i) (ds_if (x := false) (dt_cmp op_isN (de_var 3 (pv 3) rfl) de_non rv_isN (nomark _)) (fun z => by cases z) (fun _ => dss_nil))
       (dss_cons (ds_app (i := 1) rfl (pv 1) rfl (de_tup (da_cons (de_var 2 (pv 2) rfl) (da_cons (de_var 3 (pv 3) rfl) da_nil)) (by show 2 ≤ 100000; decide)) lp) (dss_drop 2 (dss_drop 3 (dss_nx dss_nil rfl)))))
    have hno : ∀ i, (hi : i < (badL ms).length) → nearL (badL ms)[i] ms = none → DSs (cxOf CX0 P w K mg base ["_law_moves", "_law_pairs", "_law_p", "_law_spot"] "_law_whole" (defScope (top 90)) f cdv A outer s H E).nox (T i) (M i) (match (defBody (top 90)).getD 1 (.Pass ⟨0, 0, 0, 0⟩) with
        | .For _ _ b _ _ => b
        | _ => []) (.rt (.tuple [.str "bars", .int ((badL ms)[i] : Nat), wdD (barL (badL ms)[i] ms)]) (M i)) := fun i hi hk => by
      have n2 : nearD (badL ms)[i] ms = .none := by unfold nearD; rw [hk]
      simp only [T, List.getD_eq_getElem?_getD, List.getElem?_eq_getElem hi, Option.getD_some]
      exact dss_cons (S1 := M i) (ds_set (i := 3) (d := .none) sc_lwhole.nd rfl (.inl rfl) (de_eq (de_call Gn hr (da_cons (de_var 2 (pv 2) rfl) (da_cons (de_var 0 (pv 0) rfl) da_nil)) (.mk _ ms (hmem i hi) hm hl)) n2))
       (dss_rt (ds_if (x := true) (dt_cmp op_isN (de_var 3 (pv 3) rfl) de_non rv_isN (nomark _)) (fun _ => dss_one (ds_ret (de_tup (da_cons de_str (da_cons (de_var 2 (pv 2) rfl) (da_cons (de_call Gr (hr.mono (by decide)) (da_cons (de_var 2 (pv 2) rfl) (da_cons (de_var 0 (pv 0) rfl) da_nil)) (.mk _ ms (hmem i hi) hm hl)) da_nil))) (by show 3 ≤ 100000; decide)))) (fun z => by cases z)))
    have start : ∀ {o : Out}, DSs (cxOf CX0 P w K mg base ["_law_moves", "_law_pairs", "_law_p", "_law_spot"] "_law_whole" (defScope (top 90)) f cdv A outer s H E).nox (R 0) (M 0) ((defBody (top 90)).drop 1) o → DSs (cxOf CX0 P w K mg base ["_law_moves", "_law_pairs", "_law_p", "_law_spot"] "_law_whole" (defScope (top 90)) f cdv A outer s H E).nox [.dat (.list (eMs ms)), .no, .no, .no] {} (defBody (top 90)) o := fun {o} hk =>
      dss_own (i := 1) (ds := []) sc_lwhole.nd rfl (.inl rfl) da_nil (by show 0 ≤ 100000; decide) rfl rfl hk
    cases hf : (List.range (badL ms).length).find? (fun i => !(nearL ((badL ms).getD i 2) ms).isSome) with
    | none =>
      have hall := List.find?_range_eq_none.mp hf
      have hsome : ∀ i, (h : i < (badL ms).length) → (nearL (badL ms)[i] ms).isSome = true := fun i h => by
        have := hall i h
        rw [List.getD_eq_getElem?_getD, List.getElem?_eq_getElem h] at this
        simpa using this
      have e : wholeL ms = .whole (gridL (prP ms (badL ms).length)) := by
        unfold wholeL
        rw [wholeGo_all ms _ _ (fun p hp => by obtain ⟨i, hi, rfl⟩ := List.mem_iff_getElem.mp hp; exact hsome i hi), List.nil_append]
        unfold prP; rw [List.take_length]
      rw [e]
      have gok : GridOk (prP ms (badL ms).length) := by
        refine ⟨fun x hx => ?_, ?_, ?_⟩
        · obtain ⟨p, hp, rfl⟩ := List.mem_map.mp hx
          rw [List.take_length] at hp
          obtain ⟨i, hi, rfl⟩ := List.mem_iff_getElem.mp hp
          exact hs _ hp _ (nearD_some (hsome i hi)).1
        · unfold prP
          rw [List.map_map, List.take_length]
          have : ((fun x : Nat × Bq => x.1) ∘ fun p => (p, spotOf ms p)) = id := rfl
          rw [this, List.map_id]
          exact P97_nodup.filter _
        · unfold prP; rw [List.length_map, List.take_length]; exact lb
      refine ⟨_, start (dss_forL (xs := eNs (badL ms)) rfl PassesOwn.never (de_call Gb (hr.mono (by decide)) (da_cons (de_var 0 (pv 0) rfl) da_nil) (.mk ms hm (by decide))) R T M rfl rfl hg (fun i hi => hyes i (by omega) (hsome i (by omega))) (dss_frz (i := 1) rfl rfl rfl (dss_one (ds_ret (de_tup (da_cons de_str (da_cons (de_call Gg (hr.mono (by decide)) (da_cons (de_var 1 (pv 1) rfl) da_nil) ?_) da_nil)) (by show 2 ≤ 100000; decide))))))⟩
      rw [len]
      exact .mk _ gok
    | some k =>
      obtain ⟨g1, g2, g3⟩ := List.find?_range_eq_some.mp hf
      have hk : k < (badL ms).length := by simpa using g2
      have hnone : nearL (badL ms)[k] ms = none := by
        rw [List.getD_eq_getElem?_getD, List.getElem?_eq_getElem hk] at g1
        simpa using g1
      have hsome : ∀ i, (h : i < k) → (nearL ((badL ms)[i]'(by omega)) ms).isSome = true := fun i h => by
        have := g3 i h
        rw [List.getD_eq_getElem?_getD, List.getElem?_eq_getElem (by omega)] at this
        simpa using this
      have e : wholeL ms = .bars (badL ms)[k] (barL (badL ms)[k] ms) := by
        unfold wholeL
        have sp : badL ms = (badL ms).take k ++ (badL ms)[k] :: (badL ms).drop (k + 1) := by
          rw [← List.drop_eq_getElem_cons hk, List.take_append_drop]
        conv => lhs; rw [sp]
        refine wholeGo_at ms _ _ _ _ (fun q hq => ?_) hnone
        obtain ⟨i, hi, rfl⟩ := List.mem_iff_getElem.mp hq
        rw [List.getElem_take]
        exact hsome i (by rw [List.length_take] at hi; omega)
      rw [e]
      exact ⟨_, start (dss_rt (ds_forLs (xs := eNs (badL ms)) k rfl PassesOwn.never (de_call Gb (hr.mono (by decide)) (da_cons (de_var 0 (pv 0) rfl) da_nil) (.mk ms hm (by decide))) R T M rfl rfl (by omega) hg (fun i hi => hyes i (by omega) (hsome i hi)) (hno k hk hnone)))⟩
end
end Bm
namespace Bm
open PySem PySem.Spec PyProof.Rows L2 G
/-- as the law judges -/
def judgeL (ms : List M4) : PyData → PyData
  | .tuple [x, y] => if (PyData.eqv x (.str "whole") && isMoveD y) = true then (match badAt (moveOf y) ms with
      | some k => .tuple [.str "move", .int (k : Nat)]
      | none => .none) else .tuple [.str "form"]
  | .tuple [x, y, z] => if (PyData.eqv x (.str "bars") && (isPrimeD y && isWordD ms.length z)) = true then (if keepsL (primeOf y) (wordM ms (wordOf z)) = true then .tuple [.str "keeps"] else .none) else .tuple [.str "form"]
  | _ => .tuple [.str "form"]
theorem judgeL_other {ms : List M4} : ∀ {ds : List PyData}, ¬ (ds.length = 2 ∨ ds.length = 3) → judgeL ms (.tuple ds) = .tuple [.str "form"]
  | [], _ => rfl
  | [_], _ => rfl
  | [_, _], h => absurd (.inl rfl) h
  | [_, _, _], h => absurd (.inr rfl) h
  | _ :: _ :: _ :: _ :: _, _ => rfl
theorem judgeL_two {ms : List M4} {x y : PyData} : judgeL ms (.tuple [x, y]) = if (PyData.eqv x (.str "whole") && isMoveD y) = true then (match badAt (moveOf y) ms with
      | some k => .tuple [.str "move", .int (k : Nat)]
      | none => .none) else .tuple [.str "form"] := rfl
theorem judgeL_three {ms : List M4} {x y z : PyData} : judgeL ms (.tuple [x, y, z]) = if (PyData.eqv x (.str "bars") && (isPrimeD y && isWordD ms.length z)) = true then (if keepsL (primeOf y) (wordM ms (wordOf z)) = true then .tuple [.str "keeps"] else .none) else .tuple [.str "form"] := rfl
theorem eqv_notStr {x : PyData} (h : isStrN x = false) (s : Str) : PyData.eqv x (.str s) = false := by
  cases x <;> first | rfl | cases h
inductive R_ljudged : List PyData → PyData → Prop
  | mk (v : PyData) (ms : List M4) (h : JOk ms v) : R_ljudged [.list (eMs ms), v] (judgeL ms v)
theorem eqv_nil (ds : List PyData) : PyData.eqv (.list ds) (.list []) = decide (ds.length = 0) := by
  cases ds <;> rfl
theorem eqv_intL (L : List Nat) (n : Int) : PyData.eqv (.list (eNs L)) (.list [.int n]) = decide (L.map (fun (p : Nat) => (p : Int)) = [n]) := by
  match L with
  | [] => rfl
  | [p] =>
    show (decide ((p : Int) = n) && true) = decide ([(p : Int)] = [n])
    rw [Bool.and_true]
    exact decide_eq_decide.mpr ⟨fun h => by rw [h], fun h => by injection h⟩
  | p :: q :: r =>
    show (decide ((p : Int) = n) && false) = decide (((p : Int) :: (q : Int) :: r.map _) = [n])
    rw [Bool.and_false]
    exact (decide_eq_false (by simp)).symm
theorem primes_self : ∀ n : Nat, n < 98 → 2 ≤ n → decide ((primesL (n : Int)).map (fun (p : Nat) => (p : Int)) = [(n : Int)]) = decide ((n : Int) ∈ P97.map fun (p : Nat) => (p : Int)) := by decide +kernel
theorem wrong_outs (q : Nat → Bool) (n : Nat) : outs q (fun k => .int (0 + (k : Int))) n = ((List.range n).filter q).map fun (k : Nat) => .int (k : Int) := by
  unfold outs
  exact List.map_congr_left fun i _ => by rw [Int.zero_add]
section
variable {P : Program} {w : World} {K : PySem.W.Frag} {mg : Str → Option Value} {base : Heap}
theorem sc_lis_number : FnScope ["_law_value"] ["_law_value"] (defScope (top 94)) := ⟨rfl, rfl, rfl, by decide +kernel, rfl, by decide +kernel, by decide +kernel⟩
theorem ok_lis_number (Bl : Bl mg) (h : Has K mg "_law_is_number" (top 94)) : Good P w K mg base 1 "_law_is_number" ["_law_value"] (spF K R_is_number) := by
  obtain ⟨f, fd, F, hm⟩ := h.ex
  refine good_F (k := 0) F hm sc_lis_number (F.bindsN fun _ _ _ _ _ _ us hl => match us, hl with | [_], _ => rfl) (fun ds d h => by cases h; rfl) fun cdv A outer s H E ds d hr h => ?_
  cases h with
  | mk d =>
    refine ⟨{}, ?_⟩
    rw [← isNum_eq]
    exact (dss_one (ds_ret (de_and (de_isi (de_var 0 (pv 0) rfl) (kit_int _) Bl.isinstance Bl.int (by decide +kernel)) fun hx => (de_one (de_not (de_isi (de_var 0 (pv 0) rfl) (kit_bool _) Bl.isinstance Bl.bool (by decide +kernel)))))))
theorem sc_lis_move : FnScope ["_law_value", "_law_n"] ["_law_value"] (defScope (top 95)) := ⟨rfl, rfl, rfl, by decide +kernel, rfl, by decide +kernel, by decide +kernel⟩
theorem ok_lis_move (Bl : Bl mg) (h : Has K mg "_law_is_move" (top 95)) (Gn : Good P w K mg base 1 "_law_is_number" ["_law_value"] (spF K R_is_number)) (Gs : Good P w K mg base 1 "_law_size" ["_law_m"] (spF K R_size)) (Gm : Good P w K mg base 2 "_law_move" ["_law_a", "_law_b", "_law_c", "_law_d"] (spF K R_lmove)) : Good P w K mg base 3 "_law_is_move" ["_law_value"] (spF K R_is_move) := by
  obtain ⟨f, fd, F, hm⟩ := h.ex
  refine good_F (k := 2) F hm sc_lis_move (F.bindsN fun _ _ _ _ _ _ us hl => match us, hl with | [_], _ => rfl) (fun ds d h => by cases h <;> rfl) fun cdv A outer s H E ds d hr h => ?_
  cases h with
  | mk d hl hb =>
    refine ⟨{}, ?_⟩
    by_cases ht : isTupN d = true
    · obtain ⟨ds, rfl⟩ : ∃ ds, d = .tuple ds := by cases d <;> first | exact ⟨_, rfl⟩ | cases ht
      have hl' := hl _ rfl
      refine dss_ifr (x := !isRow (.tuple ds) 4) (dt_eq (dt_w (dw_or (dt_not (dt_val (de_isi (de_var 0 (pv 0) rfl) (kit_tup _) Bl.isinstance Bl.tuple (by decide +kernel)))) fun hx => (dw_or (dt_cmp op_ne (de_cb call_len_seq Bl.len (by decide +kernel) (da_cons (de_var 0 (pv 0) rfl) da_nil) (rc_len (.inr rfl))) de_int rv_neI (nomark _)) fun hx => (dw_or1 (dt_not (dt_val (de_cb (cr_all rfl) Bl.all (by decide +kernel) (da_cons (de_eq (de_lcT0 (v := fun i => .bool (isNum (ds.getD i .none))) rfl sc_lis_move.nd (de_var 0 (pv 0) rfl) (blkOk_by (N := ["_law_value", "_law_n"]) (sc := defScope (top 95)) (by decide +kernel)) (fun _ _ _ _ _ => pg_name (i := 1) sc_lis_move.nd rfl (.inl rfl)) rfl hl'
          (fun i hi _ _ _ _ _ => (de_call Gn (hr.mono (by decide)) (da_cons (de_var 1 (pv 1) rfl) da_nil) (.mk _)))) (congrArg PyData.list (outs_bool _ _))) da_nil) rc_all))))))) ?_) (fun hx => ?_) (fun hx => ?_)
      · rw [outs_all]
        show (!true || ((!decide ((ds.length : Int) = 4)) || !ds.all isNum)) = !(decide (ds.length = 4) && ds.all isNum)
        rw [Bool.not_and, Bool.not_true, Bool.false_or]
        congr 2
        exact decide_eq_decide.mpr ⟨fun z => by omega, fun z => by omega⟩
      · refine dss_one (ds_ret (de_eq de_bl ?_))
        rw [isMove_row (by simpa using hx)]
      · obtain ⟨m, e⟩ := row4 (d := .tuple ds) (by simpa using hx)
        cases e
        have mb := hb m rfl
        refine dss_one (ds_ret (de_eq (de_and (y := decide (formM m = m)) (de_cmp op_ne (de_call Gs (hr.mono (by decide)) (da_cons (de_var 0 (pv 0) rfl) da_nil) (.mk m mb (by decide))) de_int rv_neI (nomark _)) fun hx => (de_one (de_eq (de_cmp (op_eqD hr.units) (de_call Gm hr (da_cons (de_ixT (de_var 0 (pv 0) rfl) de_int rfl) (da_cons (de_ixT (de_var 0 (pv 0) rfl) de_int rfl) (da_cons (de_ixT (de_var 0 (pv 0) rfl) de_int rfl) (da_cons (de_ixT (de_var 0 (pv 0) rfl) de_int rfl) da_nil)))) (.mk m mb (by decide) (first_ne (by simpa using hx)))) (de_var 0 (pv 0) rfl) (rv_eqD (shaped_eM _) (shaped_eM _)) (nomark _)) (by rw [eqv_eM])))) ?_))
        rw [isMoveD_eM]
        congr 2
        by_cases z : sizeM m = 0 <;> simp [z]
    · have hf : isTupN d = false := by simpa using ht
      have hm2 : isMoveD d = false := by cases d <;> first | rfl | exact absurd rfl ht
      refine dss_ifr (x := true) (dt_eq (dt_w (dw_or (y := true) (dt_not (dt_val (de_isi (de_var 0 (pv 0) rfl) (kit_tup _) Bl.isinstance Bl.tuple (by decide +kernel)))) fun hx => by rw [hf] at hx; cases hx)) (by rw [hf]; rfl)) (fun hx => dss_one (ds_ret (de_eq de_bl (by rw [hm2])))) (fun hx => by cases hx)
theorem sc_lis_word : FnScope ["_law_value", "_law_many", "_law_letter", "_law_n"] ["_law_value", "_law_many"] (defScope (top 96)) := ⟨rfl, rfl, rfl, by decide +kernel, rfl, by decide +kernel, by decide +kernel⟩
theorem ok_lis_word (Bl : Bl mg) (h : Has K mg "_law_is_word" (top 96)) (Gn : Good P w K mg base 1 "_law_is_number" ["_law_value"] (spF K R_is_number)) : Good P w K mg base 2 "_law_is_word" ["_law_value", "_law_many"] (spF K R_is_word) := by
  obtain ⟨f, fd, F, hm⟩ := h.ex
  refine good_F (k := 1) F hm sc_lis_word (F.bindsN fun _ _ _ _ _ _ us hl => match us, hl with | [_, _], _ => rfl) (fun ds d h => by cases h <;> rfl) fun cdv A outer s H E ds d hr h => ?_
  cases h with
  | mk d n hl =>
    refine ⟨{}, ?_⟩
    by_cases ht : isTupN d = true
    · obtain ⟨ds, rfl⟩ : ∃ ds, d = .tuple ds := by cases d <;> first | exact ⟨_, rfl⟩ | cases ht
      have hsm : ∀ i, i < ds.length → Sm1 (ds.getD i .none) := fun i hi => hl.2 _ rfl _ (by rw [List.getD_eq_getElem?_getD, List.getElem?_eq_getElem hi]; exact List.getElem_mem _)
      let R : Nat → Rho := fun i => [.dat (.tuple ds), .dat (.int n), .no, .no]
      let T : Nat → Rho := fun i => [.dat (.tuple ds), .dat (.int n), .dat (ds.getD i .none), .no]
      have hg : ∀ i x, ds[i]? = some x → DG (cxOf CX0 P w K mg base ["_law_value", "_law_many", "_law_letter", "_law_n"] "_law_is_word" (defScope (top 96)) f cdv A outer s H E).nox (match (defBody (top 96)).getD 1 (.Pass ⟨0, 0, 0, 0⟩) with
          | .For tg _ _ _ _ => tg
          | _ => .Name "" ⟨0, 0, 0, 0⟩) (R i) x (T i) := fun i x hx => by
        rw [← getD_of hx]
        exact dg_name (i := 2) sc_lis_word.nd rfl (.inl rfl)
      have start : ∀ {o : Out}, DSs (cxOf CX0 P w K mg base ["_law_value", "_law_many", "_law_letter", "_law_n"] "_law_is_word" (defScope (top 96)) f cdv A outer s H E).nox (R 0) {} ((defBody (top 96)).drop 1) o → DSs (cxOf CX0 P w K mg base ["_law_value", "_law_many", "_law_letter", "_law_n"] "_law_is_word" (defScope (top 96)) f cdv A outer s H E).nox [.dat (.tuple ds), .dat (.int n), .no, .no] {} (defBody (top 96)) o := fun {o} k =>
        dss_cons (S1 := {}) (ds_if (x := false) (dt_eq (dt_not (dt_val (de_isi (de_var 0 (pv 0) rfl) (kit_tup _) Bl.isinstance Bl.tuple (by decide +kernel)))) rfl) (fun z => by cases z) (fun _ => dss_nil)) k
      have body : ∀ i, i < ds.length → DSs (cxOf CX0 P w K mg base ["_law_value", "_law_many", "_law_letter", "_law_n"] "_law_is_word" (defScope (top 96)) f cdv A outer s H E).nox (T i) {} (match (defBody (top 96)).getD 1 (.Pass ⟨0, 0, 0, 0⟩) with
          | .For _ _ b _ _ => b
          | _ => []) (if isLetD n (ds.getD i .none) = true then .nx (R (i + 1)) {} else .rt (.bool false) {}) := fun i hi => by
        have hs1 := hsm i hi
        simp only [T]
        generalize ds.getD i .none = e at *
        by_cases hte : isTupN e = true
        · obtain ⟨es, rfl⟩ : ∃ es, e = .tuple es := by cases e <;> first | exact ⟨_, rfl⟩ | cases hte
          have hl' := hs1 _ rfl
          have first : DT (cxOf CX0 P w K mg base ["_law_value", "_law_many", "_law_letter", "_law_n"] "_law_is_word" (defScope (top 96)) f cdv A outer s H E).nox [.dat (.tuple ds), .dat (.int n), .dat (.tuple es), .no] {} (match (defBody (top 96)).getD 1 (.Pass ⟨0, 0, 0, 0⟩) with
              | .For _ _ (.If c _ _ _ :: _) _ _ => c
              | _ => .Name "" ⟨0, 0, 0, 0⟩) (!isRow (.tuple es) 2) {} := by
            refine dt_eq (dt_w (dw_or (dt_not (dt_val (de_isi (de_var 2 (pv 2) rfl) (kit_tup _) Bl.isinstance Bl.tuple (by decide +kernel)))) fun hx => (dw_or (dt_cmp op_ne (de_cb call_len_seq Bl.len (by decide +kernel) (da_cons (de_var 2 (pv 2) rfl) da_nil) (rc_len (.inr rfl))) de_int rv_neI (nomark _)) fun hx => (dw_or1 (dt_not (dt_val (de_cb (cr_all rfl) Bl.all (by decide +kernel) (da_cons (de_eq (de_lcT0 (v := fun i => .bool (isNum (es.getD i .none))) rfl sc_lis_word.nd (de_var 2 (pv 2) rfl) (blkOk_by (N := ["_law_value", "_law_many", "_law_letter", "_law_n"]) (sc := defScope (top 96)) (by decide +kernel)) (fun _ _ _ _ _ => pg_name (i := 3) sc_lis_word.nd rfl (.inl rfl)) rfl hl'
              (fun i hi _ _ _ _ _ => (de_call Gn hr (da_cons (de_var 3 (pv 3) rfl) da_nil) (.mk _)))) (congrArg PyData.list (outs_bool _ _))) da_nil) rc_all))))))) ?_
            rw [outs_all]
            show (!true || ((!decide ((es.length : Int) = 2)) || !es.all isNum)) = !(decide (es.length = 2) && es.all isNum)
            rw [Bool.not_and, Bool.not_true, Bool.false_or]
            congr 2
            exact decide_eq_decide.mpr ⟨fun z => by omega, fun z => by omega⟩
          by_cases hrow : isRow (.tuple es) 2 = true
          · obtain ⟨⟨a, b⟩, e⟩ := letD_of (n := n) (d := .tuple es) hrow
            cases e
            have el : isLetD n (.tuple [.int a, .int b]) = ((decide ((0 : Int) ≤ a) && decide (a < (n : Int))) && decide (b ∈ ([1, -1] : List Int))) := rfl
            refine dss_cons (S1 := {}) (ds_if (x := false) (dt_eq first (by rw [hrow]; rfl)) (fun z => by cases z) (fun _ => dss_nil)) ?_
            have second := (dt_w (X := (cxOf CX0 P w K mg base ["_law_value", "_law_many", "_law_letter", "_law_n"] "_law_is_word" (defScope (top 96)) f cdv A outer s H E).nox) (ρ := [.dat (.tuple ds), .dat (.int n), .dat (.tuple [.int a, .int b]), .no]) (S := {}) (e := match (defBody (top 96)).getD 1 (.Pass ⟨0, 0, 0, 0⟩) with
              | .For _ _ [_, .If c _ _ _] _ _ => c
              | _ => .Name "" ⟨0, 0, 0, 0⟩) (dw_or (dt_not (dt_chain op_le op_lt de_int (de_ixT (de_var 2 (pv 2) rfl) de_int rfl) (de_var 1 (pv 1) rfl) rv_le (fun hx => rv_lt))) fun hx => (dw_or1 (dt_cmp op_notIn_seq (de_ixT (de_var 2 (pv 2) rfl) de_int rfl) (de_tup (da_cons de_int (da_cons (de_sub de_int de_int) da_nil)) (by show 2 ≤ 100000; decide)) (rv_notIn (ns := [1, -1]) (.inr rfl)) (by rfl)))))
            rw [← Bool.not_and, ← el] at second
            cases hlet : isLetD n (.tuple [.int a, .int b]) with
            | true =>
              rw [if_pos rfl]
              exact dss_cons (S1 := {}) (ds_if (x := false) (dt_eq second (by rw [hlet]; rfl)) (fun z => by cases z) (fun _ => dss_nil)) (dss_drop 2 (dss_nx dss_nil rfl))
            | false =>
              rw [if_neg Bool.false_ne_true]
              exact dss_one (ds_if (x := true) (dt_eq second (by rw [hlet]; rfl)) (fun _ => dss_one (ds_ret de_bl)) (fun z => by cases z))
          · have hrf : isRow (.tuple es) 2 = false := by simpa using hrow
            rw [isLet_row hrf, if_neg Bool.false_ne_true]
            exact dss_rt (ds_if (x := true) (dt_eq first (by rw [hrf]; rfl)) (fun _ => dss_one (ds_ret de_bl)) (fun z => by cases z))
        · have hf : isTupN e = false := by simpa using hte
          have hf2 : isLetD n e = false := by cases e <;> first | rfl | exact absurd rfl hte
          rw [hf2, if_neg Bool.false_ne_true]
          exact dss_rt (ds_if (x := true) (dt_eq (dt_w (dw_or (y := true) (dt_not (dt_val (de_isi (de_var 2 (pv 2) rfl) (kit_tup _) Bl.isinstance Bl.tuple (by decide +kernel)))) fun hx => by rw [hf] at hx; cases hx)) (by rw [hf]; rfl)) (fun _ => dss_one (ds_ret de_bl)) (fun z => by cases z))
      cases hfind : (List.range ds.length).find? (fun i => !isLetD n (ds.getD i .none)) with
      | some k =>
        obtain ⟨g1, g2, g3⟩ := List.find?_range_eq_some.mp hfind
        have hk : k < ds.length := by simpa using g2
        have e : isWordD n (.tuple ds) = false := by
          show ds.all (isLetD n) = false
          rw [← Bool.not_eq_true]
          intro z
          rw [List.all_eq_true] at z
          have := z (ds.getD k .none) (by rw [List.getD_eq_getElem?_getD, List.getElem?_eq_getElem hk]; exact List.getElem_mem _)
          rw [this] at g1; cases g1
        rw [e]
        refine start (dss_rt (ds_forTs (xs := ds) k rfl PassesOwn.never (de_var 0 (pv 0) rfl) R T (fun _ => {}) rfl rfl hk hg (fun i hi => ?_) ?_))
        · have := body i (by omega)
          rwa [if_pos (by simpa using g3 i hi)] at this
        · have := body k hk
          rwa [if_neg (by simpa using g1)] at this
      | none =>
        have hall := List.find?_range_eq_none.mp hfind
        have e : isWordD n (.tuple ds) = true := by
          show ds.all (isLetD n) = true
          rw [List.all_eq_true]
          intro x hx
          obtain ⟨i, hi, rfl⟩ := List.mem_iff_getElem.mp hx
          have := hall i hi
          rw [List.getD_eq_getElem?_getD, List.getElem?_eq_getElem hi] at this
          simpa using this
        rw [e]
        refine start (dss_forT (xs := ds) rfl PassesOwn.never (de_var 0 (pv 0) rfl) R T (fun _ => {}) rfl rfl hg (fun i hi => ?_) (dss_one (ds_ret de_bl)))
        have := body i hi
        rwa [if_pos (by simpa using hall i hi)] at this
    · have hf : isTupN d = false := by simpa using ht
      have hw : isWordD n d = false := by cases d <;> first | rfl | exact absurd rfl ht
      rw [hw]
      exact dss_rt (ds_if (x := true) (dt_eq (dt_not (dt_val (de_isi (de_var 0 (pv 0) rfl) (kit_tup _) Bl.isinstance Bl.tuple (by decide +kernel)))) (by rw [hf]; rfl)) (fun _ => dss_one (ds_ret de_bl)) (fun z => by cases z))
end
end Bm
namespace Bm
open PySem PySem.Spec PyProof.Rows L2 G
theorem eqv_str_of {x : PyData} {s : Str} (h : PyData.eqv x (.str s) = true) : isStrN x = true := by
  cases hx : isStrN x with
  | true => rfl
  | false => rw [eqv_notStr hx] at h; cases h
theorem ints_lay : ∀ L : List Nat, PyData.canLayAll0 (eNs L) = true ∧ PyData.depthAll (eNs L) = 0
  | [] => ⟨by rw [eNs, List.map_nil, PyData.canLayAll0], by rw [eNs, List.map_nil, PyData.depthAll]⟩
  | p :: L => by
    obtain ⟨h1, h2⟩ := ints_lay L
    rw [eNs, List.map_cons, PyData.canLayAll0, PyData.depthAll, PyData.canLay0, PyData.depth]
    exact ⟨by rw [Bool.true_and]; exact h1, by rw [show PyData.depthAll (L.map fun (p : Nat) => PyData.int (p : Int)) = 0 from h2]; rfl⟩
theorem shaped_ints (L : List Nat) : SeqAt.shaped (.list (eNs L)) = true := by
  unfold SeqAt.shaped
  rw [PyData.canLay0, PyData.depth, (ints_lay L).1, (ints_lay L).2]
  decide
theorem num_of {d : PyData} (h : isNum d = true) : ∃ i, d = .int i := int_of h
theorem isPrime_eq (i : Int) : ((decide (2 ≤ i) && decide (i < 98)) && decide ((primesL i).map (fun (p : Nat) => (p : Int)) = [i])) = isPrimeD (.int i) := by
  show _ = decide (i ∈ P97.map fun (p : Nat) => (p : Int))
  by_cases h : 2 ≤ i ∧ i < 98
  · obtain ⟨h1, h2⟩ := h
    obtain ⟨n, rfl⟩ : ∃ n : Nat, i = n := ⟨i.toNat, by omega⟩
    rw [decide_eq_true h1, decide_eq_true h2, Bool.true_and, Bool.true_and]
    exact primes_self n (by omega) (by omega)
  · have e1 : (decide (2 ≤ i) && decide (i < 98)) = false := by
      rw [← Bool.decide_and]; exact decide_eq_false h
    rw [e1, Bool.false_and]
    refine (decide_eq_false fun z => h ?_).symm
    obtain ⟨p, hp, rfl⟩ := List.mem_map.mp z
    have : ∀ q ∈ P97, 2 ≤ q ∧ q ≤ 97 := by decide
    have := this p hp
    omega
theorem ds_nxeq {X : Cx} {ρ ρ1 ρ2 : Rho} {S S1 : MS} {st : Stmt} (h : DS X ρ S st (.nx ρ1 S1)) (e : ρ1 = ρ2) : DS X ρ S st (.nx ρ2 S1) := e ▸ h
section
variable {P : Program} {w : World} {K : PySem.W.Frag} {mg : Str → Option Value} {base : Heap}
theorem sc_ljudged : FnScope ["_law_moves", "_law_value", "_law_wrong", "_law_k"] ["_law_moves", "_law_value"] (defScope (top 97)) := ⟨rfl, rfl, rfl, by decide +kernel, rfl, by decide +kernel, by decide +kernel⟩
theorem ok_ljudged (Bl : Bl mg) (h : Has K mg "_law_judged" (top 97)) (Gm : Good P w K mg base 3 "_law_is_move" ["_law_value"] (spF K R_is_move)) (Gt : Good P w K mg base 4 "_law_told_by" ["_law_t", "_law_m"] (spF K R_told)) (Gi : Good P w K mg base 2 "_law_is_whole" ["_law_m"] (spF K R_is_whole))
    (Gn : Good P w K mg base 1 "_law_is_number" ["_law_value"] (spF K R_is_number)) (Gp : Good P w K mg base 1 "_law_primes_of" ["_law_n"] (spF K R_lprimes)) (Gw : Good P w K mg base 2 "_law_is_word" ["_law_value", "_law_many"] (spF K R_is_word)) (Gk : Good P w K mg base 3 "_law_keeps_some" ["_law_p", "_law_m"] (spF K R_lkeeps)) (Gv : Good P w K mg base 4 "_law_word_move" ["_law_moves", "_law_word"] (spF K R_word_move)) :
    Good P w K mg base 5 "_law_judged" ["_law_moves", "_law_value"] (spF K R_ljudged) := by
  obtain ⟨f, fd, F, hm⟩ := h.ex
  refine good_F (k := 4) F hm sc_ljudged (F.bindsN fun _ _ _ _ _ _ us hl => match us, hl with | [_, _], _ => rfl) (fun ds d h => by cases h <;> rfl) fun cdv A outer s H E ds d hr h => ?_
  cases h with
  | mk v ms ok =>
    refine ⟨{}, ?_⟩
    have len : (eMs ms).length = ms.length := by simp
    by_cases ht : isTupN v = true
    · obtain ⟨ds, rfl⟩ : ∃ ds, v = .tuple ds := by cases v <;> first | exact ⟨_, rfl⟩ | cases ht
      by_cases hl : ds.length = 2 ∨ ds.length = 3
      · obtain ⟨x, r, rfl⟩ : ∃ x r, ds = x :: r := by
          cases ds with
          | nil => simp at hl
          | cons x r => exact ⟨x, r, rfl⟩
        have sx := ok.sh x r rfl
        have hinl : (((x :: r).length : Int) ∈ ([2, 3] : List Int)) := by
          have h2 : (((x :: r).length : Nat) : Int) = 2 ∨ (((x :: r).length : Nat) : Int) = 3 := by omega
          simpa using h2
        have first : DT (cxOf CX0 P w K mg base ["_law_moves", "_law_value", "_law_wrong", "_law_k"] "_law_judged" (defScope (top 97)) f cdv A outer s H E).nox [.dat (.list (eMs ms)), .dat (.tuple (x :: r)), .no, .no] {} (match (defBody (top 97)).getD 0 (.Pass ⟨0, 0, 0, 0⟩) with
            | .If c _ _ _ => c
            | _ => .Name "" ⟨0, 0, 0, 0⟩) (!isStrN x) {} := by
          refine dt_eq (dt_w (dw_or (dt_not (dt_val (de_isi (de_var 1 (pv 1) rfl) (kit_tup _) Bl.isinstance Bl.tuple (by decide +kernel)))) fun hx => (dw_or (dt_cmp op_notIn_seq (de_cb call_len_seq Bl.len (by decide +kernel) (da_cons (de_var 1 (pv 1) rfl) da_nil) (rc_len (.inr rfl))) (de_tup (da_cons de_int (da_cons de_int da_nil)) (by show 2 ≤ 100000; decide)) (rv_notIn (ns := [2, 3]) (.inr rfl)) (by rfl)) fun hx => (dw_or1 (dt_not (dt_val (de_isi (de_ixT (de_var 1 (pv 1) rfl) de_int (by show atI (x :: r) ((0 : Nat) : Int) = _; rw [atI_nat]; rfl)) (kit_str _) Bl.isinstance Bl.str (by decide +kernel)))))))) ?_
          rw [decide_eq_true hinl]; rfl
        by_cases hstr : isStrN x = true
        · refine dss_ifr (x := false) (dt_eq first (by rw [hstr]; rfl)) (fun hx => by cases hx) (fun _ => ?_)
          refine dss_ifr (dt_cmp op_eq (de_cb call_len_seq Bl.len (by decide +kernel) (da_cons (de_var 1 (pv 1) rfl) da_nil) (rc_len (.inr rfl))) de_int rv_eqI (nomark _)) (fun hx => ?_) (fun hx => ?_)
          · have hl2 : (x :: r).length = 2 := by have := of_decide_eq_true hx; omega
            obtain ⟨y, rfl⟩ : ∃ y, r = [y] := by
              match r, hl2 with
              | [y], _ => exact ⟨y, rfl⟩
            obtain ⟨y1, y2⟩ := ok.two x y rfl
            refine dss_ifr (x := !(PyData.eqv x (.str "whole") && isMoveD y)) (dt_eq (dt_w (dw_or (dt_cmp (op_neD hr.units) (de_ixT (de_var 1 (pv 1) rfl) de_int rfl) de_str (rv_neD sx (by decide +kernel)) (nomark _)) fun hx => (dw_or1 (dt_not (dt_val (de_call Gm (hr.mono (by decide)) (da_cons (de_ixT (de_var 1 (pv 1) rfl) de_int rfl) da_nil) (.mk y y1 fun m e => (y2 m e).mono (by decide)))))))) (by rw [Bool.not_and])) (fun hx => ?_) (fun hx => ?_)
            · have hc : (PyData.eqv x (.str "whole") && isMoveD y) = false := by rw [Bool.not_eq_true'] at hx; exact hx
              refine dss_one (ds_ret (de_eq (de_tup (da_cons de_str da_nil) (by show 1 ≤ 100000; decide)) ?_))
              rw [judgeL_two, hc]; rfl
            · have hc : (PyData.eqv x (.str "whole") && isMoveD y) = true := by rw [Bool.not_eq_false'] at hx; exact hx
              obtain ⟨hy, hs⟩ := move_of (Bool.and_eq_true_iff.mp hc).2
              generalize hmv : moveOf y = t at hy hs
              subst hy
              have ht := y2 t rfl
              have e : judgeL ms (.tuple [x, eM t]) = (match badAt t ms with
                  | some k => .tuple [.str "move", .int (k : Nat)]
                  | none => .none) := by rw [judgeL_two, if_pos hc]; rfl
              rw [e]
              let q : Nat → Bool := fun k => !wholeM (toldM t (ms.getD k idM))
              have hq : badAt t ms = ((List.range ms.length).filter q).head? := by unfold badAt; rw [List.head?_filter]
              generalize hW : (List.range ms.length).filter q = W at hq
              refine dss_cons (S1 := {}) (ρ1 := [.dat (.list (eMs ms)), .dat (.tuple [x, eM t]), .dat (.list (eNs W)), .no]) (ds_nxeq (ds_setLcR1 (i := 2) (j := 3) (m := (ms.length : Int)) (M := fun _ => {}) (t := q) (v := fun k => .int (0 + (k : Int))) rfl sc_ljudged.nd rfl rfl (sw_true rfl rfl rfl rfl) Bl.range (da_cons (de_cb call_len_seq Bl.len (by decide +kernel) (da_cons (de_var 0 (pv 0) rfl) da_nil) (rc_lenM (.inl rfl))) da_nil) (by have := ok.len; omega) (blkOk_by (N := ["_law_moves", "_law_value", "_law_wrong", "_law_k"]) (sc := defScope (top 97)) (by decide +kernel)) (fun _ _ _ _ _ => pg_name (i := 3) sc_ljudged.nd rfl (.inl rfl)) rfl
                (ts_any (M := fun _ => {}) (R := fun i => ([.dat (.list (eMs ms)), .dat (.tuple [x, eM t]), .no, .no] : Rho).set 3 (.dat (.int (0 + i)))) <|
                (fun i hi _ _ _ _ _ => by
                  have hi' : i < ms.length := by omega
                  obtain ⟨b1, s1⟩ := ok.mo.at (i := (i : Int)) (by omega) (by omega)
                  rw [Int.toNat_natCast] at b1 s1
                  exact dt_not (dt_val (de_call Gi (hr.mono (by decide)) (da_cons (de_call Gt hr (da_cons (de_ixT (de_var 1 (pv 1) rfl) de_int rfl) (da_cons (de_ixL (de_var 0 (pv 0) rfl) (de_var 3 (pv 3) rfl) (atI_eMs hi')) da_nil)) (.mk t _ ht b1 (by decide) hs s1)) da_nil) (.mk _ ((ht.back hs).after (b1.after ht s1 hs) (size_back_ne hs) (size_after_ne s1 hs)) (by decide)))))) tst_any (fun _ _ => Like.rfl') (fun _ _ _ => rfl)
                (fun i hi _ _ _ _ _ _ => de_var 3 (pv 3) rfl)) (by rw [Int.toNat_natCast, wrong_outs, hW]; rfl)) ?_
              refine dss_one (ds_ret (de_if (S1 := {}) (dt_cmp (op_neD hr.units) (de_var 2 (pv 2) rfl) (de_lst da_nil (by show 0 ≤ 100000; decide)) (rv_neD (shaped_ints W) (by decide +kernel)) (nomark _)) (fun hx => ?_) (fun hx => ?_)))
              · rw [eqv_nil] at hx
                cases W with
                | nil => simp at hx
                | cons k W =>
                  rw [hq]
                  exact (de_tup (da_cons de_str (da_cons (de_ixL (ds := eNs (k :: W)) (de_var 2 (pv 2) rfl) de_int (by show atI (eNs (k :: W)) ((0 : Nat) : Int) = _; rw [atI_nat]; rfl)) da_nil)) (by show 2 ≤ 100000; decide))
              · rw [eqv_nil] at hx
                cases W with
                | nil => rw [hq]; exact de_non
                | cons k W => simp at hx
          · have hl3 : (x :: r).length = 3 := by have := of_decide_eq_false hx; omega
            obtain ⟨y, z, rfl⟩ : ∃ y z, r = [y, z] := by
              match r, hl3 with
              | [y, z], _ => exact ⟨y, z, rfl⟩
            obtain ⟨z1, z2⟩ := ok.three x y z rfl
            by_cases hxb : PyData.eqv x (.str "bars") = true
            · by_cases hnum : isNum y = true
              · obtain ⟨i, rfl⟩ := num_of hnum
                refine dss_ifr (x := !(decide (2 ≤ i) && decide (i < 98))) (dt_eq (dt_w (dw_or (dt_cmp (op_neD hr.units) (de_ixT (de_var 1 (pv 1) rfl) de_int rfl) de_str (rv_neD sx (by decide +kernel)) (nomark _)) fun hx => (dw_or (dt_not (dt_val (de_call Gn (hr.mono (by decide)) (da_cons (de_ixT (de_var 1 (pv 1) rfl) de_int rfl) da_nil) (R_is_number.mk _)))) fun hx => (dw_or1 (dt_not (dt_chain op_le op_lt de_int (de_ixT (de_var 1 (pv 1) rfl) de_int rfl) de_int rv_le (fun hx => rv_lt))))))) (by rw [hxb]; rfl)) (fun hx => ?_) (fun hx => ?_)
                · have h0 : isPrimeD (.int i) = false := by
                    rw [← isPrime_eq]
                    rw [Bool.not_eq_true'] at hx
                    rw [hx]; rfl
                  refine dss_one (ds_ret (de_eq (de_tup (da_cons de_str da_nil) (by show 1 ≤ 100000; decide)) ?_))
                  rw [judgeL_three, h0, Bool.false_and, Bool.and_false]; rfl
                · rw [Bool.not_eq_false'] at hx
                  have h1 : decide ((primesL i).map (fun (p : Nat) => (p : Int)) = [i]) = isPrimeD (.int i) := by
                    rw [← isPrime_eq, hx]; rfl
                  have shp : SeqAt.shaped (.list [.int i]) = true := rfl
                  refine dss_ifr (x := !(isPrimeD (.int i) && isWordD ms.length z)) (dt_eq (dt_w (dw_or (dt_cmp (op_neD hr.units) (de_call Gp (hr.mono (by decide)) (da_cons (de_ixT (de_var 1 (pv 1) rfl) de_int rfl) da_nil) (.mk i)) (de_lst (da_cons (de_ixT (de_var 1 (pv 1) rfl) de_int rfl) da_nil) (by show 1 ≤ 100000; decide)) (rv_neD (shaped_ints _) shp) (nomark _)) fun hx => (dw_or1 (dt_not (dt_val (de_call Gw (hr.mono (by decide)) (da_cons (de_ixT (de_var 1 (pv 1) rfl) de_int rfl) (da_cons (de_cb call_len_seq Bl.len (by decide +kernel) (da_cons (de_var 0 (pv 0) rfl) da_nil) (rc_lenM (.inl rfl))) da_nil)) (.mk z ms.length z1))))))) (by rw [eqv_intL, h1, Bool.not_and])) (fun hx => ?_) (fun hx => ?_)
                  · have hc : (PyData.eqv x (.str "bars") && (isPrimeD (.int i) && isWordD ms.length z)) = false := by
                      rw [Bool.not_eq_true'] at hx
                      rw [hx, Bool.and_false]
                    refine dss_one (ds_ret (de_eq (de_tup (da_cons de_str da_nil) (by show 1 ≤ 100000; decide)) ?_))
                    rw [judgeL_three, hc]; rfl
                  · rw [Bool.not_eq_false'] at hx
                    have hc : (PyData.eqv x (.str "bars") && (isPrimeD (.int i) && isWordD ms.length z)) = true := by rw [hx, hxb]; rfl
                    obtain ⟨h1, h2⟩ := Bool.and_eq_true_iff.mp hx
                    obtain ⟨pp, py⟩ := prime_of h1
                    obtain ⟨we, wl⟩ := word_of h2
                    have wlen : (wordOf z).length ≤ 3 := by
                      cases z with
                      | tuple zs => rw [word_len]; exact z2 zs rfl
                      | _ => cases h2
                    have wb := wordP_ok ok.mo wl (Nat.le_refl _)
                    have wm : wordP ms (wordOf z) (wordOf z).length = wordM ms (wordOf z) := by unfold wordP; rw [List.take_length]
                    rw [wm] at wb
                    rw [judgeL_three, if_pos hc]
                    refine (dss_one (ds_ret (de_if (S1 := {}) (x := keepsL (primeOf (.int i)) (wordM ms (wordOf z))) (dt_val (de_call Gk (hr.mono (by decide)) (da_cons (de_eq (de_ixT (de_var 1 (pv 1) rfl) de_int rfl) py) (da_cons (de_call Gv hr (da_cons (de_var 0 (pv 0) rfl) (da_cons (de_eq (de_ixT (de_var 1 (pv 1) rfl) de_int rfl) we) da_nil)) (.mk _ ms (wordOf z) (.inl rfl) ⟨fun m hm => (ok.mo.b m hm).mono (by decide), ok.mo.s⟩ ok.len wl (by omega))) da_nil)) (.mk _ _ pp wb.1 wb.2 (by omega)))) (fun hx => ?_) (fun hx => ?_))))
                    · rw [if_pos hx]; exact (de_tup (da_cons de_str da_nil) (by show 1 ≤ 100000; decide))
                    · rw [hx]; exact de_non
              · have hf : isNum y = false := by simpa using hnum
                have hpf : isPrimeD y = false := by cases y <;> first | rfl | exact absurd rfl hnum
                refine dss_ifr (x := true) (dt_eq (dt_w (dw_or (dt_cmp (op_neD hr.units) (de_ixT (de_var 1 (pv 1) rfl) de_int rfl) de_str (rv_neD sx (by decide +kernel)) (nomark _)) fun hx => (dw_or (y := true) (dt_not (dt_val (de_call Gn (hr.mono (by decide)) (da_cons (de_ixT (de_var 1 (pv 1) rfl) de_int rfl) da_nil) (R_is_number.mk _)))) fun hx => by rw [hf] at hx; cases hx))) (by rw [hxb, hf]; rfl)) (fun hx => dss_one (ds_ret (de_eq (de_tup (da_cons de_str da_nil) (by show 1 ≤ 100000; decide)) ?_))) (fun hx => by cases hx)
                rw [judgeL_three, hpf, Bool.false_and, Bool.and_false]; rfl
            · have hxf : PyData.eqv x (.str "bars") = false := by simpa using hxb
              refine dss_ifr (x := true) (dt_eq (dt_w (dw_or (y := true) (dt_cmp (op_neD hr.units) (de_ixT (de_var 1 (pv 1) rfl) de_int rfl) de_str (rv_neD sx (by decide +kernel)) (nomark _)) fun hx => by rw [hxf] at hx; cases hx)) (by rw [hxf]; rfl)) (fun hx => dss_one (ds_ret (de_eq (de_tup (da_cons de_str da_nil) (by show 1 ≤ 100000; decide)) ?_))) (fun hx => by cases hx)
              rw [judgeL_three, hxf, Bool.false_and]; rfl
        · have hsf : isStrN x = false := by simpa using hstr
          refine dss_ifr (x := true) (dt_eq first (by rw [hsf]; rfl)) (fun hx => dss_one (ds_ret (de_eq (de_tup (da_cons de_str da_nil) (by show 1 ≤ 100000; decide)) ?_))) (fun hx => by cases hx)
          match r, hl with
          | [y], _ => rw [judgeL_two, eqv_notStr hsf, Bool.false_and]; rfl
          | [y, z], _ => rw [judgeL_three, eqv_notStr hsf, Bool.false_and]; rfl
      · rw [judgeL_other hl]
        refine dss_ifr (x := true) (dt_eq (dt_w (dw_or (dt_not (dt_val (de_isi (de_var 1 (pv 1) rfl) (kit_tup _) Bl.isinstance Bl.tuple (by decide +kernel)))) fun hx => (dw_or (y := true) (dt_cmp op_notIn_seq (de_cb call_len_seq Bl.len (by decide +kernel) (da_cons (de_var 1 (pv 1) rfl) da_nil) (rc_len (.inr rfl))) (de_tup (da_cons de_int (da_cons de_int da_nil)) (by show 2 ≤ 100000; decide)) (rv_notIn (ns := [2, 3]) (.inr rfl)) (by rfl)) fun hx => by
          have : ¬ ((ds.length : Int) ∈ ([2, 3] : List Int)) := by simp; omega
          rw [decide_eq_false this] at hx; cases hx))) (by
          have : ¬ ((ds.length : Int) ∈ ([2, 3] : List Int)) := by simp; omega
          rw [decide_eq_false this]; rfl)) (fun hx => dss_one (ds_ret (de_tup (da_cons de_str da_nil) (by show 1 ≤ 100000; decide)))) (fun hx => by cases hx)
    · have hf : isTupN v = false := by simpa using ht
      have hj : judgeL ms v = .tuple [.str "form"] := by cases v <;> first | rfl | exact absurd rfl ht
      rw [hj]
      refine dss_ifr (x := true) (dt_eq (dt_w (dw_or (y := true) (dt_not (dt_val (de_isi (de_var 1 (pv 1) rfl) (kit_tup _) Bl.isinstance Bl.tuple (by decide +kernel)))) fun hx => by rw [hf] at hx; cases hx)) (by rw [hf]; rfl)) (fun hx => dss_one (ds_ret (de_tup (da_cons de_str da_nil) (by show 1 ≤ 100000; decide)))) (fun hx => by cases hx)
end
end Bm
namespace Bm
open PySem PySem.Spec PyProof.Rows L2 G
/-! ### the source of draws -/
def pick (s : G.Src) (most : Int) : Int × G.Src :=
  if most < 2 then (0, s)
  else if (fillS s.cells.reverse s.left).2 > 1 then ((fillS s.cells.reverse s.left).2 % most, ⟨(fillS s.cells.reverse s.left).1.reverse, (fillS s.cells.reverse s.left).2 / most, s.mixed, s.turn⟩)
  else (((((s.mixed + (s.turn + 1) * 104729) % 998244353) * ((s.mixed + (s.turn + 1) * 104729) % 998244353) + (s.turn + 1) * 17) % 2147483647) / 16 % most, ⟨(fillS s.cells.reverse s.left).1.reverse, (fillS s.cells.reverse s.left).2, s.mixed, s.turn + 1⟩)
theorem pick_range (s : G.Src) {m : Int} (h : 0 < m) : 0 ≤ (pick s m).1 ∧ (pick s m).1 < m := by
  unfold pick
  split
  · exact ⟨Int.le_refl _, h⟩
  · split
    · exact ⟨Int.emod_nonneg _ (by omega), Int.emod_lt_of_pos _ h⟩
    · exact ⟨Int.emod_nonneg _ (by omega), Int.emod_lt_of_pos _ h⟩
def openC (script : List Int) : G.Src := ⟨(script.map fun c => (c.natAbs : Int)).reverse, 1, script.foldl (fun m c => (m * 69069 + c * 31 + 5) % 2147483629) 11, 0⟩
inductive R_pick : G.Src → List PyData → PyData → G.Src → Prop
  | mk (s : G.Src) (m : Int) (hm : B 60 m) : R_pick s [.int m] (.int (pick s m).1) (pick s m).2
/-- the cells taken, as the loop does it -/
def fstep (a : List Int × Int) : List Int × Int := match a with
  | (c :: r, _) => (r, c)
  | ([], l) => ([], l)
theorem fill_done {a : List Int × Int} (h : (decide (a.2 < 2) && decide (0 < (a.1.length : Int))) = false) : fillS a.1 a.2 = a := by
  obtain ⟨r, l⟩ := a
  cases r with
  | nil => rfl
  | cons c r =>
    have : ¬ l < 2 := fun z => by
      rw [decide_eq_true z] at h
      simp at h
    rw [fillS, if_neg this]
theorem fill_step {a : List Int × Int} (h : (decide (a.2 < 2) && decide (0 < (a.1.length : Int))) = true) : fillS (fstep a).1 (fstep a).2 = fillS a.1 a.2 ∧ ∃ c, a.1 = c :: (fstep a).1 ∧ (fstep a).2 = c := by
  obtain ⟨r, l⟩ := a
  obtain ⟨h1, h2⟩ := Bool.and_eq_true_iff.mp h
  cases r with
  | nil => simp at h2
  | cons c r =>
    refine ⟨?_, c, rfl, rfl⟩
    show fillS r c = fillS (c :: r) l
    rw [fillS, if_pos (of_decide_eq_true h1)]
section
variable {P : Program} {w : World} {K : PySem.W.Frag} {mg : Str → Option Value} {base : Heap}
theorem sc_pick : FnScope ["_law_source", "_law_most", "_law_cells", "_law_left", "_law_turn", "_law_mixed"] ["_law_source", "_law_most"] (defScope (top 59)) := ⟨rfl, rfl, rfl, by decide +kernel, rfl, by decide +kernel, by decide +kernel⟩
theorem ok_pick (Bl : Bl mg) (h : Has K mg "_law_pick" (top 59)) : Good P w K mg base 1 "_law_pick" ["_law_source", "_law_most"] (spS K R_pick) := by
  obtain ⟨f, fd, F, hm⟩ := h.ex
  refine good_S (k := 0) F hm sc_pick (F.bindsN fun _ _ _ _ _ _ us hl => match us, hl with | [_, _], _ => rfl) (fun s ds d s' h => by cases h <;> rfl) fun cdv A outer s H E s0 ds d s1 hr h => ?_
  cases h with
  | mk m hmb =>
    have hu : (A.deeper (envOfC "_law_pick" (defScope (top 59)) s.heap.objs.size f cdv)).units + 1 < cLine := by have := hr.units; omega
    have mlog : m.natAbs.log2 < 9000 := hmb.lg (by decide) (by decide)
    by_cases h2 : m < 2
    · have e : pick s0 m = (0, s0) := by unfold pick; rw [if_pos h2]
      rw [e]
      exact ⟨{ src := some s0 }, rfl, dss_rt (ds_if (x := true) (dt_eq (dt_cmp op_lt (de_var 1 (pv 1) rfl) de_int rv_lt (nomark _)) (decide_eq_true h2)) (fun _ => dss_one (ds_ret de_int)) (fun z => by cases z))⟩
    · have hm0 : 0 < m := by omega
      refine ⟨{ src := some (pick s0 m).2 }, rfl, dss_cons (S1 := { src := some s0 }) (ds_if (x := false) (dt_eq (dt_cmp op_lt (de_var 1 (pv 1) rfl) de_int rv_lt (nomark _)) (decide_eq_false h2)) (fun z => by cases z) (fun _ => dss_nil))
        (dss_cons (S1 := { src := some s0 }) (ρ1 := [.src, .dat (.int m), .cel, .no, .no, .no]) (ds_cells (i := 0) (ic := 2) (s := s0) hu sc_pick.nd rfl (.inl rfl) rfl (pv 0) rfl)
        (dss_while PassesOwn.never (fun _ : List Int × Int => [.src, .dat (.int m), .cel, .no, .no, .no]) (fun a => { src := some ⟨a.1.reverse, a.2, s0.mixed, s0.turn⟩ }) (fun a => fillS a.1 a.2 = fillS s0.cells.reverse s0.left) (fun a => a.1.length) (fun a => decide (a.2 < 2) && decide (0 < (a.1.length : Int))) fstep (s0.cells.reverse, s0.left) rfl rfl (by rw [List.reverse_reverse]) (fun a ha => ?_) (fun a ha ht => ?_) (fun a ha ht => ?_)))⟩
      · refine dt_eq (dt_w (dw_and (dt_cmp op_lt (de_srcGet (i := 0) (s := ⟨a.1.reverse, a.2, s0.mixed, s0.turn⟩) hu rfl (pv 0) rfl (fun _ => rfl)) de_int rv_lt (nomark _)) fun hx => (dw_and1 (dt_cmp op_gt (de_lenCel (ic := 2) (s := ⟨a.1.reverse, a.2, s0.mixed, s0.turn⟩) rfl (pv 2) rfl Bl.len) de_int rv_gt (nomark _))))) ?_
        rw [List.length_reverse]
      · obtain ⟨q1, c, q2, q3⟩ := fill_step ht
        refine ⟨q1.trans ha, by rw [q2]; simp, ?_⟩
        have e : ({ src := some ⟨(fstep a).1.reverse, (fstep a).2, s0.mixed, s0.turn⟩ } : MS) = { ({ src := some ⟨a.1.reverse, a.2, s0.mixed, s0.turn⟩ } : MS) with src := some { (⟨a.1.reverse, a.2, s0.mixed, s0.turn⟩ : G.Src) with cells := (fstep a).1.reverse, left := c } } := by rw [q3]
        rw [e]
        exact dss_one (ds_popLeft (i := 0) (ic := 2) (s := ⟨a.1.reverse, a.2, s0.mixed, s0.turn⟩) (c := (fstep a).1.reverse) (z := c) hu rfl (pv 0) rfl (pv 2) rfl (by rw [q2, List.reverse_cons]))
      · have ef := fill_done ht
        rw [ef] at ha
        subst ha
        generalize hF : fillS s0.cells.reverse s0.left = F at *
        refine dss_cons (S1 := { src := some ⟨F.1.reverse, F.2, s0.mixed, s0.turn⟩ }) (ds_set (i := 3) (d := .int F.2) sc_pick.nd rfl (.inl rfl) (de_srcGet (i := 0) (s := ⟨F.1.reverse, F.2, s0.mixed, s0.turn⟩) hu rfl (pv 0) rfl (fun _ => rfl))) ?_
        by_cases hgt : F.2 > 1
        · have e : pick s0 m = (F.2 % m, ⟨F.1.reverse, F.2 / m, s0.mixed, s0.turn⟩) := by unfold pick; rw [if_neg h2, hF, if_pos hgt]
          rw [e]
          refine dss_rt (ds_if (x := true) (dt_eq (dt_cmp op_gt (de_var 3 (pv 3) rfl) de_int rv_gt (nomark _)) (decide_eq_true hgt)) (fun _ => ?_) (fun z => by cases z))
          refine dss_cons (ds_srcSet (i := 0) (s := ⟨F.1.reverse, F.2, s0.mixed, s0.turn⟩) (s' := ⟨F.1.reverse, F.2 / m, s0.mixed, s0.turn⟩) hu rfl (pv 0) (de_eq (d := .int (F.2 / m)) (de_fdiv (de_var 3 (pv 3) rfl) (de_var 1 (pv 1) rfl) (by omega) mlog) (congrArg PyData.int (fdiv_pos hm0))) rfl (fun _ => rfl) rfl) ?_
          exact dss_one (ds_ret (de_eq (de_mod (de_ct call_int1 Bl.int (by decide +kernel) (da_cons (de_var 3 (pv 3) rfl) da_nil) rc_int) (de_var 1 (pv 1) rfl) (by omega)) (congrArg PyData.int (fmod_pos hm0))))
        · have e : pick s0 m = (((((s0.mixed + (s0.turn + 1) * 104729) % 998244353) * ((s0.mixed + (s0.turn + 1) * 104729) % 998244353) + (s0.turn + 1) * 17) % 2147483647) / 16 % m, ⟨F.1.reverse, F.2, s0.mixed, s0.turn + 1⟩) := by unfold pick; rw [if_neg h2, hF, if_neg hgt]
          rw [e]
          have small : ∀ z k : Int, 0 < k → k < 2 ^ 60 → -2 ^ 64 < z % k ∧ z % k < 2 ^ 64 := fun z k h1 h2 => by
            have q1 := Int.emod_nonneg z (show k ≠ 0 by omega)
            have q2 := Int.emod_lt_of_pos z h1
            omega
          refine dss_cons (S1 := { src := some ⟨F.1.reverse, F.2, s0.mixed, s0.turn⟩ }) (ds_if (x := false) (dt_eq (dt_cmp op_gt (de_var 3 (pv 3) rfl) de_int rv_gt (nomark _)) (decide_eq_false hgt)) (fun z => by cases z) (fun _ => dss_nil)) ?_
          refine dss_cons (ds_srcSet (i := 0) (s := ⟨F.1.reverse, F.2, s0.mixed, s0.turn⟩) (s' := ⟨F.1.reverse, F.2, s0.mixed, s0.turn + 1⟩) hu rfl (pv 0) (de_add (de_srcGet (i := 0) (s := ⟨F.1.reverse, F.2, s0.mixed, s0.turn⟩) hu rfl (pv 0) rfl (fun _ => rfl)) de_int) rfl (fun _ => rfl) rfl) ?_
          refine dss_cons (S1 := { src := some ⟨F.1.reverse, F.2, s0.mixed, s0.turn + 1⟩ }) (ds_set (i := 4) (d := .int (s0.turn + 1)) sc_pick.nd rfl (.inl rfl) (de_srcGet (i := 0) (s := ⟨F.1.reverse, F.2, s0.mixed, s0.turn + 1⟩) hu rfl (pv 0) rfl (fun _ => rfl))) ?_
          refine dss_cons (S1 := { src := some ⟨F.1.reverse, F.2, s0.mixed, s0.turn + 1⟩ }) (ds_set (i := 5) (d := .int ((s0.mixed + (s0.turn + 1) * 104729) % 998244353)) sc_pick.nd rfl (.inl rfl) (de_eq (de_mod (de_ct call_int1 Bl.int (by decide +kernel) (da_cons (de_add (de_srcGet (i := 0) (s := ⟨F.1.reverse, F.2, s0.mixed, s0.turn + 1⟩) hu rfl (pv 0) rfl (fun _ => rfl)) (de_muls (de_var 4 (pv 4) rfl) de_int (.inr (by decide)))) da_nil) rc_int) de_int (by decide)) (congrArg PyData.int (fmod_pos (by decide))))) ?_
          refine dss_cons (S1 := { src := some ⟨F.1.reverse, F.2, s0.mixed, s0.turn + 1⟩ }) (ds_set (i := 5) (d := .int ((((s0.mixed + (s0.turn + 1) * 104729) % 998244353) * ((s0.mixed + (s0.turn + 1) * 104729) % 998244353) + (s0.turn + 1) * 17) % 2147483647)) sc_pick.nd rfl (.inl rfl) (de_eq (de_mod (de_ct call_int1 Bl.int (by decide +kernel) (da_cons (de_add (de_muls (de_var 5 (pv 5) rfl) (de_var 5 (pv 5) rfl) (.inr (small _ _ (by decide) (by decide)))) (de_muls (de_var 4 (pv 4) rfl) de_int (.inr (by decide)))) da_nil) rc_int) de_int (by decide)) (congrArg PyData.int (fmod_pos (by decide))))) ?_
          exact dss_one (ds_ret (de_eq (de_mod (de_ct call_int1 Bl.int (by decide +kernel) (da_cons (de_fdiv (de_var 5 (pv 5) rfl) de_int (by decide) (by decide +kernel)) da_nil) rc_int) (de_var 1 (pv 1) rfl) (by omega)) (by rw [fdiv_pos (by decide), fmod_pos hm0])))
end
end Bm
namespace Bm
open PySem PySem.Spec PyProof.Rows L2 G
/-! ### moves as they are drawn -/
structure Pr (q : Nat) : Prop where
  two : 2 ≤ q
  pr : ∀ d, d ∣ q → d = 1 ∨ d = q
theorem Pr.mulI {q : Nat} {a b : Int} (h : Pr q) (hd : (q : Int) ∣ a * b) : (q : Int) ∣ a ∨ (q : Int) ∣ b := by
  rw [Int.ofNat_dvd_left] at hd ⊢
  rw [Int.ofNat_dvd_left]
  rw [Int.natAbs_mul] at hd
  by_cases ha : q ∣ a.natAbs
  · exact .inl ha
  · refine .inr (Nat.Coprime.dvd_of_dvd_mul_left ?_ hd)
    have h1 := Nat.gcd_dvd_left q a.natAbs
    rcases h.pr _ h1 with e | e
    · exact e
    · exact absurd (by rw [← e]; exact Nat.gcd_dvd_right q a.natAbs) ha
theorem Pr.in97 {q : Nat} (h : Pr q) (hq : q ≤ 97) : q ∈ P97 := by
  have all : ∀ q ∈ List.range 98, (2 ≤ q ∧ ∀ d ∈ List.range (q + 1), d ∣ q → d = 1 ∨ d = q) → q ∈ P97 := by decide +kernel
  exact all q (List.mem_range.mpr (by omega)) ⟨h.two, fun d _ hd => h.pr d hd⟩
/-- all primes that divide it stand in the list -/
structure Smo (z : Int) : Prop where
  ne : z ≠ 0
  sm : ∀ q, Pr q → (q : Int) ∣ z → q ∈ P97
theorem Smo.mul {a b : Int} (h : Smo a) (g : Smo b) : Smo (a * b) := ⟨Int.mul_ne_zero h.ne g.ne, fun q hq hd => (hq.mulI hd).elim (h.sm q hq) (g.sm q hq)⟩
theorem Smo.of_dvd {a b : Int} (h : Smo b) (hd : a ∣ b) : Smo a := ⟨fun z => h.ne (by rw [z] at hd; exact Int.zero_dvd.mp hd), fun q hq ha => h.sm q hq (Int.dvd_trans ha hd)⟩
theorem Smo.small {z : Int} (h : z ≠ 0) (hz : z.natAbs ≤ 97) : Smo z := ⟨h, fun q hq hd => hq.in97 (by
  have := Nat.le_of_dvd (Int.natAbs_pos.mpr h) (Int.ofNat_dvd_left.mp hd)
  omega)⟩
theorem Smo.pow {a : Int} (h : Smo a) : ∀ k : Nat, Smo (a ^ k)
  | 0 => Smo.small (by rw [Int.pow_zero]; decide) (by rw [Int.pow_zero]; decide)
  | k + 1 => by rw [Int.pow_succ]; exact (Smo.pow h k).mul h
theorem gcd4_form {m : M4} (h : firstM m ≠ 0) : gcd4 (formM m) = 1 := by
  obtain ⟨h1, h2, h3, h4⟩ := form_mul h
  have d := gcd4_dvd (formM m)
  have g0 := formG_ne h
  have : gcd4 m * gcd4 (formM m) ∣ gcd4 m := by
    have e : ((gcd4 m * gcd4 (formM m) : Nat) : Int).natAbs = (formG m * (gcd4 (formM m) : Int)).natAbs := by
      rw [Int.natAbs_mul, formG_abs]; rfl
    have dv : ∀ {x y : Int}, x = formG m * y → (gcd4 (formM m) : Int) ∣ y → ((gcd4 m * gcd4 (formM m) : Nat) : Int) ∣ x := fun {x y} ex hy => by
      rw [← Int.natAbs_dvd, e, Int.natAbs_dvd, ex]
      exact Int.mul_dvd_mul_left _ hy
    exact dvd_gcd4 (dv h1 d.1) (dv h2 d.2.1) (dv h3 d.2.2.1) (dv h4 d.2.2.2)
  have p := gcd4_ne h
  have h5 : gcd4 m * gcd4 (formM m) ≤ gcd4 m := Nat.le_of_dvd (by omega) this
  have h6 : gcd4 (formM m) ≠ 0 := by
    intro z
    rw [z, Nat.mul_zero] at this
    exact p (Nat.zero_dvd.mp this)
  have h7 : gcd4 m * gcd4 (formM m) ≤ gcd4 m * 1 := by rw [Nat.mul_one]; exact h5
  have := Nat.le_of_mul_le_mul_left h7 (by omega)
  omega
theorem first_form {m : M4} (h : firstM m ≠ 0) : 0 < firstM (formM m) := by
  obtain ⟨h1, h2, h3, h4⟩ := form_mul h
  have g0 := formG_ne h
  have z : ∀ {x y : Int}, x = formG m * y → (x ≠ 0 ↔ y ≠ 0) := fun {x y} e => by
    rw [e]
    exact ⟨fun q r => q (by rw [r, Int.mul_zero]), fun q => Int.mul_ne_zero g0 q⟩
  have e : firstM m = formG m * firstM (formM m) := by
    unfold firstM
    by_cases ha : m.a ≠ 0
    · rw [if_pos ha, if_pos ((z h1).mp ha)]; exact h1
    · rw [if_neg ha, if_neg (fun q => ha ((z h1).mpr q))]
      by_cases hb : m.b ≠ 0
      · rw [if_pos hb, if_pos ((z h2).mp hb)]; exact h2
      · rw [if_neg hb, if_neg (fun q => hb ((z h2).mpr q))]
        by_cases hc : m.c ≠ 0
        · rw [if_pos hc, if_pos ((z h3).mp hc)]; exact h3
        · rw [if_neg hc, if_neg (fun q => hc ((z h3).mpr q))]; exact h4
  have gp := gcd4_ne h
  rcases Int.lt_trichotomy (firstM (formM m)) 0 with q | q | q
  · exfalso
    by_cases hp : firstM m > 0
    · have : formG m > 0 := by unfold formG; rw [if_pos hp]; omega
      have := Int.mul_neg_of_pos_of_neg this q
      omega
    · have hn : firstM m < 0 := by omega
      have : formG m < 0 := by unfold formG; rw [if_neg hp]; omega
      have := Int.mul_pos_of_neg_of_neg this q
      omega
  · rw [q, Int.mul_zero] at e; exact absurd e h
  · exact q
theorem form_idem {m : M4} (h : firstM m ≠ 0) : formM (formM m) = formM m := by
  have h1 := gcd4_form h
  have h2 := first_form h
  have e : formG (formM m) = 1 := by unfold formG; rw [if_pos h2, h1]; rfl
  have : formM (formM m) = divM (formM m) 1 := by show divM (formM m) (formG (formM m)) = _; rw [e]
  rw [this]
  unfold divM
  simp [Int.fdiv_one]
/-- a drawn move -/
structure Dm (k : Nat) (m : M4) : Prop where
  b : MB k m
  mv : IsMv m
  sm : Smo (sizeM m)
theorem Dm.mono {j k : Nat} {m : M4} (h : Dm j m) (l : j ≤ k) : Dm k m := ⟨h.b.mono l, h.mv, h.sm⟩
theorem size_form_dvd {m : M4} (h : firstM m ≠ 0) : sizeM (formM m) ∣ sizeM m := ⟨formG m * formG m, by rw [size_form h]; grind⟩
theorem Dm.form {k : Nat} {m : M4} (h : MB k m) (hs : Smo (sizeM m)) : Dm k (formM m) :=
  have f := first_ne hs.ne
  ⟨h.form f, ⟨form_idem f, size_form_ne hs.ne⟩, hs.of_dvd (size_form_dvd f)⟩
theorem Dm.after {j k : Nat} {m n : M4} (h : Dm j m) (g : Dm k n) : Dm (j + k + 1) (afterM m n) :=
  Dm.form (h.b.mul g.b) (by rw [size_mul]; exact h.sm.mul g.sm)
theorem Dm.back {k : Nat} {m : M4} (h : Dm k m) : Dm k (backM m) := Dm.form h.b.adj (by rw [size_adj]; exact h.sm)
theorem Dm.ne {k : Nat} {m : M4} (h : Dm k m) : sizeM m ≠ 0 := h.sm.ne
theorem Dm.id : Dm 1 idM := ⟨id_ok.1, ⟨by decide, by decide⟩, Smo.small (by decide) (by decide)⟩
/-! the draws as functions -/
def dPrime (s : G.Src) : Nat × G.Src := (([2, 3, 2, 5, 7] : List Nat).getD (pick s 5).1.toNat 2, (pick s 5).2)
def dBase (p : Nat) (w n : Int × G.Src) : M4 × G.Src :=
  if w.1 = 0 then (formM ⟨1, (n.1 - 4) * (([1, (p : Int)] : List Int).getD (pick n.2 2).1.toNat 0), 0, ([1, (p : Int), (p : Int) * p] : List Int).getD (pick (pick n.2 2).2 3).1.toNat 0⟩, (pick (pick n.2 2).2 3).2)
  else if w.1 = 1 then (formM ⟨(p : Int) ^ (pick n.2 3).1.toNat, 0, 0, ([1, 2, 3, 0 - 1] : List Int).getD (pick (pick n.2 3).2 4).1.toNat 0⟩, (pick (pick n.2 3).2 4).2)
  else if w.1 = 2 then (formM ⟨0, ([1, (p : Int), 0 - 1, 0 - (p : Int)] : List Int).getD (pick n.2 4).1.toNat 0, 1, n.1 - 4⟩, (pick n.2 4).2)
  else
    (let a := pick n.2 9
     let b := pick a.2 9
     let c := pick b.2 9
     let d := pick c.2 9
     (if (a.1 - 4) * (d.1 - 4) = (b.1 - 4) * (c.1 - 4) then formM ⟨1, n.1 - 4, 0, 1⟩ else formM ⟨a.1 - 4, b.1 - 4, c.1 - 4, d.1 - 4⟩, d.2))
def dPush (p : Nat) (f : M4 × G.Src) : M4 × G.Src :=
  if (pick f.2 3).1 = 0 then
    (afterM (formM ⟨(p : Int) ^ (pick (pick f.2 3).2 2).1.toNat, (pick (pick (pick f.2 3).2 2).2 5).1 - 2, 0, 1⟩) (afterM f.1 (backM (formM ⟨(p : Int) ^ (pick (pick f.2 3).2 2).1.toNat, (pick (pick (pick f.2 3).2 2).2 5).1 - 2, 0, 1⟩))), (pick (pick (pick f.2 3).2 2).2 5).2)
  else (f.1, (pick f.2 3).2)
def dMove (p : Nat) (s : G.Src) : M4 × G.Src := dPush p (dBase p (pick s 6) (pick (pick s 6).2 9))
theorem getD_mem {α : Type} {L : List α} {i : Nat} {x : α} (h : i < L.length) : L.getD i x ∈ L := by
  rw [List.getD_eq_getElem?_getD, List.getElem?_eq_getElem h]; exact List.getElem_mem _
theorem pk_mem {α : Type} {L : List α} {x : α} (s : G.Src) {m : Int} (hm : 0 < m) (h : m = L.length) : L.getD (pick s m).1.toNat x ∈ L := by
  have := pick_range s hm
  exact getD_mem (by omega)
structure P7 (p : Nat) : Prop where
  mem : p = 2 ∨ p = 3 ∨ p = 5 ∨ p = 7
theorem P7.isP {p : Nat} (h : P7 p) : IsP p := by
  have all : ∀ q ∈ ([2, 3, 5, 7] : List Nat), 2 ≤ q ∧ q ≤ 97 ∧ ∀ d, d < q + 1 → d ∣ q → d = 1 ∨ d = q := by decide
  obtain ⟨a, b, c⟩ := all p (by rcases h.mem with e | e | e | e <;> simp [e])
  exact ⟨a, b, fun d hd => c d (by have := Nat.le_of_dvd (by omega) hd; omega) hd⟩
theorem dPrime_P7 (s : G.Src) : P7 (dPrime s).1 := ⟨by
  have h : (dPrime s).1 ∈ ([2, 3, 2, 5, 7] : List Nat) := pk_mem s (by decide) rfl
  simp at h
  omega⟩
theorem MB6 {a b c d : Int} (ha : a.natAbs < 64) (hb : b.natAbs < 64) (hc : c.natAbs < 64) (hd : d.natAbs < 64) : MB 6 ⟨a, b, c, d⟩ := ⟨ha, hb, hc, hd⟩
theorem B_lt {k : Nat} {z : Int} (h : z.natAbs < 2 ^ k) : B k z := h
theorem P7.pow {p : Nat} (h : P7 p) {k : Nat} (hk : k ≤ 2) : 0 < (p : Int) ^ k ∧ (p : Int) ^ k ≤ 49 := by
  have e : k = 0 ∨ k = 1 ∨ k = 2 := by omega
  rcases h.mem with rfl | rfl | rfl | rfl <;> rcases e with rfl | rfl | rfl <;> decide
structure RawOk (m : M4) : Prop where
  b : MB 6 m
  s : Smo (sizeM m)
theorem RawOk.dm {m : M4} (h : RawOk m) : Dm 6 (formM m) := Dm.form h.b h.s
theorem r0_ok {n x y : Int} (hn : 0 ≤ n ∧ n < 9) (hx : 1 ≤ x ∧ x ≤ 7) (hy : 1 ≤ y ∧ y ≤ 49) : RawOk ⟨1, (n - 4) * x, 0, y⟩ := by
  have hm : -28 ≤ (n - 4) * x ∧ (n - 4) * x ≤ 28 := by
    have e : x = 1 ∨ x = 2 ∨ x = 3 ∨ x = 4 ∨ x = 5 ∨ x = 6 ∨ x = 7 := by omega
    rcases e with rfl | rfl | rfl | rfl | rfl | rfl | rfl <;> omega
  refine ⟨MB6 (by omega) (by omega) (by omega) (by omega), ?_⟩
  have e : sizeM ⟨1, (n - 4) * x, 0, y⟩ = y := by show 1 * y - _ * 0 = y; omega
  rw [e]
  exact Smo.small (by omega) (by omega)
theorem r1_ok {z y : Int} (hz : 0 < z ∧ z ≤ 49) (hy : y = 1 ∨ y = 2 ∨ y = 3 ∨ y = -1) : RawOk ⟨z, 0, 0, y⟩ := by
  refine ⟨MB6 (by omega) (by omega) (by omega) (by omega), ?_⟩
  have e : sizeM ⟨z, 0, 0, y⟩ = z * y := by show z * y - 0 * 0 = z * y; omega
  rw [e]
  exact (Smo.small (by omega) (by omega)).mul (Smo.small (by omega) (by omega))
theorem r2_ok {y n : Int} (hn : 0 ≤ n ∧ n < 9) (hy : y ≠ 0 ∧ -7 ≤ y ∧ y ≤ 7) : RawOk ⟨0, y, 1, n - 4⟩ := by
  refine ⟨MB6 (by omega) (by omega) (by omega) (by omega), ?_⟩
  have e : sizeM ⟨0, y, 1, n - 4⟩ = -y := by show 0 * _ - y * 1 = -y; omega
  rw [e]
  exact Smo.small (by omega) (by omega)
theorem r3_ok {n : Int} (hn : 0 ≤ n ∧ n < 9) : RawOk ⟨1, n - 4, 0, 1⟩ := by
  refine ⟨MB6 (by omega) (by omega) (by omega) (by omega), ?_⟩
  have e : sizeM ⟨1, n - 4, 0, 1⟩ = 1 := by show 1 * 1 - _ * 0 = (1 : Int); omega
  rw [e]
  exact Smo.small (by decide) (by decide)
theorem r4_ok {a b c d : Int} (ha : 0 ≤ a ∧ a < 9) (hb : 0 ≤ b ∧ b < 9) (hc : 0 ≤ c ∧ c < 9) (hd : 0 ≤ d ∧ d < 9) (hne : ¬ (a - 4) * (d - 4) = (b - 4) * (c - 4)) : RawOk ⟨a - 4, b - 4, c - 4, d - 4⟩ := by
  refine ⟨MB6 (by omega) (by omega) (by omega) (by omega), ?_⟩
  have mm : ∀ x y : Int, -4 ≤ x → x ≤ 4 → -4 ≤ y → y ≤ 4 → -16 ≤ x * y ∧ x * y ≤ 16 := fun x y h1 h2 h3 h4 => by
    have e : x = -4 ∨ x = -3 ∨ x = -2 ∨ x = -1 ∨ x = 0 ∨ x = 1 ∨ x = 2 ∨ x = 3 ∨ x = 4 := by omega
    rcases e with rfl | rfl | rfl | rfl | rfl | rfl | rfl | rfl | rfl <;> omega
  have m1 := mm (a - 4) (d - 4) (by omega) (by omega) (by omega) (by omega)
  have m2 := mm (b - 4) (c - 4) (by omega) (by omega) (by omega) (by omega)
  refine Smo.small (fun z => hne (Int.sub_eq_zero.mp z)) ?_
  have key : ∀ x y : Int, -16 ≤ x → x ≤ 16 → -16 ≤ y → y ≤ 16 → (x - y).natAbs ≤ 97 := fun x y _ _ _ _ => by omega
  exact key _ _ m1.1 m1.2 m2.1 m2.2
theorem r5_ok {z b : Int} (hz : 0 < z ∧ z ≤ 49) (hb : 0 ≤ b ∧ b < 5) : RawOk ⟨z, b - 2, 0, 1⟩ := by
  refine ⟨MB6 (by omega) (by omega) (by omega) (by omega), ?_⟩
  have e : sizeM ⟨z, b - 2, 0, 1⟩ = z := by show z * 1 - _ * 0 = z; omega
  rw [e]
  exact Smo.small (by omega) (by omega)
theorem in2 {p : Nat} (hp : P7 p) (s : G.Src) : 1 ≤ ([1, (p : Int)] : List Int).getD (pick s 2).1.toNat 0 ∧ ([1, (p : Int)] : List Int).getD (pick s 2).1.toNat 0 ≤ 7 := by
  have h1 : ([1, (p : Int)] : List Int).getD (pick s 2).1.toNat 0 ∈ ([1, (p : Int)] : List Int) := pk_mem _ (by decide) rfl
  have hp7 : 2 ≤ (p : Int) ∧ (p : Int) ≤ 7 := by rcases hp.mem with rfl | rfl | rfl | rfl <;> decide
  generalize ([1, (p : Int)] : List Int).getD (pick s 2).1.toNat 0 = x at *
  simp at h1; omega
theorem in3 {p : Nat} (hp : P7 p) (s : G.Src) : 1 ≤ ([1, (p : Int), (p : Int) * p] : List Int).getD (pick s 3).1.toNat 0 ∧ ([1, (p : Int), (p : Int) * p] : List Int).getD (pick s 3).1.toNat 0 ≤ 49 := by
  have h1 : ([1, (p : Int), (p : Int) * p] : List Int).getD (pick s 3).1.toNat 0 ∈ ([1, (p : Int), (p : Int) * p] : List Int) := pk_mem _ (by decide) rfl
  have hp7 : 2 ≤ (p : Int) ∧ (p : Int) ≤ 7 := by rcases hp.mem with rfl | rfl | rfl | rfl <;> decide
  have hpp : (p : Int) * p ≤ 49 ∧ 0 < (p : Int) * p := by rcases hp.mem with rfl | rfl | rfl | rfl <;> decide
  generalize ([1, (p : Int), (p : Int) * p] : List Int).getD (pick s 3).1.toNat 0 = x at *
  simp at h1; omega
theorem in4 (s : G.Src) : ([1, 2, 3, 0 - 1] : List Int).getD (pick s 4).1.toNat 0 = 1 ∨ ([1, 2, 3, 0 - 1] : List Int).getD (pick s 4).1.toNat 0 = 2 ∨ ([1, 2, 3, 0 - 1] : List Int).getD (pick s 4).1.toNat 0 = 3 ∨ ([1, 2, 3, 0 - 1] : List Int).getD (pick s 4).1.toNat 0 = -1 := by
  have h1 : ([1, 2, 3, 0 - 1] : List Int).getD (pick s 4).1.toNat 0 ∈ ([1, 2, 3, 0 - 1] : List Int) := pk_mem _ (by decide) rfl
  generalize ([1, 2, 3, 0 - 1] : List Int).getD (pick s 4).1.toNat 0 = x at *
  simpa using h1
theorem in4p {p : Nat} (hp : P7 p) (s : G.Src) : ([1, (p : Int), 0 - 1, 0 - (p : Int)] : List Int).getD (pick s 4).1.toNat 0 ≠ 0 ∧ -7 ≤ ([1, (p : Int), 0 - 1, 0 - (p : Int)] : List Int).getD (pick s 4).1.toNat 0 ∧ ([1, (p : Int), 0 - 1, 0 - (p : Int)] : List Int).getD (pick s 4).1.toNat 0 ≤ 7 := by
  have h1 : ([1, (p : Int), 0 - 1, 0 - (p : Int)] : List Int).getD (pick s 4).1.toNat 0 ∈ ([1, (p : Int), 0 - 1, 0 - (p : Int)] : List Int) := pk_mem _ (by decide) rfl
  have hp7 : 2 ≤ (p : Int) ∧ (p : Int) ≤ 7 := by rcases hp.mem with rfl | rfl | rfl | rfl <;> decide
  generalize ([1, (p : Int), 0 - 1, 0 - (p : Int)] : List Int).getD (pick s 4).1.toNat 0 = x at *
  have h2 : x = 1 ∨ x = p ∨ x = -1 ∨ x = 0 - (p : Int) := by simpa using h1
  omega
theorem dBase_ok {p : Nat} (hp : P7 p) (w : Int × G.Src) (s : G.Src) : Dm 6 (dBase p w (pick s 9)).1 := by
  have rn := pick_range s (show (0 : Int) < 9 by decide)
  unfold dBase
  split
  · exact (r0_ok rn (in2 hp _) (in3 hp _)).dm
  · split
    · have r3 := pick_range (pick s 9).2 (show (0 : Int) < 3 by decide)
      exact (r1_ok (hp.pow (by omega)) (in4 _)).dm
    · split
      · exact (r2_ok rn (in4p hp _)).dm
      · show Dm 6 (if _ then _ else _)
        split
        · exact (r3_ok rn).dm
        · rename_i hne
          exact (r4_ok (pick_range _ (by decide)) (pick_range _ (by decide)) (pick_range _ (by decide)) (pick_range _ (by decide)) hne).dm
theorem dPush_ok {p : Nat} (hp : P7 p) {f : M4 × G.Src} (h : Dm 6 f.1) : Dm 20 (dPush p f).1 := by
  unfold dPush
  split
  · have r2 := pick_range (pick f.2 3).2 (show (0 : Int) < 2 by decide)
    have hpu := (r5_ok (hp.pow (show (pick (pick f.2 3).2 2).1.toNat ≤ 2 by omega)) (pick_range (pick (pick f.2 3).2 2).2 (show (0 : Int) < 5 by decide))).dm
    exact (hpu.after (h.after hpu.back)).mono (by decide)
  · exact h.mono (by decide)
theorem dMove_ok {p : Nat} (hp : P7 p) (s : G.Src) : Dm 20 (dMove p s).1 := dPush_ok hp (dBase_ok hp _ _)
end Bm
namespace Bm
open PySem PySem.Spec PyProof.Rows L2 G
/-- a whole factor -/
def dFac (n : Int) (i : Nat) : M4 := ([⟨1, n, 0, 1⟩, ⟨0, 1, 1, n⟩, ⟨1, 0, 0, 0 - 1⟩, ⟨1, 0 - 1, 1, 0⟩] : List M4).getD i idM
def dWholeGo : Nat → M4 × G.Src → M4 × G.Src
  | 0, f => f
  | k + 1, f => dWholeGo k (afterM f.1 (dFac ((pick f.2 5).1 - 2) (pick (pick f.2 5).2 4).1.toNat), (pick (pick f.2 5).2 4).2)
def dWhole (s : G.Src) : M4 × G.Src := dWholeGo (1 + (pick s 4).1).toNat (idM, (pick s 4).2)
def gNum (i : Nat) : Int := ([1, 2, 3, 4, 6, 9, 5, 14] : List Int).getD i 0
def dGrid (s : G.Src) : M4 × G.Src :=
  if (pick (pick (pick s 8).2 8).2 3).1 > 0 then (formM ⟨gNum (pick s 8).1.toNat, (pick (pick (pick (pick s 8).2 8).2 3).2 7).1, 0, gNum (pick (pick s 8).2 8).1.toNat⟩, (pick (pick (pick (pick s 8).2 8).2 3).2 7).2)
  else (formM ⟨gNum (pick s 8).1.toNat, 1, gNum (pick s 8).1.toNat * 2, 2 + gNum (pick (pick s 8).2 8).1.toNat⟩, (pick (pick (pick s 8).2 8).2 3).2)
def dOne (t u : M4) (s : G.Src) : M4 × G.Src :=
  if (pick s 8).1 = 0 then dMove (dPrime (pick s 8).2).1 (dPrime (pick s 8).2).2
  else (afterM (if (pick s 8).1 > 1 then t else u) (afterM (dWhole (pick s 8).2).1 (backM (if (pick s 8).1 > 1 then t else u))), (dWhole (pick s 8).2).2)
def dListGo (t u : M4) : Nat → List M4 × G.Src → List M4 × G.Src
  | 0, f => f
  | k + 1, f => dListGo t u k (f.1 ++ [(dOne t u f.2).1], (dOne t u f.2).2)
def dList (s : G.Src) : List M4 × G.Src := dListGo (dGrid s).1 (dGrid (dGrid s).2).1 (1 + (pick (dGrid (dGrid s).2).2 4).1).toNat ([], (pick (dGrid (dGrid s).2).2 4).2)
def dLet (many : Int) (s : G.Src) : (Int × Int) × G.Src := (((pick s many).1, ([1, 0 - 1] : List Int).getD (pick (pick s many).2 2).1.toNat 0), (pick (pick s many).2 2).2)
def dWordGo (many : Int) : Nat → Wd × G.Src → Wd × G.Src
  | 0, f => f
  | k + 1, f => dWordGo many k (f.1 ++ [(dLet many f.2).1], (dLet many f.2).2)
def dWord (many most : Int) (s : G.Src) : Wd × G.Src := dWordGo many (pick s (most + 1)).1.toNat ([], (pick s (most + 1)).2)
/-! what they come to -/
theorem dFac_ok {n : Int} (h1 : -2 ≤ n) (h2 : n ≤ 2) {i : Nat} (hi : i < 4) : Dm 2 (dFac n i) ∧ (sizeM (dFac n i) = 1 ∨ sizeM (dFac n i) = -1) := by
  have e : n = -2 ∨ n = -1 ∨ n = 0 ∨ n = 1 ∨ n = 2 := by omega
  have q : i = 0 ∨ i = 1 ∨ i = 2 ∨ i = 3 := by omega
  have all : ∀ m : M4, m.a.natAbs < 4 → m.b.natAbs < 4 → m.c.natAbs < 4 → m.d.natAbs < 4 → formM m = m → (sizeM m = 1 ∨ sizeM m = -1) → Dm 2 m ∧ (sizeM m = 1 ∨ sizeM m = -1) := fun m a b c d f s =>
    ⟨⟨⟨a, b, c, d⟩, ⟨f, by omega⟩, Smo.small (by omega) (by omega)⟩, s⟩
  rcases q with rfl | rfl | rfl | rfl <;> rcases e with rfl | rfl | rfl | rfl | rfl <;> exact all _ (by decide) (by decide) (by decide) (by decide) (by decide) (by decide)
theorem dWholeGo_ok : ∀ (k : Nat) {j : Nat} (f : M4 × G.Src), Dm j f.1 → Dm (j + 3 * k) (dWholeGo k f).1
  | 0, _, f, h => h
  | k + 1, j, f, h => by
    have r5 := pick_range f.2 (show (0 : Int) < 5 by decide)
    have r4 := pick_range (pick f.2 5).2 (show (0 : Int) < 4 by decide)
    have hf := (dFac_ok (n := (pick f.2 5).1 - 2) (by omega) (by omega) (i := (pick (pick f.2 5).2 4).1.toNat) (by omega)).1
    have := dWholeGo_ok k (afterM f.1 (dFac ((pick f.2 5).1 - 2) (pick (pick f.2 5).2 4).1.toNat), (pick (pick f.2 5).2 4).2) (h.after hf)
    rw [dWholeGo]
    exact this.mono (by omega)
theorem dWhole_ok (s : G.Src) : Dm 13 (dWhole s).1 := by
  have r4 := pick_range s (show (0 : Int) < 4 by decide)
  exact (dWholeGo_ok _ (idM, (pick s 4).2) Dm.id).mono (by omega)
theorem gNum_mem {i : Nat} (h : i < 8) : 1 ≤ gNum i ∧ gNum i ≤ 14 := by
  have : ∀ x ∈ ([1, 2, 3, 4, 6, 9, 5, 14] : List Int), 1 ≤ x ∧ x ≤ 14 := by decide
  exact this _ (getD_mem h)
theorem MB5 {a b c d : Int} (ha : a.natAbs < 32) (hb : b.natAbs < 32) (hc : c.natAbs < 32) (hd : d.natAbs < 32) : MB 5 ⟨a, b, c, d⟩ := ⟨ha, hb, hc, hd⟩
theorem dGrid_ok (s : G.Src) : Dm 5 (dGrid s).1 := by
  have r1 := pick_range s (show (0 : Int) < 8 by decide)
  have r2 := pick_range (pick s 8).2 (show (0 : Int) < 8 by decide)
  have r3 := pick_range (pick (pick (pick s 8).2 8).2 3).2 (show (0 : Int) < 7 by decide)
  have g1 := gNum_mem (i := (pick s 8).1.toNat) (by omega)
  have g2 := gNum_mem (i := (pick (pick s 8).2 8).1.toNat) (by omega)
  unfold dGrid
  generalize gNum (pick s 8).1.toNat = x at *
  generalize gNum (pick (pick s 8).2 8).1.toNat = y at *
  split
  · refine Dm.form (MB5 (by omega) (by omega) (by omega) (by omega)) ?_
    have e : ∀ b, sizeM ⟨x, b, 0, y⟩ = x * y := fun b => by show x * y - b * 0 = x * y; omega
    rw [e]
    exact (Smo.small (by omega) (by omega)).mul (Smo.small (by omega) (by omega))
  · refine Dm.form (MB5 (by omega) (by omega) (by omega) (by omega)) ?_
    have e : sizeM ⟨x, 1, x * 2, 2 + y⟩ = x * y := by show x * (2 + y) - 1 * (x * 2) = x * y; grind
    rw [e]
    exact (Smo.small (by omega) (by omega)).mul (Smo.small (by omega) (by omega))
theorem dOne_ok {t u : M4} (ht : Dm 5 t) (hu : Dm 5 u) (s : G.Src) : Dm 25 (dOne t u s).1 := by
  unfold dOne
  split
  · exact (dMove_ok (dPrime_P7 _) _).mono (by decide)
  · have hf : Dm 5 (if (pick s 8).1 > 1 then t else u) := by split <;> assumption
    exact (hf.after ((dWhole_ok _).after hf.back)).mono (by decide)
theorem dListGo_ok {t u : M4} (ht : Dm 5 t) (hu : Dm 5 u) : ∀ (k : Nat) (f : List M4 × G.Src), (∀ m ∈ f.1, Dm 25 m) → (∀ m ∈ (dListGo t u k f).1, Dm 25 m) ∧ (dListGo t u k f).1.length = f.1.length + k
  | 0, f, h => ⟨h, rfl⟩
  | k + 1, f, h => by
    have := dListGo_ok ht hu k (f.1 ++ [(dOne t u f.2).1], (dOne t u f.2).2) (fun m hm => by
      rcases List.mem_append.mp hm with z | z
      · exact h m z
      · rw [List.mem_singleton.mp z]; exact dOne_ok ht hu _)
    rw [dListGo]
    refine ⟨this.1, this.2.trans ?_⟩
    rw [List.length_append]
    show f.1.length + 1 + k = _
    omega
theorem dList_ok (s : G.Src) : (∀ m ∈ (dList s).1, Dm 25 m) ∧ 1 ≤ (dList s).1.length ∧ (dList s).1.length ≤ 4 := by
  have r := pick_range (dGrid (dGrid s).2).2 (show (0 : Int) < 4 by decide)
  obtain ⟨h1, h2⟩ := dListGo_ok (dGrid_ok s) (dGrid_ok (dGrid s).2) (1 + (pick (dGrid (dGrid s).2).2 4).1).toNat ([], (pick (dGrid (dGrid s).2).2 4).2) (fun m hm => by cases hm)
  refine ⟨h1, ?_, ?_⟩
  · show 1 ≤ (dListGo _ _ _ _).1.length
    rw [h2]
    show 1 ≤ 0 + _
    omega
  · show (dListGo _ _ _ _).1.length ≤ 4
    rw [h2]
    show 0 + _ ≤ 4
    omega
theorem dLet_ok {n : Nat} (hn : 0 < n) (s : G.Src) : LetOk n (dLet n s).1 := by
  have r := pick_range s (show (0 : Int) < n by omega)
  have h2 : ([1, 0 - 1] : List Int).getD (pick (pick s n).2 2).1.toNat 0 ∈ ([1, 0 - 1] : List Int) := pk_mem _ (by decide) rfl
  have h3 : (dLet n s).1.2 = 1 ∨ (dLet n s).1.2 = -1 := by
    have e : (dLet n s).1.2 = ([1, 0 - 1] : List Int).getD (pick (pick s n).2 2).1.toNat 0 := rfl
    rw [e]
    simpa using h2
  exact ⟨r.1, r.2, h3⟩
theorem dWordGo_ok {n : Nat} (hn : 0 < n) : ∀ (k : Nat) (f : Wd × G.Src), (∀ l ∈ f.1, LetOk n l) → (∀ l ∈ (dWordGo n k f).1, LetOk n l) ∧ (dWordGo n k f).1.length = f.1.length + k
  | 0, f, h => ⟨h, rfl⟩
  | k + 1, f, h => by
    have := dWordGo_ok hn k (f.1 ++ [(dLet n f.2).1], (dLet n f.2).2) (fun m hm => by
      rcases List.mem_append.mp hm with z | z
      · exact h m z
      · rw [List.mem_singleton.mp z]; exact dLet_ok hn _)
    rw [dWordGo]
    refine ⟨this.1, this.2.trans ?_⟩
    rw [List.length_append]
    show f.1.length + 1 + k = _
    omega
theorem dWord_ok {n : Nat} (hn : 0 < n) (s : G.Src) : (∀ l ∈ (dWord n 3 s).1, LetOk n l) ∧ (dWord n 3 s).1.length ≤ 3 := by
  have r := pick_range s (show (0 : Int) < 3 + 1 by decide)
  obtain ⟨h1, h2⟩ := dWordGo_ok hn (pick s (3 + 1)).1.toNat ([], (pick s (3 + 1)).2) (fun m hm => by cases hm)
  refine ⟨h1, ?_⟩
  show (dWordGo _ _ _).1.length ≤ 3
  rw [h2]
  show 0 + _ ≤ 3
  omega
end Bm
namespace Bm
open PySem PySem.Spec PyProof.Rows L2 G
theorem atI_map {α : Type} (f : α → PyData) (l : List α) (x : α) {r m : Int} (h : 0 ≤ r ∧ r < m) (hm : m ≤ l.length) : atI (l.map f) r = some (f (l.getD r.toNat x)) := by
  have hr : r.toNat < l.length := by omega
  have e : r = (r.toNat : Int) := by omega
  conv => lhs; rw [e]
  rw [atI_nat, List.getElem?_map, List.getD_eq_getElem?_getD, List.getElem?_eq_getElem hr]; rfl
theorem atI_ints (l : List Int) {r m : Int} (h : 0 ≤ r ∧ r < m) (hm : m ≤ l.length) : atI (l.map PyData.int) r = some (.int (l.getD r.toNat 0)) := atI_map PyData.int l 0 h hm
theorem raw_move {m : M4} (h : RawOk m) : R_lmove [.int m.a, .int m.b, .int m.c, .int m.d] (eM (formM m)) := .mk m h.b (by decide) (first_ne h.s.ne)
inductive R_dprime : G.Src → List PyData → PyData → G.Src → Prop
  | mk (s : G.Src) : R_dprime s [] (.int ((dPrime s).1 : Nat)) (dPrime s).2
inductive R_dmove : G.Src → List PyData → PyData → G.Src → Prop
  | mk (s : G.Src) (p : Nat) (hp : P7 p) : R_dmove s [.int p] (eM (dMove p s).1) (dMove p s).2
inductive R_dword : G.Src → List PyData → PyData → G.Src → Prop
  | mk (s : G.Src) (n : Nat) (hn : 0 < n) (hl : n ≤ 100) : R_dword s [.int n, .int 3] (eW (dWord n 3 s).1) (dWord n 3 s).2
inductive R_dwhole : G.Src → List PyData → PyData → G.Src → Prop
  | mk (s : G.Src) : R_dwhole s [] (eM (dWhole s).1) (dWhole s).2
inductive R_dgrid : G.Src → List PyData → PyData → G.Src → Prop
  | mk (s : G.Src) : R_dgrid s [] (eM (dGrid s).1) (dGrid s).2
inductive R_dlist : G.Src → List PyData → PyData → G.Src → Prop
  | mk (s : G.Src) : R_dlist s [] (.list (eMs (dList s).1)) (dList s).2
theorem dm_after {j k : Nat} {m n : M4} (h : Dm j m) (g : Dm k n) (l : j + k ≤ 8800) : R_after [eM m, eM n] (eM (afterM m n)) := .mk m n h.b g.b l h.ne g.ne
theorem dm_back {k : Nat} {m : M4} (h : Dm k m) (l : k ≤ 8800) : R_back [eM m] (eM (backM m)) := .mk m h.b l h.ne
section
variable {P : Program} {w : World} {K : PySem.W.Frag} {mg : Str → Option Value} {base : Heap}
theorem sc_dprime : FnScope ["_law_source"] ["_law_source"] (defScope (top 77)) := ⟨rfl, rfl, rfl, by decide +kernel, rfl, by decide +kernel, by decide +kernel⟩
theorem ok_dprime (Bl : Bl mg) (h : Has K mg "_law_draw_prime" (top 77)) (Gp : Good P w K mg base 1 "_law_pick" ["_law_source", "_law_most"] (spS K R_pick)) : Good P w K mg base 2 "_law_draw_prime" ["_law_source"] (spS K R_dprime) := by
  obtain ⟨f, fd, F, hm⟩ := h.ex
  refine good_S (k := 1) F hm sc_dprime (F.bindsN fun _ _ _ _ _ _ us hl => match us, hl with | [_], _ => rfl) (fun s ds d s' h => by cases h <;> rfl) fun cdv A outer s H E s0 ds d s1 hr h => ?_
  cases h with
  | mk =>
    exact ⟨{ src := some (pick s0 5).2 }, rfl, dss_one (ds_ret (de_ixL (de_lst (da_cons de_int (da_cons de_int (da_cons de_int (da_cons de_int (da_cons de_int da_nil))))) (by show 5 ≤ 100000; decide)) (de_callS Gp (hr.mono (by decide)) rfl (pv 0) (da_cons de_int da_nil) rfl (R_pick.mk _ 5 (by show (5 : Nat) < 2 ^ 60; decide))) (atI_map (fun (p : Nat) => PyData.int (p : Int)) [2, 3, 2, 5, 7] 2 (pick_range _ (by decide)) (by decide))))⟩
theorem sc_dmove : FnScope ["_law_source", "_law_p", "_law_way", "_law_n", "_law_found", "_law_some", "_law_lap", "_law_is_one", "_law_pushed"] ["_law_source", "_law_p"] (defScope (top 78)) := ⟨rfl, rfl, rfl, by decide +kernel, rfl, by decide +kernel, by decide +kernel⟩
theorem ok_dmove (Bl : Bl mg) (h : Has K mg "_law_draw_move" (top 78)) (Gp : Good P w K mg base 1 "_law_pick" ["_law_source", "_law_most"] (spS K R_pick)) (Gm : Good P w K mg base 2 "_law_move" ["_law_a", "_law_b", "_law_c", "_law_d"] (spF K R_lmove)) (Ga : Good P w K mg base 3 "_law_after" ["_law_one", "_law_other"] (spF K R_after)) (Gb : Good P w K mg base 3 "_law_back" ["_law_m"] (spF K R_back)) (Gr : Good P w K mg base 1 "_law_raised" ["_law_p", "_law_n"] (spF K R_raised)) : Good P w K mg base 4 "_law_draw_move" ["_law_source", "_law_p"] (spS K R_dmove) := by
  obtain ⟨f, fd, F, hm⟩ := h.ex
  refine good_S (k := 3) F hm sc_dmove (F.bindsN fun _ _ _ _ _ _ us hl => match us, hl with | [_, _], _ => rfl) (fun s ds d s' h => by cases h <;> rfl) fun cdv A outer s H E s0 ds d s1 hr h => ?_
  cases h with
  | mk p hp =>
    have p7 : B 60 (p : Int) := hp.isP.b7.mono (by decide)
    have hb := dBase_ok hp (pick s0 6) (pick s0 6).2
    have rn := pick_range (pick s0 6).2 (show (0 : Int) < 9 by decide)
    have rw6 := pick_range s0 (show (0 : Int) < 6 by decide)
    have step1 : DS (cxOf CX0 P w K mg base ["_law_source", "_law_p", "_law_way", "_law_n", "_law_found", "_law_some", "_law_lap", "_law_is_one", "_law_pushed"] "_law_draw_move" (defScope (top 78)) f cdv A outer s H E).nox [.src, .dat (.int p), .dat (.int (pick s0 6).1), .dat (.int ((pick (pick s0 6).2 9).1 - 4)), .no, .no, .no, .no, .no] { src := some (pick (pick s0 6).2 9).2 } ((defBody (top 78)).getD 1 (.Pass ⟨0, 0, 0, 0⟩)) (.nx [.src, .dat (.int p), .dat (.int (pick s0 6).1), .dat (.int ((pick (pick s0 6).2 9).1 - 4)), .dat (eM (dBase p (pick s0 6) (pick (pick s0 6).2 9)).1), .no, .no, .no, .no] { src := some (dBase p (pick s0 6) (pick (pick s0 6).2 9)).2 }) := by
      generalize pick s0 6 = wy at *
      have en : pick wy.2 9 = pick wy.2 9 := rfl
      by_cases h0 : wy.1 = 0
      · have e : dBase p wy (pick wy.2 9) = (formM ⟨1, ((pick wy.2 9).1 - 4) * (([1, (p : Int)] : List Int).getD (pick (pick wy.2 9).2 2).1.toNat 0), 0, ([1, (p : Int), (p : Int) * p] : List Int).getD (pick (pick (pick wy.2 9).2 2).2 3).1.toNat 0⟩, (pick (pick (pick wy.2 9).2 2).2 3).2) := by unfold dBase; rw [if_pos h0]
        rw [e]
        have i2 := in2 hp (pick wy.2 9).2
        exact (ds_if (x := true) (dt_eq (dt_cmp op_eq (de_var 2 (pv 2) rfl) de_int rv_eqI (nomark _)) (decide_eq_true h0)) (fun _ => dss_one (ds_set (i := 4) sc_dmove.nd rfl (.inl rfl) (de_call Gm (hr.mono (by decide)) (da_cons de_int (da_cons (de_mul (de_var 3 (pv 3) rfl) (de_ixL (de_lst (da_cons de_int (da_cons (de_var 1 (pv 1) rfl) da_nil)) (by show 2 ≤ 100000; decide)) (de_callS Gp (hr.mono (by decide)) rfl (pv 0) (da_cons de_int da_nil) rfl (R_pick.mk _ 2 (by show (2 : Nat) < 2 ^ 60; decide))) (atI_ints [1, (p : Int)] (pick_range _ (by decide)) (by show (2 : Int) ≤ ((2 : Nat) : Int); decide))) (mulWB (j := 6) (k := 6) (by show _ < 64; omega) (by show _ < 64; omega) (by decide))) (da_cons de_int (da_cons (de_ixL (de_lst (da_cons de_int (da_cons (de_var 1 (pv 1) rfl) (da_cons (de_muls (de_var 1 (pv 1) rfl) (de_var 1 (pv 1) rfl) (.inr (by have := hp.isP.small; omega))) da_nil))) (by show 3 ≤ 100000; decide)) (de_callS Gp (hr.mono (by decide)) rfl (pv 0) (da_cons de_int da_nil) rfl (R_pick.mk _ 3 (by show (3 : Nat) < 2 ^ 60; decide))) (atI_ints [1, (p : Int), (p : Int) * p] (pick_range _ (by decide)) (by show (3 : Int) ≤ ((3 : Nat) : Int); decide))) da_nil)))) (raw_move (r0_ok rn (in2 hp _) (in3 hp _)))))) (fun z => by cases z))
      · by_cases h1 : wy.1 = 1
        · have e : dBase p wy (pick wy.2 9) = (formM ⟨(p : Int) ^ (pick (pick wy.2 9).2 3).1.toNat, 0, 0, ([1, 2, 3, 0 - 1] : List Int).getD (pick (pick (pick wy.2 9).2 3).2 4).1.toNat 0⟩, (pick (pick (pick wy.2 9).2 3).2 4).2) := by unfold dBase; rw [if_neg h0, if_pos h1]
          rw [e]
          have r3 := pick_range (pick wy.2 9).2 (show (0 : Int) < 3 by decide)
          exact (ds_if (x := false) (dt_eq (dt_cmp op_eq (de_var 2 (pv 2) rfl) de_int rv_eqI (nomark _)) (decide_eq_false h0)) (fun z => by cases z) (fun _ => dss_one (ds_if (x := true) (dt_eq (dt_cmp op_eq (de_var 2 (pv 2) rfl) de_int rv_eqI (nomark _)) (decide_eq_true h1)) (fun _ => dss_one (ds_set (i := 4) sc_dmove.nd rfl (.inl rfl) (de_call Gm (hr.mono (by decide)) (da_cons (de_call Gr (hr.mono (by decide)) (da_cons (de_var 1 (pv 1) rfl) (da_cons (de_callS Gp (hr.mono (by decide)) rfl (pv 0) (da_cons de_int da_nil) rfl (R_pick.mk _ 3 (by show (3 : Nat) < 2 ^ 60; decide))) da_nil)) (.mk _ _ p7 (by omega))) (da_cons de_int (da_cons de_int (da_cons (de_ixL (de_lst (da_cons de_int (da_cons de_int (da_cons de_int (da_cons (de_sub de_int de_int) da_nil)))) (by show 4 ≤ 100000; decide)) (de_callS Gp (hr.mono (by decide)) rfl (pv 0) (da_cons de_int da_nil) rfl (R_pick.mk _ 4 (by show (4 : Nat) < 2 ^ 60; decide))) (atI_ints [1, 2, 3, 0 - 1] (pick_range _ (by decide)) (by show (4 : Int) ≤ ((4 : Nat) : Int); decide))) da_nil)))) (raw_move (r1_ok (hp.pow (by omega)) (in4 _)))))) (fun z => by cases z))))
        · by_cases h2 : wy.1 = 2
          · have e : dBase p wy (pick wy.2 9) = (formM ⟨0, ([1, (p : Int), 0 - 1, 0 - (p : Int)] : List Int).getD (pick (pick wy.2 9).2 4).1.toNat 0, 1, (pick wy.2 9).1 - 4⟩, (pick (pick wy.2 9).2 4).2) := by unfold dBase; rw [if_neg h0, if_neg h1, if_pos h2]
            rw [e]
            exact (ds_if (x := false) (dt_eq (dt_cmp op_eq (de_var 2 (pv 2) rfl) de_int rv_eqI (nomark _)) (decide_eq_false h0)) (fun z => by cases z) (fun _ => dss_one (ds_if (x := false) (dt_eq (dt_cmp op_eq (de_var 2 (pv 2) rfl) de_int rv_eqI (nomark _)) (decide_eq_false h1)) (fun z => by cases z) (fun _ => dss_one (ds_if (x := true) (dt_eq (dt_cmp op_eq (de_var 2 (pv 2) rfl) de_int rv_eqI (nomark _)) (decide_eq_true h2)) (fun _ => dss_one (ds_set (i := 4) sc_dmove.nd rfl (.inl rfl) (de_call Gm (hr.mono (by decide)) (da_cons de_int (da_cons (de_ixL (de_lst (da_cons de_int (da_cons (de_var 1 (pv 1) rfl) (da_cons (de_sub de_int de_int) (da_cons (de_sub de_int (de_var 1 (pv 1) rfl)) da_nil)))) (by show 4 ≤ 100000; decide)) (de_callS Gp (hr.mono (by decide)) rfl (pv 0) (da_cons de_int da_nil) rfl (R_pick.mk _ 4 (by show (4 : Nat) < 2 ^ 60; decide))) (atI_ints [1, (p : Int), 0 - 1, 0 - (p : Int)] (pick_range _ (by decide)) (by show (4 : Int) ≤ ((4 : Nat) : Int); decide))) (da_cons de_int (da_cons (de_var 3 (pv 3) rfl) da_nil)))) (raw_move (r2_ok rn (in4p hp _)))))) (fun z => by cases z))))))
          · let st : Nat → G.Src := fun i => Nat.rec (pick wy.2 9).2 (fun _ q => (pick q 9).2) i
            have ra := pick_range (st 0) (show (0 : Int) < 9 by decide)
            have rb := pick_range (st 1) (show (0 : Int) < 9 by decide)
            have rc := pick_range (st 2) (show (0 : Int) < 9 by decide)
            have rd := pick_range (st 3) (show (0 : Int) < 9 by decide)
            have e : dBase p wy (pick wy.2 9) = (if ((pick (st 0) 9).1 - 4) * ((pick (st 3) 9).1 - 4) = ((pick (st 1) 9).1 - 4) * ((pick (st 2) 9).1 - 4) then formM ⟨1, (pick wy.2 9).1 - 4, 0, 1⟩ else formM ⟨(pick (st 0) 9).1 - 4, (pick (st 1) 9).1 - 4, (pick (st 2) 9).1 - 4, (pick (st 3) 9).1 - 4⟩, st 4) := by unfold dBase; rw [if_neg h0, if_neg h1, if_neg h2]; rfl
            rw [e]
            have sm : ∀ x : Int, 0 ≤ x ∧ x < 9 → B 6 (x - 4) := fun x hx => by show _ < 64; omega
            refine (ds_if (x := false) (dt_eq (dt_cmp op_eq (de_var 2 (pv 2) rfl) de_int rv_eqI (nomark _)) (decide_eq_false h0)) (fun z => by cases z) (fun _ => dss_one (ds_if (x := false) (dt_eq (dt_cmp op_eq (de_var 2 (pv 2) rfl) de_int rv_eqI (nomark _)) (decide_eq_false h1)) (fun z => by cases z) (fun _ => dss_one (ds_if (x := false) (dt_eq (dt_cmp op_eq (de_var 2 (pv 2) rfl) de_int rv_eqI (nomark _)) (decide_eq_false h2)) (fun z => by cases z) (fun _ => ?_))))))
            refine dss_cons (S1 := { src := some (st 4) }) (ρ1 := [.src, .dat (.int p), .dat (.int wy.1), .dat (.int ((pick wy.2 9).1 - 4)), .no, .dat (.list [.int ((pick (st 0) 9).1 - 4), .int ((pick (st 1) 9).1 - 4), .int ((pick (st 2) 9).1 - 4), .int ((pick (st 3) 9).1 - 4)]), .no, .no, .no]) (ds_setLcR1 (i := 5) (j := 6) (m := 4) (M := fun i => { src := some (st i) }) (t := fun _ => true) (v := fun i => .int ((pick (st i) 9).1 - 4)) rfl sc_dmove.nd rfl rfl (sw_true rfl rfl rfl rfl) Bl.range (da_cons de_int da_nil) (by decide) (blkOk_by (N := ["_law_source", "_law_p", "_law_way", "_law_n", "_law_found", "_law_some", "_law_lap", "_law_is_one", "_law_pushed"]) (sc := defScope (top 78)) (by decide +kernel)) (fun _ _ _ _ _ => pg_name (i := 6) sc_dmove.nd rfl (.inl rfl)) rfl
              (fun _ _ _ _ _ => pts_nil) tst_yes (fun _ _ => ⟨rfl, rfl⟩) (fun _ _ z => by cases z) (fun i hi _ _ _ _ _ _ => de_sub (de_callS Gp (hr.mono (by decide)) rfl (pv 0) (da_cons de_int da_nil) rfl (R_pick.mk _ 9 (by show (9 : Nat) < 2 ^ 60; decide))) de_int)) ?_
            refine dss_cons (S1 := { src := some (st 4) }) (ds_set (i := 7) (d := .bool (decide (((pick (st 0) 9).1 - 4) * ((pick (st 3) 9).1 - 4) = ((pick (st 1) 9).1 - 4) * ((pick (st 2) 9).1 - 4)))) sc_dmove.nd rfl (.inl rfl) (de_cmp op_eq (de_mul (de_ixL (de_var 5 (pv 5) rfl) de_int rfl) (de_ixL (de_var 5 (pv 5) rfl) de_int rfl) (mulWB (sm _ ra) (sm _ rd) (by decide))) (de_mul (de_ixL (de_var 5 (pv 5) rfl) de_int rfl) (de_ixL (de_var 5 (pv 5) rfl) de_int rfl) (mulWB (sm _ rb) (sm _ rc) (by decide))) rv_eqI (nomark _))) ?_
            refine dss_cons (S1 := { src := some (st 4) }) (ds_set (i := 4) (d := eM (if ((pick (st 0) 9).1 - 4) * ((pick (st 3) 9).1 - 4) = ((pick (st 1) 9).1 - 4) * ((pick (st 2) 9).1 - 4) then formM ⟨1, (pick wy.2 9).1 - 4, 0, 1⟩ else formM ⟨(pick (st 0) 9).1 - 4, (pick (st 1) 9).1 - 4, (pick (st 2) 9).1 - 4, (pick (st 3) 9).1 - 4⟩)) sc_dmove.nd rfl (.inl rfl) (de_if (S1 := { src := some (st 4) }) (dt_val (de_var 7 (pv 7) rfl)) (fun hx => ?_) (fun hx => ?_))) (dss_drop 5 (dss_drop 7 (dss_nx dss_nil rfl)))
            · rw [if_pos (of_decide_eq_true hx)]
              exact (de_call Gm (hr.mono (by decide)) (da_cons de_int (da_cons (de_var 3 (pv 3) rfl) (da_cons de_int (da_cons de_int da_nil)))) (raw_move (r3_ok rn)))
            · rw [if_neg (of_decide_eq_false hx)]
              exact (de_call Gm (hr.mono (by decide)) (da_cons (de_ixL (de_var 5 (pv 5) rfl) de_int rfl) (da_cons (de_ixL (de_var 5 (pv 5) rfl) de_int rfl) (da_cons (de_ixL (de_var 5 (pv 5) rfl) de_int rfl) (da_cons (de_ixL (de_var 5 (pv 5) rfl) de_int rfl) da_nil)))) (raw_move (r4_ok ra rb rc rd (of_decide_eq_false hx))))
    have hfin := dPush_ok hp hb
    generalize hB : dBase p (pick s0 6) (pick (pick s0 6).2 9) = bs at *
    have eM0 : dMove p s0 = dPush p bs := by unfold dMove; rw [hB]
    rw [eM0]
    refine ⟨{ src := some (dPush p bs).2 }, rfl, dss_cons (S1 := { src := some (pick (pick s0 6).2 9).2 }) (ds_par (i := 2) (j := 3) rfl sc_dmove.nd rfl rfl (by decide) rfl rfl (da_cons (de_callS Gp (hr.mono (by decide)) rfl (pv 0) (da_cons de_int da_nil) rfl (R_pick.mk _ 6 (by show (6 : Nat) < 2 ^ 60; decide))) (da_cons (de_sub (de_callS Gp (hr.mono (by decide)) rfl (pv 0) (da_cons de_int da_nil) rfl (R_pick.mk _ 9 (by show (9 : Nat) < 2 ^ 60; decide))) de_int) da_nil)) (by rfl)) (dss_cons step1 ?_)⟩
    by_cases h3 : (pick bs.2 3).1 = 0
    · have e : dPush p bs = (afterM (formM ⟨(p : Int) ^ (pick (pick bs.2 3).2 2).1.toNat, (pick (pick (pick bs.2 3).2 2).2 5).1 - 2, 0, 1⟩) (afterM bs.1 (backM (formM ⟨(p : Int) ^ (pick (pick bs.2 3).2 2).1.toNat, (pick (pick (pick bs.2 3).2 2).2 5).1 - 2, 0, 1⟩))), (pick (pick (pick bs.2 3).2 2).2 5).2) := by unfold dPush; rw [if_pos h3]
      rw [e]
      have r2 := pick_range (pick bs.2 3).2 (show (0 : Int) < 2 by decide)
      have raw := r5_ok (hp.pow (show (pick (pick bs.2 3).2 2).1.toNat ≤ 2 by omega)) (pick_range (pick (pick bs.2 3).2 2).2 (show (0 : Int) < 5 by decide))
      have dp := raw.dm
      refine dss_cons (S1 := { src := some (pick (pick (pick bs.2 3).2 2).2 5).2 }) (ρ1 := [.src, .dat (.int p), .dat (.int (pick s0 6).1), .dat (.int ((pick (pick s0 6).2 9).1 - 4)), .dat (eM (afterM (formM ⟨(p : Int) ^ (pick (pick bs.2 3).2 2).1.toNat, (pick (pick (pick bs.2 3).2 2).2 5).1 - 2, 0, 1⟩) (afterM bs.1 (backM (formM ⟨(p : Int) ^ (pick (pick bs.2 3).2 2).1.toNat, (pick (pick (pick bs.2 3).2 2).2 5).1 - 2, 0, 1⟩))))), .no, .no, .no, .dat (eM (formM ⟨(p : Int) ^ (pick (pick bs.2 3).2 2).1.toNat, (pick (pick (pick bs.2 3).2 2).2 5).1 - 2, 0, 1⟩))]) (ds_if (x := true) (dt_eq (dt_cmp op_eq (de_callS Gp (hr.mono (by decide)) rfl (pv 0) (da_cons de_int da_nil) rfl (R_pick.mk _ 3 (by show (3 : Nat) < 2 ^ 60; decide))) de_int rv_eqI (nomark _)) (decide_eq_true h3)) (fun _ => ?_) (fun z => by cases z)) (dss_one (ds_ret (de_var 4 (pv 4) rfl)))
      exact dss_cons (ds_set (i := 8) sc_dmove.nd rfl (.inl rfl) (de_call Gm (hr.mono (by decide)) (da_cons (de_call Gr (hr.mono (by decide)) (da_cons (de_var 1 (pv 1) rfl) (da_cons (de_callS Gp (hr.mono (by decide)) rfl (pv 0) (da_cons de_int da_nil) rfl (R_pick.mk _ 2 (by show (2 : Nat) < 2 ^ 60; decide))) da_nil)) (.mk _ _ p7 (by omega))) (da_cons (de_sub (de_callS Gp (hr.mono (by decide)) rfl (pv 0) (da_cons de_int da_nil) rfl (R_pick.mk _ 5 (by show (5 : Nat) < 2 ^ 60; decide))) de_int) (da_cons de_int (da_cons de_int da_nil)))) (raw_move raw)))
        (dss_cons (ds_set (i := 4) sc_dmove.nd rfl (.inl rfl) (de_call Ga (hr.mono (by decide)) (da_cons (de_var 8 (pv 8) rfl) (da_cons (de_call Ga (hr.mono (by decide)) (da_cons (de_var 4 (pv 4) rfl) (da_cons (de_call Gb (hr.mono (by decide)) (da_cons (de_var 8 (pv 8) rfl) da_nil) (dm_back dp (by decide))) da_nil)) (dm_after hb dp.back (by decide))) da_nil)) (dm_after dp (hb.after dp.back) (by decide)))) dss_nil)
    · have e : dPush p bs = (bs.1, (pick bs.2 3).2) := by unfold dPush; rw [if_neg h3]
      rw [e]
      exact dss_cons (S1 := { src := some (pick bs.2 3).2 }) (ds_if (x := false) (dt_eq (dt_cmp op_eq (de_callS Gp (hr.mono (by decide)) rfl (pv 0) (da_cons de_int da_nil) rfl (R_pick.mk _ 3 (by show (3 : Nat) < 2 ^ 60; decide))) de_int rv_eqI (nomark _)) (decide_eq_false h3)) (fun z => by cases z) (fun _ => dss_nil)) (dss_one (ds_ret (de_var 4 (pv 4) rfl)))
theorem sc_dword : FnScope ["_law_source", "_law_many", "_law_most", "_law_found", "_law_lap"] ["_law_source", "_law_many", "_law_most"] (defScope (top 80)) := ⟨rfl, rfl, rfl, by decide +kernel, rfl, by decide +kernel, by decide +kernel⟩
def wdGo (n : Nat) (s : G.Src) (i : Nat) : Wd × G.Src := dWordGo n i ([], (pick s 4).2)
theorem dWordGo_succ (n : Int) : ∀ (k : Nat) (f : Wd × G.Src), dWordGo n (k + 1) f = ((dWordGo n k f).1 ++ [(dLet n (dWordGo n k f).2).1], (dLet n (dWordGo n k f).2).2)
  | 0, f => rfl
  | k + 1, f => by
    rw [dWordGo, dWordGo_succ n k]; rfl
theorem wdGo_len (n : Nat) (s : G.Src) (i : Nat) : (wdGo n s i).1.length = i := by
  have : ∀ (k : Nat) (f : Wd × G.Src), (dWordGo n k f).1.length = f.1.length + k := by
    intro k
    induction k with
    | zero => intro f; rfl
    | succ k ih => intro f; rw [dWordGo, ih, List.length_append]; show f.1.length + 1 + k = _; omega
  rw [wdGo, this]; show 0 + i = i; omega
abbrev eLs (w : Wd) : List PyData := w.map fun l => .tuple [.int l.1, .int l.2]
theorem ok_dword (Bl : Bl mg) (h : Has K mg "_law_draw_word" (top 80)) (Gp : Good P w K mg base 1 "_law_pick" ["_law_source", "_law_most"] (spS K R_pick)) : Good P w K mg base 2 "_law_draw_word" ["_law_source", "_law_many", "_law_most"] (spS K R_dword) := by
  obtain ⟨f, fd, F, hm⟩ := h.ex
  refine good_S (k := 1) F hm sc_dword (F.bindsN fun _ _ _ _ _ _ us hl => match us, hl with | [_, _, _], _ => rfl) (fun s ds d s' h => by cases h <;> rfl) fun cdv A outer s H E s0 ds d s1 hr h => ?_
  cases h with
  | mk n hn hl =>
    have r4 := pick_range s0 (show (0 : Int) < 4 by decide)
    have hnB : B 60 (n : Int) := by show _ < 2 ^ 60; omega
    let R : Nat → Rho := fun _ => [.src, .dat (.int n), .dat (.int 3), .own, .no]
    refine ⟨{ src := some (dWord n 3 s0).2 }, rfl, dss_own (i := 3) (ds := []) sc_dword.nd rfl (.inl rfl) da_nil (by show 0 ≤ 100000; decide) rfl rfl
      (dss_forR1 (n := (pick s0 4).1) (S0 := { own := some [], src := some (pick s0 4).2 }) rfl PassesOwn.never Bl.range (da_cons (de_callS Gp (hr.mono (by decide)) rfl (pv 0) (da_cons (de_add (de_var 2 (pv 2) rfl) de_int) da_nil) rfl (R_pick.mk _ (3 + 1) (by show (4 : Nat) < 2 ^ 60; decide))) da_nil) (by omega) R (fun i => [.src, .dat (.int n), .dat (.int 3), .own, .dat (.int (0 + (i : Nat)))]) (fun i => { own := some (eLs (wdGo n s0 i).1), src := some (wdGo n s0 i).2 }) rfl rfl (fun i _ => dg_name (i := 4) sc_dword.nd rfl (.inl rfl)) (fun i hi => ?_) ?_)⟩
    · have e : wdGo n s0 (i + 1) = ((wdGo n s0 i).1 ++ [(dLet n (wdGo n s0 i).2).1], (dLet n (wdGo n s0 i).2).2) := dWordGo_succ n i _
      have ll : (eLs (wdGo n s0 i).1).length < 100000 := by rw [List.length_map, wdGo_len]; omega
      have e2 : eLs (wdGo n s0 (i + 1)).1 = eLs (wdGo n s0 i).1 ++ [.tuple [.int (dLet n (wdGo n s0 i).2).1.1, .int (dLet n (wdGo n s0 i).2).1.2]] := by rw [e, eLs, List.map_append]; rfl
      rw [e2, e]
      exact dss_cons (ds_app (i := 3) rfl (pv 3) rfl (de_tup (da_cons (de_callS Gp (hr.mono (by decide)) rfl (pv 0) (da_cons (de_var 1 (pv 1) rfl) da_nil) rfl (R_pick.mk _ n hnB)) (da_cons (de_ixL (de_lst (da_cons de_int (da_cons (de_sub de_int de_int) da_nil)) (by show 2 ≤ 100000; decide)) (de_callS Gp (hr.mono (by decide)) rfl (pv 0) (da_cons de_int da_nil) rfl (R_pick.mk _ 2 (by show (2 : Nat) < 2 ^ 60; decide))) (atI_ints [1, 0 - 1] (pick_range _ (by decide)) (by show (2 : Int) ≤ ((2 : Nat) : Int); decide))) da_nil)) (by show 2 ≤ 100000; decide)) ll) (dss_drop 4 (dss_nx dss_nil rfl))
    · refine dss_frz (i := 3) rfl rfl rfl (dss_one (ds_ret (de_ct call_tuple_of Bl.tuple (by decide +kernel) (da_cons (de_var 3 (pv 3) rfl) da_nil) rc_tupL)))
theorem sc_dwhole : FnScope ["_law_source", "_law_found", "_law_lap", "_law_n", "_law_some"] ["_law_source"] (defScope (top 91)) := ⟨rfl, rfl, rfl, by decide +kernel, rfl, by decide +kernel, by decide +kernel⟩
def whGo (s : G.Src) (i : Nat) : M4 × G.Src := dWholeGo i (idM, (pick s 4).2)
theorem dWholeGo_succ : ∀ (k : Nat) (f : M4 × G.Src), dWholeGo (k + 1) f = (afterM (dWholeGo k f).1 (dFac ((pick (dWholeGo k f).2 5).1 - 2) (pick (pick (dWholeGo k f).2 5).2 4).1.toNat), (pick (pick (dWholeGo k f).2 5).2 4).2)
  | 0, f => rfl
  | k + 1, f => by rw [dWholeGo, dWholeGo_succ k]; rfl
theorem ok_dwhole (Bl : Bl mg) (h : Has K mg "_law_draw_whole" (top 91)) (Gp : Good P w K mg base 1 "_law_pick" ["_law_source", "_law_most"] (spS K R_pick)) (Ga : Good P w K mg base 3 "_law_after" ["_law_one", "_law_other"] (spF K R_after)) : Good P w K mg base 4 "_law_draw_whole" ["_law_source"] (spS K R_dwhole) := by
  obtain ⟨f, fd, F, hm⟩ := h.ex
  refine good_S (k := 3) F hm sc_dwhole (F.bindsN fun _ _ _ _ _ _ us hl => match us, hl with | [_], _ => rfl) (fun s ds d s' h => by cases h <;> rfl) fun cdv A outer s H E s0 ds d s1 hr h => ?_
  cases h with
  | mk =>
    have r4 := pick_range s0 (show (0 : Int) < 4 by decide)
    let R : Nat → Rho := fun i => [.src, .dat (eM (whGo s0 i).1), .no, .no, .no]
    refine ⟨{ src := some (dWhole s0).2 }, rfl, dss_cons (S1 := { src := some s0 }) (ρ1 := [.src, .dat (eM idM), .no, .no, .no]) (ds_set (i := 1) (d := eM idM) sc_dwhole.nd rfl (.inl rfl) (de_tup (da_cons de_int (da_cons de_int (da_cons de_int (da_cons de_int da_nil)))) (by show 4 ≤ 100000; decide)))
      (dss_forR1 (n := 1 + (pick s0 4).1) (S0 := { src := some (pick s0 4).2 }) rfl PassesOwn.never Bl.range (da_cons (de_add de_int (de_callS Gp (hr.mono (by decide)) rfl (pv 0) (da_cons de_int da_nil) rfl (R_pick.mk _ 4 (by show (4 : Nat) < 2 ^ 60; decide)))) da_nil) (by omega) R (fun i => [.src, .dat (eM (whGo s0 i).1), .dat (.int (0 + (i : Nat))), .no, .no]) (fun i => { src := some (whGo s0 i).2 }) rfl rfl (fun i _ => dg_name (i := 2) sc_dwhole.nd rfl (.inl rfl)) (fun i hi => ?_) (dss_one (ds_ret (de_var 1 (pv 1) rfl))))⟩
    have r5 := pick_range (whGo s0 i).2 (show (0 : Int) < 5 by decide)
    have r44 := pick_range (pick (whGo s0 i).2 5).2 (show (0 : Int) < 4 by decide)
    have hd : Dm (1 + 3 * i) (whGo s0 i).1 := dWholeGo_ok i _ Dm.id
    have hf := (dFac_ok (n := (pick (whGo s0 i).2 5).1 - 2) (by omega) (by omega) (i := (pick (pick (whGo s0 i).2 5).2 4).1.toNat) (by omega)).1
    have e : whGo s0 (i + 1) = (afterM (whGo s0 i).1 (dFac ((pick (whGo s0 i).2 5).1 - 2) (pick (pick (whGo s0 i).2 5).2 4).1.toNat), (pick (pick (whGo s0 i).2 5).2 4).2) := dWholeGo_succ i _
    refine dss_cons (S1 := { src := some (pick (whGo s0 i).2 5).2 }) (ds_set (i := 3) sc_dwhole.nd rfl (.inl rfl) (de_sub (de_callS Gp (hr.mono (by decide)) rfl (pv 0) (da_cons de_int da_nil) rfl (R_pick.mk _ 5 (by show (5 : Nat) < 2 ^ 60; decide))) de_int))
      (dss_cons (S1 := { src := some (pick (whGo s0 i).2 5).2 }) (ds_set (i := 4) sc_dwhole.nd rfl (.inl rfl) (de_lst (da_cons (de_tup (da_cons de_int (da_cons (de_var 3 (pv 3) rfl) (da_cons de_int (da_cons de_int da_nil)))) (by show 4 ≤ 100000; decide)) (da_cons (de_tup (da_cons de_int (da_cons de_int (da_cons de_int (da_cons (de_var 3 (pv 3) rfl) da_nil)))) (by show 4 ≤ 100000; decide)) (da_cons (de_tup (da_cons de_int (da_cons de_int (da_cons de_int (da_cons (de_sub de_int de_int) da_nil)))) (by show 4 ≤ 100000; decide)) (da_cons (de_tup (da_cons de_int (da_cons (de_sub de_int de_int) (da_cons de_int (da_cons de_int da_nil)))) (by show 4 ≤ 100000; decide)) da_nil)))) (by show 4 ≤ 100000; decide)))
      (dss_cons (S1 := { src := some (whGo s0 (i + 1)).2 }) (ds_set (i := 1) (d := eM (whGo s0 (i + 1)).1) sc_dwhole.nd rfl (.inl rfl) ?_) (dss_drop 2 (dss_drop 3 (dss_drop 4 (dss_nx dss_nil rfl))))))
    rw [e]
    exact de_call Ga hr (da_cons (de_var 1 (pv 1) rfl) (da_cons (de_ixL (de_var 4 (pv 4) rfl) (de_callS Gp (hr.mono (by decide)) rfl (pv 0) (da_cons de_int da_nil) rfl (R_pick.mk _ 4 (by show (4 : Nat) < 2 ^ 60; decide))) (atI_map (fun m => eM m) [⟨1, (pick (whGo s0 i).2 5).1 - 2, 0, 1⟩, ⟨0, 1, 1, (pick (whGo s0 i).2 5).1 - 2⟩, ⟨1, 0, 0, 0 - 1⟩, ⟨1, 0 - 1, 1, 0⟩] idM r44 (by show (4 : Int) ≤ ((4 : Nat) : Int); decide))) da_nil)) (dm_after hd hf (by omega))
theorem sc_dgrid : FnScope ["_law_source", "_law_a", "_law_d", "_law_k"] ["_law_source"] (defScope (top 92)) := ⟨rfl, rfl, rfl, by decide +kernel, rfl, by decide +kernel, by decide +kernel⟩
theorem ok_dgrid (Bl : Bl mg) (h : Has K mg "_law_draw_grid" (top 92)) (Gp : Good P w K mg base 1 "_law_pick" ["_law_source", "_law_most"] (spS K R_pick)) (Gm : Good P w K mg base 2 "_law_move" ["_law_a", "_law_b", "_law_c", "_law_d"] (spF K R_lmove)) : Good P w K mg base 3 "_law_draw_grid" ["_law_source"] (spS K R_dgrid) := by
  obtain ⟨f, fd, F, hm⟩ := h.ex
  refine good_S (k := 2) F hm sc_dgrid (F.bindsN fun _ _ _ _ _ _ us hl => match us, hl with | [_], _ => rfl) (fun s ds d s' h => by cases h <;> rfl) fun cdv A outer s H E s0 ds d s1 hr h => ?_
  cases h with
  | mk =>
    let st : Nat → G.Src := fun i => Nat.rec s0 (fun _ q => (pick q 8).2) i
    have r1 := pick_range s0 (show (0 : Int) < 8 by decide)
    have r2 := pick_range (pick s0 8).2 (show (0 : Int) < 8 by decide)
    have r3 := pick_range (pick (pick (pick s0 8).2 8).2 3).2 (show (0 : Int) < 7 by decide)
    have g1 := gNum_mem (i := (pick s0 8).1.toNat) (by omega)
    have g2 := gNum_mem (i := (pick (pick s0 8).2 8).1.toNat) (by omega)
    refine ⟨{ src := some (dGrid s0).2 }, rfl, dss_cons (S1 := { src := some (pick (pick s0 8).2 8).2 }) (ρ1 := [.src, .dat (.int (gNum (pick s0 8).1.toNat)), .dat (.int (gNum (pick (pick s0 8).2 8).1.toNat)), .no]) (ds_asg (S1 := { src := some (pick (pick s0 8).2 8).2 }) (d := .list [.int (gNum (pick s0 8).1.toNat), .int (gNum (pick (pick s0 8).2 8).1.toNat)]) (de_lcR1 (m := 2) (M := fun i => { src := some (st i) }) (t := fun _ => true) (v := fun i => .int (gNum (pick (st i) 8).1.toNat)) rfl sc_dgrid.nd rfl Bl.range (da_cons de_int da_nil) (by decide) (blkOk_by (N := ["_law_source", "_law_a", "_law_d", "_law_k"]) (sc := defScope (top 92)) (by decide +kernel)) (fun _ _ _ _ _ => pg_name (i := 3) sc_dgrid.nd rfl (.inl rfl)) rfl (by decide)
       (fun _ _ _ _ _ => pts_nil) tst_yes (fun _ _ => ⟨rfl, rfl⟩) (fun _ _ z => by cases z) (fun i hi _ _ _ _ _ _ => (de_ixL (de_lst (da_cons de_int (da_cons de_int (da_cons de_int (da_cons de_int (da_cons de_int (da_cons de_int (da_cons de_int (da_cons de_int da_nil)))))))) (by show 8 ≤ 100000; decide)) (de_callS Gp (hr.mono (by decide)) rfl (pv 0) (da_cons de_int da_nil) rfl (R_pick.mk _ 8 (by show (8 : Nat) < 2 ^ 60; decide))) (atI_ints [1, 2, 3, 4, 6, 9, 5, 14] (pick_range _ (by decide)) (by show (8 : Int) ≤ ((8 : Nat) : Int); decide))))) (dg_lst rfl (dgs_cons (dg_name (i := 1) sc_dgrid.nd rfl (.inl rfl)) (dgs_cons (dg_name (i := 2) sc_dgrid.nd rfl (.inl rfl)) dgs_nil)))) ?_⟩
    unfold dGrid
    generalize gNum (pick s0 8).1.toNat = x at *
    generalize gNum (pick (pick s0 8).2 8).1.toNat = y at *
    by_cases h : (pick (pick (pick s0 8).2 8).2 3).1 > 0
    · rw [if_pos h]
      have hs : ∀ b, sizeM ⟨x, b, 0, y⟩ = x * y := fun b => by show x * y - b * 0 = x * y; omega
      refine dss_one (ds_ret (de_if (x := true) (dt_eq (dt_cmp op_gt (de_callS Gp (hr.mono (by decide)) rfl (pv 0) (da_cons de_int da_nil) rfl (R_pick.mk _ 3 (by show (3 : Nat) < 2 ^ 60; decide))) de_int rv_gt (nomark _)) (decide_eq_true h)) (fun _ => de_call Gm hr (da_cons (de_var 1 (pv 1) rfl) (da_cons (de_callS Gp (hr.mono (by decide)) rfl (pv 0) (da_cons de_int da_nil) rfl (R_pick.mk _ 7 (by show (7 : Nat) < 2 ^ 60; decide))) (da_cons de_int (da_cons (de_var 2 (pv 2) rfl) da_nil)))) (R_lmove.mk ⟨x, (pick (pick (pick (pick s0 8).2 8).2 3).2 7).1, 0, y⟩ (MB5 (by omega) (by omega) (by omega) (by omega)) (by decide) (first_ne (by rw [hs]; exact Int.mul_ne_zero (by omega) (by omega))))) (fun z => by cases z)))
    · rw [if_neg h]
      have hs : sizeM ⟨x, 1, x * 2, 2 + y⟩ = x * y := by show x * (2 + y) - 1 * (x * 2) = x * y; grind
      refine dss_one (ds_ret (de_if (x := false) (dt_eq (dt_cmp op_gt (de_callS Gp (hr.mono (by decide)) rfl (pv 0) (da_cons de_int da_nil) rfl (R_pick.mk _ 3 (by show (3 : Nat) < 2 ^ 60; decide))) de_int rv_gt (nomark _)) (decide_eq_false h)) (fun z => by cases z) (fun _ => de_call Gm hr (da_cons (de_var 1 (pv 1) rfl) (da_cons de_int (da_cons (de_mul (de_var 1 (pv 1) rfl) de_int (mulWB (j := 5) (k := 5) (by show _ < 32; omega) (by show (2 : Nat) < 32; decide) (by decide))) (da_cons (de_add de_int (de_var 2 (pv 2) rfl)) da_nil)))) (R_lmove.mk ⟨x, 1, x * 2, 2 + y⟩ (MB5 (by omega) (by omega) (by omega) (by omega)) (by decide) (first_ne (by rw [hs]; exact Int.mul_ne_zero (by omega) (by omega)))))))
theorem sc_dlist : FnScope ["_law_source", "_law_t", "_law_u", "_law_found", "_law_lap", "_law_way", "_law_far"] ["_law_source"] (defScope (top 93)) := ⟨rfl, rfl, rfl, by decide +kernel, rfl, by decide +kernel, by decide +kernel⟩
def lsGo (t u : M4) (c : G.Src) (i : Nat) : List M4 × G.Src := dListGo t u i ([], c)
theorem dListGo_succ (t u : M4) : ∀ (k : Nat) (f : List M4 × G.Src), dListGo t u (k + 1) f = ((dListGo t u k f).1 ++ [(dOne t u (dListGo t u k f).2).1], (dOne t u (dListGo t u k f).2).2)
  | 0, f => rfl
  | k + 1, f => by rw [dListGo, dListGo_succ t u k]; rfl
theorem ok_dlist (Bl : Bl mg) (h : Has K mg "_law_draw_list" (top 93)) (Gp : Good P w K mg base 1 "_law_pick" ["_law_source", "_law_most"] (spS K R_pick)) (Ga : Good P w K mg base 3 "_law_after" ["_law_one", "_law_other"] (spF K R_after)) (Gb : Good P w K mg base 3 "_law_back" ["_law_m"] (spF K R_back)) (Gd : Good P w K mg base 4 "_law_draw_move" ["_law_source", "_law_p"] (spS K R_dmove)) (Gi : Good P w K mg base 2 "_law_draw_prime" ["_law_source"] (spS K R_dprime)) (Gw : Good P w K mg base 4 "_law_draw_whole" ["_law_source"] (spS K R_dwhole)) (Gg : Good P w K mg base 3 "_law_draw_grid" ["_law_source"] (spS K R_dgrid)) : Good P w K mg base 5 "_law_draw_list" ["_law_source"] (spS K R_dlist) := by
  obtain ⟨f, fd, F, hm⟩ := h.ex
  refine good_S (k := 4) F hm sc_dlist (F.bindsN fun _ _ _ _ _ _ us hl => match us, hl with | [_], _ => rfl) (fun s ds d s' h => by cases h <;> rfl) fun cdv A outer s H E s0 ds d s1 hr h => ?_
  cases h with
  | mk =>
    have r4 := pick_range (dGrid (dGrid s0).2).2 (show (0 : Int) < 4 by decide)
    have ht := dGrid_ok s0
    have hu := dGrid_ok (dGrid s0).2
    have q1 := R_dgrid.mk s0
    have q2 := R_dgrid.mk (dGrid s0).2
    have q3 := R_pick.mk (dGrid (dGrid s0).2).2 4 (by show (4 : Nat) < 2 ^ 60; decide)
    have eres : dList s0 = lsGo (dGrid s0).1 (dGrid (dGrid s0).2).1 (pick (dGrid (dGrid s0).2).2 4).2 (1 + (pick (dGrid (dGrid s0).2).2 4).1).toNat := rfl
    rw [eres]
    generalize pick (dGrid (dGrid s0).2).2 4 = c at *
    generalize dGrid (dGrid s0).2 = b at *
    generalize dGrid s0 = a at *
    clear eres
    obtain ⟨t, sa⟩ := a
    obtain ⟨u, sb⟩ := b
    obtain ⟨cn, sc⟩ := c
    have lgo : ∀ i, (lsGo t u sc i).1.length = i := fun i => by
      have := (dListGo_ok ht hu i ([], sc) (fun m hm => by cases hm)).2
      rw [lsGo, this]; show 0 + i = i; omega
    have estep : ∀ i, lsGo t u sc (i + 1) = ((lsGo t u sc i).1 ++ [(dOne t u (lsGo t u sc i).2).1], (dOne t u (lsGo t u sc i).2).2) := fun i => dListGo_succ _ _ i _
    let R : Nat → Rho := fun i => [.src, .dat (eM t), .dat (eM u), .own, .no, .no, .no]
    refine ⟨{ src := some (lsGo t u sc (1 + cn).toNat).2 }, rfl, dss_par3own (i := 1) (j := 2) (l := 3) (S1 := { src := some sb }) (S2 := { src := some sa }) (da := eM t) (db := eM u) rfl sc_dlist.nd rfl rfl rfl (by decide) (by decide) (by decide) rfl rfl rfl rfl rfl (de_callS Gg (hr.mono (by decide)) rfl (pv 0) da_nil rfl q1) (de_callS Gg (hr.mono (by decide)) rfl (pv 0) da_nil rfl q2) (by rfl)
      (dss_forR1 (n := 1 + cn) (S0 := { own := some [], src := some sc }) rfl PassesOwn.never Bl.range (da_cons (de_add de_int (de_callS Gp (hr.mono (by decide)) rfl (pv 0) (da_cons de_int da_nil) rfl q3)) da_nil) (by omega) R (fun i => [.src, .dat (eM t), .dat (eM u), .own, .dat (.int (0 + (i : Nat))), .no, .no]) (fun i => { own := some (eMs (lsGo t u sc i).1), src := some (lsGo t u sc i).2 }) rfl rfl (fun i _ => dg_name (i := 4) sc_dlist.nd rfl (.inl rfl)) (fun i hi => ?_) ?_)⟩
    · have ll : (eMs (lsGo t u sc i).1).length < 100000 := by rw [List.length_map, lgo]; omega
      have e2 : eMs (lsGo t u sc (i + 1)).1 = eMs (lsGo t u sc i).1 ++ [eM (dOne t u (lsGo t u sc i).2).1] := by rw [estep, eMs, List.map_append]; rfl
      rw [e2, estep]
      generalize lsGo t u sc i = F at *
      refine dss_cons (S1 := { own := some (eMs F.1), src := some (pick F.2 8).2 }) (ds_set (i := 5) sc_dlist.nd rfl (.inl rfl) (de_callS Gp (hr.mono (by decide)) rfl (pv 0) (da_cons de_int da_nil) rfl (R_pick.mk _ 8 (by show (8 : Nat) < 2 ^ 60; decide)))) ?_
      by_cases h0 : (pick F.2 8).1 = 0
      · have e : dOne t u F.2 = dMove (dPrime (pick F.2 8).2).1 (dPrime (pick F.2 8).2).2 := by unfold dOne; rw [if_pos h0]
        rw [e]
        exact dss_cons (ds_if (x := true) (dt_eq (dt_cmp op_eq (de_var 5 (pv 5) rfl) de_int rv_eqI (nomark _)) (decide_eq_true h0)) (fun _ => dss_one (ds_app (i := 3) rfl (pv 3) rfl (de_callS Gd (hr.mono (by decide)) rfl (pv 0) (da_cons (de_callS Gi (hr.mono (by decide)) rfl (pv 0) da_nil rfl (R_dprime.mk _)) da_nil) rfl (R_dmove.mk _ _ (dPrime_P7 _))) ll)) (fun z => by cases z)) (dss_drop 4 (dss_drop 5 (dss_nx dss_nil rfl)))
      · have hf : Dm 5 (if (pick F.2 8).1 > 1 then t else u) := by split <;> assumption
        have e : dOne t u F.2 = (afterM (if (pick F.2 8).1 > 1 then t else u) (afterM (dWhole (pick F.2 8).2).1 (backM (if (pick F.2 8).1 > 1 then t else u))), (dWhole (pick F.2 8).2).2) := by unfold dOne; rw [if_neg h0]
        rw [e]
        have hw := dWhole_ok (pick F.2 8).2
        generalize hfar : (if (pick F.2 8).1 > 1 then t else u) = far at *
        refine dss_cons (S1 := { own := some (eMs F.1 ++ [eM (afterM far (afterM (dWhole (pick F.2 8).2).1 (backM far)))]), src := some (dWhole (pick F.2 8).2).2 }) (ρ1 := [.src, .dat (eM t), .dat (eM u), .own, .dat (.int (0 + (i : Nat))), .dat (.int (pick F.2 8).1), .dat (eM far)]) (ds_if (x := false) (dt_eq (dt_cmp op_eq (de_var 5 (pv 5) rfl) de_int rv_eqI (nomark _)) (decide_eq_false h0)) (fun z => by cases z) (fun _ =>
          dss_cons (S1 := { own := some (eMs F.1), src := some (pick F.2 8).2 }) (ds_set (i := 6) (d := eM far) sc_dlist.nd rfl (.inl rfl) (de_if (S1 := { own := some (eMs F.1), src := some (pick F.2 8).2 }) (dt_cmp op_gt (de_var 5 (pv 5) rfl) de_int rv_gt (nomark _)) (fun hx => ?_) (fun hx => ?_))) (dss_one (ds_app (i := 3) rfl (pv 3) rfl (de_call Ga (hr.mono (by decide)) (da_cons (de_var 6 (pv 6) rfl) (da_cons (de_call Ga (hr.mono (by decide)) (da_cons (de_callS Gw (hr.mono (by decide)) rfl (pv 0) da_nil rfl (R_dwhole.mk _)) (da_cons (de_call Gb (hr.mono (by decide)) (da_cons (de_var 6 (pv 6) rfl) da_nil) (dm_back hf (by decide))) da_nil)) (dm_after hw hf.back (by decide))) da_nil)) (dm_after hf (hw.after hf.back) (by decide))) ll)))) (dss_drop 4 (dss_drop 5 (dss_drop 6 (dss_nx dss_nil rfl))))
        · rw [if_pos (of_decide_eq_true hx)] at hfar; subst hfar; exact (de_var 1 (pv 1) rfl)
        · rw [if_neg (of_decide_eq_false hx)] at hfar; subst hfar; exact (de_var 2 (pv 2) rfl)
    · refine dss_frz (i := 3) rfl rfl rfl (dss_one (ds_ret (de_var 3 (pv 3) rfl)))
end
end Bm
namespace Bm
open PySem PySem.Spec PyProof.Rows L2 G
/-- the source is made of the script -/
def spO (K : PySem.W.Frag) : Sp := fun vs H Q _ => ∃ script Hi l, script.length ≤ 50000 ∧ Ex Hi H ∧ vs = [.ref l] ∧ SqL K Hi l (script.map V.int) ∧
  ∀ H' Hi' a', SStp {} { src := some (openC script) } ⟨0, 0, 0⟩ a' H H' Hi Hi' → Ok K Hi' a' [] H' [] { src := some (openC script) } → Q (.ref a'.p) H'
theorem start_scr {K : PySem.W.Frag} {Hi H : Hp} {a : Ad} {l : Addr} {ns : List Int} (e : Ex Hi H) (h : SqL K Hi l (ns.map V.int)) : Ok K Hi a (L2.start ["_law_script", "_law_mixed", "_law_cell", "_law_cells"] [.ref l]) H [.scr ns, .no, .no, .no] {} where
  ex := e
  len := rfl
  sl := fun i x z => by
    match i, z with
    | 0, z => cases z; exact ⟨l, rfl, h⟩
    | 1, z => cases z; trivial
    | 2, z => cases z; trivial
    | 3, z => cases z; trivial
    | i + 4, z => simp at z
  own := fun _ z => by cases z
  src := fun _ z => by cases z
  apart := fun _ z => by cases z
def mixP (script : List Int) (i : Nat) : Int := (script.take i).foldl (fun m c => (m * 69069 + c * 31 + 5) % 2147483629) 11
theorem mixP_succ {script : List Int} {i : Nat} (h : i < script.length) : mixP script (i + 1) = (mixP script i * 69069 + script.getD i 0 * 31 + 5) % 2147483629 := by
  unfold mixP
  rw [List.take_succ_eq_append_getElem h, List.foldl_append, List.getD_eq_getElem?_getD, List.getElem?_eq_getElem h]; rfl
theorem get_int {script : List Int} {i : Nat} {x : PyData} (h : (script.map PyData.int)[i]? = some x) : i < script.length ∧ x = .int (script.getD i 0) := by
  have hl : i < script.length := by
    rcases Nat.lt_or_ge i script.length with z | z
    · exact z
    · rw [List.getElem?_eq_none (by simpa using z)] at h; cases h
  rw [List.getElem?_map, List.getElem?_eq_getElem hl] at h
  refine ⟨hl, ?_⟩
  rw [List.getD_eq_getElem?_getD, List.getElem?_eq_getElem hl]
  cases h; rfl
theorem outs_abs (script : List Int) : outs (fun _ => true) (fun i => .int ((script.getD i 0).natAbs : Int)) script.length = (script.map fun c => (c.natAbs : Int)).map .int := by
  unfold outs
  rw [filter_true]
  refine List.ext_getElem (by simp) fun i h1 h2 => ?_
  have hi : i < script.length := by simpa using h1
  simp only [List.getElem_map, List.getElem_range, List.getD_eq_getElem?_getD, List.getElem?_eq_getElem hi, Option.getD_some]
section
variable {P : Program} {w : World} {K : PySem.W.Frag} {mg : Str → Option Value} {base : Heap}
theorem sc_open : FnScope ["_law_script", "_law_mixed", "_law_cell", "_law_cells"] ["_law_script"] (defScope (top 58)) := ⟨rfl, rfl, rfl, by decide +kernel, rfl, by decide +kernel, by decide +kernel⟩
theorem ok_open (Bl : Bl mg) (h : Has K mg "_law_open_cells" (top 58)) : Good P w K mg base 1 "_law_open_cells" ["_law_script"] (spO K) := by
  obtain ⟨f, fd, F, hm⟩ := h.ex
  refine ⟨f, fd, F.ok sc_open (fun vs H Q E ⟨script, Hi, l, _, _, r, _⟩ => by rw [r]; rfl) (fun cdv A outer s H vs Q E hr h => ?_), hm, F.kp, F.bindsN fun _ _ _ _ _ _ us hl => match us, hl with | [_], _ => rfl⟩
  obtain ⟨script, Hi, l, hl, e, r, sq, q⟩ := h
  subst r
  have B : DSs (cxOf CX0 P w K mg base ["_law_script", "_law_mixed", "_law_cell", "_law_cells"] "_law_open_cells" (defScope (top 58)) f cdv A outer s H E).nox [.scr script, .no, .no, .no] {} (defBody (top 58)) (.sr (openC script)) := by
    have ll : (script.map PyData.int).length = script.length := List.length_map ..
    refine dss_cons (S1 := {}) (ρ1 := [.scr script, .dat (.int (mixP script 0)), .no, .no]) (ds_set (i := 1) (d := .int 11) sc_open.nd rfl (.inl rfl) de_int)
      (dss_cons (ds_forScr (i := 0) (ns := script) rfl PassesOwn.never (pv 0) rfl (fun i => [.scr script, .dat (.int (mixP script i)), .no, .no]) (fun i => [.scr script, .dat (.int (mixP script i)), .dat (.int (script.getD i 0)), .no]) (fun _ => {}) rfl rfl (fun i x hx => ?_) (fun i hi => ?_)) ?_)
    · obtain ⟨_, rfl⟩ := get_int hx
      exact dg_name (i := 2) sc_open.nd rfl (.inl rfl)
    · refine dss_cons (S1 := {}) (ρ1 := [.scr script, .dat (.int (mixP script (i + 1))), .dat (.int (script.getD i 0)), .no]) (ds_set (i := 1) (d := .int (mixP script (i + 1))) sc_open.nd rfl (.inl rfl) (de_eq (de_mod (de_ct call_int1 Bl.int (by decide +kernel) (da_cons (de_add (de_add (de_muls (de_var 1 (pv 1) rfl) de_int (.inr (by decide))) (de_muls (de_var 2 (pv 2) rfl) de_int (.inr (by decide)))) de_int) da_nil) rc_int) de_int (by decide)) (by rw [fmod_pos (by decide), mixP_succ (by omega)]))) (dss_drop 2 (dss_nx dss_nil rfl))
    · have e1 : mixP script script.length = script.foldl (fun m c => (m * 69069 + c * 31 + 5) % 2147483629) 11 := by unfold mixP; rw [List.take_length]
      rw [e1]
      have hget : ∀ i, i < (script.map PyData.int).length → (script.map PyData.int).getD i .none = .int (script.getD i 0) := fun i hi => by
        have hi' : i < script.length := by omega
        rw [List.getD_eq_getElem?_getD, List.getD_eq_getElem?_getD, List.getElem?_map, List.getElem?_eq_getElem hi']; rfl
      refine dss_cons (S1 := {}) (ρ1 := [.scr script, .dat (.int (script.foldl (fun m c => (m * 69069 + c * 31 + 5) % 2147483629) 11)), .no, .dat (.list ((script.map fun c => (c.natAbs : Int)).map .int))]) (ds_nxeq (ds_setLcScr (ns := script) (ip := 0) (i := 3) (j := 2) (t := fun _ => true) (v := fun i => .int ((script.getD i 0).natAbs : Int)) rfl sc_open.nd rfl rfl (sw_true rfl rfl rfl rfl) (pv 0) rfl (blkOk_by (N := ["_law_script", "_law_mixed", "_law_cell", "_law_cells"]) (sc := defScope (top 58)) (by decide +kernel)) (fun _ _ _ _ _ => pg_name (i := 2) sc_open.nd rfl (.inl rfl)) rfl (by omega)
        (fun _ _ _ _ _ => pts_nil) tst_yes (fun i hi _ _ _ _ _ _ => de_cb call_abs Bl.abs (by decide +kernel) (da_cons (de_eq (de_var 2 (pv 2) rfl) (hget i hi)) da_nil) rc_abs)) (by rw [ll, outs_abs]; rfl)) ?_
      exact dss_one (ds_retSrc (cs := script.map fun c => (c.natAbs : Int)) (n := script.foldl (fun m c => (m * 69069 + c * 31 + 5) % 2147483629) 11) (l0 := 1) (t0 := 0) (de_var 3 (pv 3) rfl) de_int (de_var 1 (pv 1) rfl) de_int)
  refine ⟨_, PSs.nox B.ps, Hi, ⟨0, 0, 0⟩, start_scr e sq, fun σ' ρ' H' Hi' a' x ok' => q H' Hi' a' x ⟨ok'.ex, rfl, fun j y e => (by simp at e), ok'.own, ok'.src, ok'.apart⟩⟩
end
end Bm
namespace Bm
open PySem PySem.Spec PyProof.Rows L2 G
def askA (due : PyData) (t : M4) (w : Wd) (p : Nat) (wh : M4) : List PyData := [due, .tuple [.str "whole", eM t], .tuple [.str "whole", eM (afterM t wh)], .tuple [.str "bars", .int p, eW w]]
def askB : List PyData := [.tuple [.str "whole", .tuple [.int 2, .int 0, .int 0, .int 2]], .tuple [.str "whole", .tuple [.int 1, .int 0, .int 0, .bool true]], .tuple [.str "whole", .tuple [.int (0 - 1), .int 0, .int 0, .int 1]]]
def askC (w : Wd) (p : Nat) : PyData := .tuple [.str "bars", .int p, eW (w.take 1)]
def askD (t : M4) (w : Wd) (p : Nat) : List PyData := [.tuple [.str "whole", .list [.int t.a, .int t.b, .int t.c, .int t.d]], .tuple [.str "whole"], .tuple [.str "whole", eM t, .tuple []], .tuple [.str "bars", .int p], .tuple [.str "bars", .int 4, eW w], .tuple [.str "bars", .int 1, eW w]]
def askE (w : Wd) (p n : Nat) : List PyData := [.tuple [.str "bars", .int 101, eW w], .tuple [.str "bars", .int p, .tuple [.tuple [.int n, .int 1]]], .tuple [.str "bars", .int p, .tuple [.tuple [.int 0, .int 2]]], .tuple [.str "bars", .int p, .tuple [.tuple [.int 0, .bool true]]]]
def askF (t : M4) (w : Wd) (p : Nat) : List PyData := [.tuple [.str "bars", .int p, .list [.tuple [.int 0, .int 1]]], .tuple [.str "bars", .int p, .tuple [.list [.int 0, .int 1]]], .tuple [.str "bars", .bool true, eW w], .tuple [.str "Whole", eM t], .tuple [.none, eM t]]
def askG (p : Nat) : List PyData := [.none, .int 0, .str "whole", .list [], .dict [], .tuple [], .tuple [.str "bars", .int p, .tuple [.tuple [.int (0 - 1), .int 1]]], .tuple [.str "bars", .int p, .none], .tuple [.str "whole", .none]]
def askH (t : M4) (w : Wd) (p : Nat) : List PyData := [.tuple [.str "bars", .str "2", eW w], .tuple [.list [], eM t], .tuple [.str "whole", .tuple [.int 1, .int 2, .int 2, .int 4]], .tuple [.str "bars", .list [.int 2], eW w], .tuple [.str "bars", .int p, .str "ab"]]
def askL (due : PyData) (t : M4) (w : Wd) (p : Nat) (wh : M4) (n : Nat) : List PyData := ((((((askA due t w p wh ++ askB) ++ [askC w p]) ++ askD t w p) ++ askE w p n) ++ askF t w p) ++ askG p) ++ askH t w p
theorem askL_len (due : PyData) (t : M4) (w : Wd) (p : Nat) (wh : M4) (n : Nat) : (askL due t w p wh n).length = 37 := rfl
noncomputable def asked (ms : List M4) (s : G.Src) : PyData × G.Src :=
  ((askL (whD (wholeL ms)) (dGrid s).1 (dWord ms.length 3 (dGrid s).2).1 (dPrime (dWord ms.length 3 (dGrid s).2).2).1 (dWhole (dPrime (dWord ms.length 3 (dGrid s).2).2).2).1 ms.length).getD (pick (dWhole (dPrime (dWord ms.length 3 (dGrid s).2).2).2).2 37).1.toNat .none,
    (pick (dWhole (dPrime (dWord ms.length 3 (dGrid s).2).2).2).2 37).2)
inductive R_asked : G.Src → List PyData → PyData → G.Src → Prop
  | mk (s : G.Src) (ms : List M4) (hm : MsOk 25 ms) (h0 : 0 < ms.length) (hl : ms.length ≤ 100) (hs : ∀ p ∈ badL ms, ∀ s, nearL p ms = some s → SpotOk p s) : R_asked s [.list (eMs ms)] (asked ms s).1 (asked ms s).2
theorem cut1 (w : Wd) : PyData.tuple ((eLs w).take (HT.sIx (eLs w).length (eLs w).length (some 1))) = eW (w.take 1) := by
  show PyData.tuple _ = PyData.tuple (eLs (w.take 1))
  congr 1
  rw [eLs, ← List.map_take]
  cases w with
  | nil => rfl
  | cons l w =>
    have e : HT.sIx ((l :: w).map fun l : Int × Int => PyData.tuple [.int l.1, .int l.2]).length ((l :: w).map fun l : Int × Int => PyData.tuple [.int l.1, .int l.2]).length (some 1) = 1 := by
      rw [List.length_map, List.length_cons]
      show min (1 : Int).toNat (w.length + 1) = 1
      show min 1 (w.length + 1) = 1
      omega
    rw [e]
section
variable {P : Program} {w : World} {K : PySem.W.Frag} {mg : Str → Option Value} {base : Heap}
theorem sc_asked : FnScope ["_law_source", "_law_moves", "_law_due", "_law_many", "_law_t", "_law_word", "_law_p", "_law_some"] ["_law_source", "_law_moves"] (defScope (top 98)) := ⟨rfl, rfl, rfl, by decide +kernel, rfl, by decide +kernel, by decide +kernel⟩
theorem ok_asked (Bl : Bl mg) (h : Has K mg "_law_asked" (top 98)) (Gp : Good P w K mg base 1 "_law_pick" ["_law_source", "_law_most"] (spS K R_pick)) (Ga : Good P w K mg base 3 "_law_after" ["_law_one", "_law_other"] (spF K R_after)) (Gh : Good P w K mg base 7 "_law_whole" ["_law_moves"] (spF K R_lwhole)) (Gg : Good P w K mg base 3 "_law_draw_grid" ["_law_source"] (spS K R_dgrid)) (Gi : Good P w K mg base 2 "_law_draw_prime" ["_law_source"] (spS K R_dprime)) (Gw : Good P w K mg base 4 "_law_draw_whole" ["_law_source"] (spS K R_dwhole)) (Gd : Good P w K mg base 2 "_law_draw_word" ["_law_source", "_law_many", "_law_most"] (spS K R_dword)) : Good P w K mg base 8 "_law_asked" ["_law_source", "_law_moves"] (spS K R_asked) := by
  obtain ⟨f, fd, F, hm⟩ := h.ex
  refine good_S (k := 7) F hm sc_asked (F.bindsN fun _ _ _ _ _ _ us hl => match us, hl with | [_, _], _ => rfl) (fun s ds d s' h => by cases h <;> rfl) fun cdv A outer s H E s0 ds d s1 hr h => ?_
  cases h with
  | mk ms hm h0 hl hs =>
    have ht := dGrid_ok s0
    have q1 := R_dgrid.mk s0
    have q2 := R_dword.mk (dGrid s0).2 ms.length h0 hl
    have q3 := R_dprime.mk (dWord ms.length 3 (dGrid s0).2).2
    have q4 := R_dwhole.mk (dPrime (dWord ms.length 3 (dGrid s0).2).2).2
    have hwh := dWhole_ok (dPrime (dWord ms.length 3 (dGrid s0).2).2).2
    have r37 := pick_range (dWhole (dPrime (dWord ms.length 3 (dGrid s0).2).2).2).2 (show (0 : Int) < 37 by decide)
    have q5 := R_pick.mk (dWhole (dPrime (dWord ms.length 3 (dGrid s0).2).2).2).2 37 (by show (37 : Nat) < 2 ^ 60; decide)
    have q6 := R_lwhole.mk ms hm hl hs
    unfold asked
    generalize pick (dWhole (dPrime (dWord ms.length 3 (dGrid s0).2).2).2).2 37 = pk at *
    generalize dWhole (dPrime (dWord ms.length 3 (dGrid s0).2).2).2 = wh at *
    generalize dPrime (dWord ms.length 3 (dGrid s0).2).2 = pr at *
    generalize dWord ms.length 3 (dGrid s0).2 = wd at *
    generalize dGrid s0 = gr at *
    generalize whD (wholeL ms) = due at *
    obtain ⟨t, s1⟩ := gr
    obtain ⟨wd, s2⟩ := wd
    obtain ⟨p, s3⟩ := pr
    obtain ⟨wh, s4⟩ := wh
    obtain ⟨pk, s5⟩ := pk
    let R : List PyData → Rho := fun l => [.src, .dat (.list (eMs ms)), .dat due, .dat (.int (ms.length : Nat)), .dat (eM t), .dat (eW wd), .dat (.int (p : Nat)), .dat (.list l)]
    refine ⟨{ src := some s5 }, rfl, dss_cons (S1 := { src := some s1 }) (ds_par3 (S1 := { src := some s1 }) (i := 2) (j := 3) (l := 4) rfl sc_asked.nd rfl rfl rfl (by decide) (by decide) (by decide) rfl rfl rfl (da_cons (de_call Gh hr (da_cons (de_var 1 (pv 1) rfl) da_nil) q6) (da_cons (de_cb call_len_seq Bl.len (by decide +kernel) (da_cons (de_var 1 (pv 1) rfl) da_nil) (rc_lenM (.inl rfl))) (da_cons (de_callS Gg (hr.mono (by decide)) rfl (pv 0) da_nil rfl q1) da_nil))) (by rfl))
     (dss_cons (S1 := { src := some s3 }) (ds_par (S1 := { src := some s3 }) (i := 5) (j := 6) rfl sc_asked.nd rfl rfl (by decide) rfl rfl (da_cons (de_callS Gd (hr.mono (by decide)) rfl (pv 0) (da_cons (de_var 3 (pv 3) rfl) (da_cons de_int da_nil)) rfl q2) (da_cons (de_callS Gi (hr.mono (by decide)) rfl (pv 0) da_nil rfl q3) da_nil)) (by rfl))
     (dss_cons (S1 := { src := some s4 }) (ρ1 := R (askA due t wd p wh)) (ds_set (i := 7) (d := .list (askA due t wd p wh)) sc_asked.nd rfl (.inl rfl) (de_lst (da_cons (de_var 2 (pv 2) rfl) (da_cons (de_tup (da_cons de_str (da_cons (de_var 4 (pv 4) rfl) da_nil)) (by show 2 ≤ 100000; decide)) (da_cons (de_tup (da_cons de_str (da_cons (de_call Ga (hr.mono (by decide)) (da_cons (de_var 4 (pv 4) rfl) (da_cons (de_callS Gw (hr.mono (by decide)) rfl (pv 0) da_nil rfl q4) da_nil)) (dm_after ht hwh (by decide))) da_nil)) (by show 2 ≤ 100000; decide)) (da_cons (de_tup (da_cons de_str (da_cons (de_var 6 (pv 6) rfl) (da_cons (de_var 5 (pv 5) rfl) da_nil))) (by show 3 ≤ 100000; decide)) da_nil)))) (by show 4 ≤ 100000; decide)))
     (dss_ownCat (i := 7) (ds := askA due t wd p wh) (es := askB) sc_asked.nd rfl (.inl rfl) (de_var 7 (pv 7) rfl) (de_lst (da_cons (de_tup (da_cons de_str (da_cons (de_tup (da_cons de_int (da_cons de_int (da_cons de_int (da_cons de_int da_nil)))) (by show 4 ≤ 100000; decide)) da_nil)) (by show 2 ≤ 100000; decide)) (da_cons (de_tup (da_cons de_str (da_cons (de_tup (da_cons de_int (da_cons de_int (da_cons de_int (da_cons de_bl da_nil)))) (by show 4 ≤ 100000; decide)) da_nil)) (by show 2 ≤ 100000; decide)) (da_cons (de_tup (da_cons de_str (da_cons (de_tup (da_cons (de_sub de_int de_int) (da_cons de_int (da_cons de_int (da_cons de_int da_nil)))) (by show 4 ≤ 100000; decide)) da_nil)) (by show 2 ≤ 100000; decide)) da_nil))) (by show 3 ≤ 100000; decide)) (by show 4 + 3 ≤ 100000; decide) rfl rfl
     (dss_cons (ds_app (i := 7) (ds := askA due t wd p wh ++ askB) (d := askC wd p) (S1 := { own := some (askA due t wd p wh ++ askB), src := some s4 }) rfl (pv 7) rfl (de_tup (da_cons de_str (da_cons (de_var 6 (pv 6) rfl) (da_cons (de_eq (de_cutT (de_var 5 (pv 5) rfl) de_int) (cut1 _)) da_nil))) (by show 3 ≤ 100000; decide)) (by show 7 < 100000; decide))
     (dss_frz (i := 7) rfl rfl rfl
     (dss_eqR (ρ' := R ((askA due t wd p wh ++ askB) ++ [askC wd p])) rfl
     (dss_cons (S1 := { src := some s4 }) (ρ1 := R (((askA due t wd p wh ++ askB) ++ [askC wd p]) ++ askD t wd p)) (ds_set (i := 7) sc_asked.nd rfl (.inl rfl) (de_cat (ds := (askA due t wd p wh ++ askB) ++ [askC wd p]) (es := askD t wd p) (de_var 7 (pv 7) rfl) (de_lst (da_cons (de_tup (da_cons de_str (da_cons (de_ct call_list_of Bl.list (by decide +kernel) (da_cons (de_var 4 (pv 4) rfl) da_nil) rc_listT) da_nil)) (by show 2 ≤ 100000; decide)) (da_cons (de_tup (da_cons de_str da_nil) (by show 1 ≤ 100000; decide)) (da_cons (de_tup (da_cons de_str (da_cons (de_var 4 (pv 4) rfl) (da_cons (de_tup da_nil (by show 0 ≤ 100000; decide)) da_nil))) (by show 3 ≤ 100000; decide)) (da_cons (de_tup (da_cons de_str (da_cons (de_var 6 (pv 6) rfl) da_nil)) (by show 2 ≤ 100000; decide)) (da_cons (de_tup (da_cons de_str (da_cons de_int (da_cons (de_var 5 (pv 5) rfl) da_nil))) (by show 3 ≤ 100000; decide)) (da_cons (de_tup (da_cons de_str (da_cons de_int (da_cons (de_var 5 (pv 5) rfl) da_nil))) (by show 3 ≤ 100000; decide)) da_nil)))))) (by show 6 ≤ 100000; decide)) (by show 8 + 6 ≤ 100000; decide)))
     (dss_cons (S1 := { src := some s4 }) (ρ1 := R ((((askA due t wd p wh ++ askB) ++ [askC wd p]) ++ askD t wd p) ++ askE wd p ms.length)) (ds_set (i := 7) sc_asked.nd rfl (.inl rfl) (de_cat (ds := ((askA due t wd p wh ++ askB) ++ [askC wd p]) ++ askD t wd p) (es := askE wd p ms.length) (de_var 7 (pv 7) rfl) (de_lst (da_cons (de_tup (da_cons de_str (da_cons de_int (da_cons (de_var 5 (pv 5) rfl) da_nil))) (by show 3 ≤ 100000; decide)) (da_cons (de_tup (da_cons de_str (da_cons (de_var 6 (pv 6) rfl) (da_cons (de_tup (da_cons (de_tup (da_cons (de_var 3 (pv 3) rfl) (da_cons de_int da_nil)) (by show 2 ≤ 100000; decide)) da_nil) (by show 1 ≤ 100000; decide)) da_nil))) (by show 3 ≤ 100000; decide)) (da_cons (de_tup (da_cons de_str (da_cons (de_var 6 (pv 6) rfl) (da_cons (de_tup (da_cons (de_tup (da_cons de_int (da_cons de_int da_nil)) (by show 2 ≤ 100000; decide)) da_nil) (by show 1 ≤ 100000; decide)) da_nil))) (by show 3 ≤ 100000; decide)) (da_cons (de_tup (da_cons de_str (da_cons (de_var 6 (pv 6) rfl) (da_cons (de_tup (da_cons (de_tup (da_cons de_int (da_cons de_bl da_nil)) (by show 2 ≤ 100000; decide)) da_nil) (by show 1 ≤ 100000; decide)) da_nil))) (by show 3 ≤ 100000; decide)) da_nil)))) (by show 4 ≤ 100000; decide)) (by show 14 + 4 ≤ 100000; decide)))
     (dss_cons (S1 := { src := some s4 }) (ρ1 := R (((((askA due t wd p wh ++ askB) ++ [askC wd p]) ++ askD t wd p) ++ askE wd p ms.length) ++ askF t wd p)) (ds_set (i := 7) sc_asked.nd rfl (.inl rfl) (de_cat (ds := (((askA due t wd p wh ++ askB) ++ [askC wd p]) ++ askD t wd p) ++ askE wd p ms.length) (es := askF t wd p) (de_var 7 (pv 7) rfl) (de_lst (da_cons (de_tup (da_cons de_str (da_cons (de_var 6 (pv 6) rfl) (da_cons (de_lst (da_cons (de_tup (da_cons de_int (da_cons de_int da_nil)) (by show 2 ≤ 100000; decide)) da_nil) (by show 1 ≤ 100000; decide)) da_nil))) (by show 3 ≤ 100000; decide)) (da_cons (de_tup (da_cons de_str (da_cons (de_var 6 (pv 6) rfl) (da_cons (de_tup (da_cons (de_lst (da_cons de_int (da_cons de_int da_nil)) (by show 2 ≤ 100000; decide)) da_nil) (by show 1 ≤ 100000; decide)) da_nil))) (by show 3 ≤ 100000; decide)) (da_cons (de_tup (da_cons de_str (da_cons de_bl (da_cons (de_var 5 (pv 5) rfl) da_nil))) (by show 3 ≤ 100000; decide)) (da_cons (de_tup (da_cons de_str (da_cons (de_var 4 (pv 4) rfl) da_nil)) (by show 2 ≤ 100000; decide)) (da_cons (de_tup (da_cons de_non (da_cons (de_var 4 (pv 4) rfl) da_nil)) (by show 2 ≤ 100000; decide)) da_nil))))) (by show 5 ≤ 100000; decide)) (by show 18 + 5 ≤ 100000; decide)))
     (dss_cons (S1 := { src := some s4 }) (ρ1 := R ((((((askA due t wd p wh ++ askB) ++ [askC wd p]) ++ askD t wd p) ++ askE wd p ms.length) ++ askF t wd p) ++ askG p)) (ds_set (i := 7) sc_asked.nd rfl (.inl rfl) (de_cat (ds := ((((askA due t wd p wh ++ askB) ++ [askC wd p]) ++ askD t wd p) ++ askE wd p ms.length) ++ askF t wd p) (es := askG p) (de_var 7 (pv 7) rfl) (de_lst (da_cons de_non (da_cons de_int (da_cons de_str (da_cons (de_lst da_nil (by show 0 ≤ 100000; decide)) (da_cons de_emp (da_cons (de_tup da_nil (by show 0 ≤ 100000; decide)) (da_cons (de_tup (da_cons de_str (da_cons (de_var 6 (pv 6) rfl) (da_cons (de_tup (da_cons (de_tup (da_cons (de_sub de_int de_int) (da_cons de_int da_nil)) (by show 2 ≤ 100000; decide)) da_nil) (by show 1 ≤ 100000; decide)) da_nil))) (by show 3 ≤ 100000; decide)) (da_cons (de_tup (da_cons de_str (da_cons (de_var 6 (pv 6) rfl) (da_cons de_non da_nil))) (by show 3 ≤ 100000; decide)) (da_cons (de_tup (da_cons de_str (da_cons de_non da_nil)) (by show 2 ≤ 100000; decide)) da_nil))))))))) (by show 9 ≤ 100000; decide)) (by show 23 + 9 ≤ 100000; decide)))
     (dss_cons (S1 := { src := some s4 }) (ρ1 := R (askL due t wd p wh ms.length)) (ds_set (i := 7) sc_asked.nd rfl (.inl rfl) (de_cat (ds := (((((askA due t wd p wh ++ askB) ++ [askC wd p]) ++ askD t wd p) ++ askE wd p ms.length) ++ askF t wd p) ++ askG p) (es := askH t wd p) (de_var 7 (pv 7) rfl) (de_lst (da_cons (de_tup (da_cons de_str (da_cons de_str (da_cons (de_var 5 (pv 5) rfl) da_nil))) (by show 3 ≤ 100000; decide)) (da_cons (de_tup (da_cons (de_lst da_nil (by show 0 ≤ 100000; decide)) (da_cons (de_var 4 (pv 4) rfl) da_nil)) (by show 2 ≤ 100000; decide)) (da_cons (de_tup (da_cons de_str (da_cons (de_tup (da_cons de_int (da_cons de_int (da_cons de_int (da_cons de_int da_nil)))) (by show 4 ≤ 100000; decide)) da_nil)) (by show 2 ≤ 100000; decide)) (da_cons (de_tup (da_cons de_str (da_cons (de_lst (da_cons de_int da_nil) (by show 1 ≤ 100000; decide)) (da_cons (de_var 5 (pv 5) rfl) da_nil))) (by show 3 ≤ 100000; decide)) (da_cons (de_tup (da_cons de_str (da_cons (de_var 6 (pv 6) rfl) (da_cons de_str da_nil))) (by show 3 ≤ 100000; decide)) da_nil))))) (by show 5 ≤ 100000; decide)) (by show 32 + 5 ≤ 100000; decide)))
     (dss_one (ds_ret (de_ixL (ds := askL due t wd p wh ms.length) (i := pk) (S1 := { src := some s4 }) (de_var 7 (pv 7) rfl) (de_callS Gp (hr.mono (by decide)) rfl (pv 0) (da_cons (de_eq (d := .int 37) (de_cb call_len_seq Bl.len (by decide +kernel) (da_cons (de_var 7 (pv 7) rfl) da_nil) (rc_len (.inl rfl))) rfl) da_nil) rfl q5) ?_))))))))))))))⟩
    have e : pk = (pk.toNat : Int) := by omega
    conv => lhs; rw [e]
    rw [atI_nat, List.getD_eq_getElem?_getD, List.getElem?_eq_getElem (show pk.toNat < (askL due t wd p wh ms.length).length by rw [askL_len]; omega)]; rfl
end
end Bm
namespace Bm
section
variable {p : Nat}
/-! ### the grid stands right at each of its primes -/
theorem vI_pow_self (hp : IsP p) (k : Nat) : vI p ((p : Int) ^ k) = k := by
  unfold vI
  rw [natAbs_ppow, ← Nat.mul_one (p ^ k)]
  exact vN_of hp.two (fun z => by have := Nat.le_of_dvd (by omega) z; have := hp.two; omega)
theorem vI_pow_other {q : Nat} (hp : IsP p) (hq : IsP q) (h : p ≠ q) (k : Nat) : vI p ((q : Int) ^ k) = 0 := v0 (fun z => h (prime_pow_dvd hp hq z))
theorem fst_ne {ps : List (Nat × Bq)} (g : GridOk ps) {i j : Nat} (hi : i < ps.length) (hj : j < ps.length) (h : i ≠ j) : (ps[i]).1 ≠ (ps[j]).1 := by
  have := List.nodup_iff_pairwise_ne.mp g.nd
  rw [List.pairwise_iff_getElem] at this
  rcases Nat.lt_or_gt_of_ne h with w | w
  · have q := this i j (by simpa using hi) (by simpa using hj) w
    rwa [List.getElem_map, List.getElem_map] at q
  · have q := this j i (by simpa using hj) (by simpa using hi) w
    rw [List.getElem_map, List.getElem_map] at q
    exact fun e => q e.symm
theorem high_v {ps : List (Nat × Bq)} (g : GridOk ps) {i : Nat} (hi : i < ps.length) : ∀ {j : Nat}, j ≤ ps.length → vI (ps[i]).1 (gridP ps j).2 = if i < j then ((ps[i]).2.n + (lowE (ps[i]).1 (ps[i]).2 : Int)).toNat else 0
  | 0, _ => by
    have e : gridP ps 0 = (0, 1) := by unfold gridP; rw [List.take_zero]; rfl
    rw [e, if_neg (by omega)]
    show vN _ 1 = 0
    exact vN_one _
  | j + 1, hj => by
    have hs := g.ok _ (List.getElem_mem hi)
    have hjl : j < ps.length := by omega
    have ht := g.ok _ (List.getElem_mem hjl)
    have e2 : (gridP ps (j + 1)).2 = (gridP ps j).2 * highL (ps[j]).1 (ps[j]).2 := by rw [gridP_succ hjl]; rfl
    have p0 := (gridI g (show j ≤ ps.length by omega)).pos
    rw [e2, high_pow ht, vI_mul hs.pr (by omega) (by have := ppow_pos ht.pr ((ps[j]).2.n + (lowE (ps[j]).1 (ps[j]).2 : Int)).toNat; omega), high_v g hi (j := j) (by omega)]
    by_cases e : i = j
    · subst e
      rw [vI_pow_self hs.pr, if_neg (by omega), if_pos (by omega)]; omega
    · rw [vI_pow_other hs.pr ht.pr (fst_ne g hi hjl e)]
      split
      · rw [if_pos (by omega)]; omega
      · rw [if_neg (by omega)]
theorem below_v {ps : List (Nat × Bq)} (g : GridOk ps) {i : Nat} (hi : i < ps.length) : ∀ {j : Nat}, j ≤ ps.length → vI (ps[i]).1 (belowP ps j) = if i < j then lowE (ps[i]).1 (ps[i]).2 else 0
  | 0, _ => by
    unfold belowP
    rw [List.take_zero, if_neg (by omega)]
    show vN _ 1 = 0
    exact vN_one _
  | j + 1, hj => by
    have hs := g.ok _ (List.getElem_mem hi)
    have hjl : j < ps.length := by omega
    have ht := g.ok _ (List.getElem_mem hjl)
    have p0 := (belowP_ok g (show j ≤ ps.length by omega)).2
    rw [belowP_succ hjl, least_pow ht, vI_mul hs.pr (by omega) (by have := ppow_pos ht.pr (lowE (ps[j]).1 (ps[j]).2); omega), below_v g hi (j := j) (by omega)]
    by_cases e : i = j
    · subst e
      rw [vI_pow_self hs.pr, if_neg (by omega), if_pos (by omega)]; omega
    · rw [vI_pow_other hs.pr ht.pr (fst_ne g hi hjl e)]
      split
      · rw [if_pos (by omega)]; omega
      · rw [if_neg (by omega)]
theorem high_dvd {ps : List (Nat × Bq)} {i : Nat} (hi : i < ps.length) : ∀ {j : Nat}, i < j → j ≤ ps.length → highL (ps[i]).1 (ps[i]).2 ∣ (gridP ps j).2
  | 0, h, _ => by omega
  | j + 1, h, hj => by
    have hjl : j < ps.length := by omega
    have e2 : (gridP ps (j + 1)).2 = (gridP ps j).2 * highL (ps[j]).1 (ps[j]).2 := by rw [gridP_succ hjl]; rfl
    rw [e2]
    by_cases e : i = j
    · subst e; exact Int.dvd_mul_left _ _
    · exact Int.dvd_trans (high_dvd hi (by omega) (by omega)) (Int.dvd_mul_right _ _)
/-- the number found is near what each prime asks for -/
theorem found_near {ps : List (Nat × Bq)} (g : GridOk ps) {i : Nat} (hi : i < ps.length) : ∀ {j : Nat}, i < j → j ≤ ps.length → highL (ps[i]).1 (ps[i]).2 ∣ (gridP ps j).1 - (ps[i]).2.q.num * (belowL ps / ((ps[i]).2.q.den : Int))
  | 0, h, _ => by omega
  | j + 1, h, hj => by
    have hjl : j < ps.length := by omega
    have e1 : (gridP ps (j + 1)).1 = (gridP ps j).1 + (gridP ps j).2 * ((((ps[j]).2.q.num * (belowL ps / ((ps[j]).2.q.den : Int)) - (gridP ps j).1) * invF (gridP ps j).2 (highL (ps[j]).1 (ps[j]).2)) % highL (ps[j]).1 (ps[j]).2) := by rw [gridP_succ hjl]; rfl
    by_cases e : i = j
    · subst e
      have hs := g.ok _ (List.getElem_mem hi)
      have hpos : 0 < highL (ps[i]).1 (ps[i]).2 := by rw [high_pow hs]; exact ppow_pos hs.pr _
      obtain ⟨_, _, u⟩ := invF_spec hpos (unit_of_cop (grid_cop g hi))
      rw [e1]
      generalize invF (gridP ps i).2 (highL (ps[i]).1 (ps[i]).2) = v at *
      generalize (ps[i]).2.q.num * (belowL ps / ((ps[i]).2.q.den : Int)) = T at *
      generalize highL (ps[i]).1 (ps[i]).2 = H at *
      generalize (gridP ps i).2 = A at *
      generalize (gridP ps i).1 = F at *
      obtain ⟨w, hw⟩ := u
      refine ⟨(T - F) * w - A * ((T - F) * v / H), ?_⟩
      have hm := Int.mul_ediv_add_emod ((T - F) * v) H
      have : (T - F) * v % H = (T - F) * v - H * ((T - F) * v / H) := by omega
      rw [this]
      have h3 : A * v = H * w + 1 := by omega
      have h4 : A * ((T - F) * v) = (T - F) * (H * w + 1) := by rw [← h3]; grind
      grind
    · obtain ⟨w, hw⟩ := found_near g hi (j := j) (by omega) (by omega)
      obtain ⟨w2, hw2⟩ := high_dvd hi (j := j) (by omega) (by omega)
      rw [e1]
      generalize (((ps[j]).2.q.num * (belowL ps / ((ps[j]).2.q.den : Int)) - (gridP ps j).1) * invF (gridP ps j).2 (highL (ps[j]).1 (ps[j]).2)) % highL (ps[j]).1 (ps[j]).2 = r at *
      refine ⟨w + w2 * r, ?_⟩
      rw [Int.mul_add, ← hw, hw2]
      grind
end
end Bm
namespace Bm
section
variable {p : Nat}
/-! ### the moves as the grid tells them are whole -/
structure Sc (k : Int) (x y : M4) : Prop where
  a : x.a = k * y.a
  b : x.b = k * y.b
  c : x.c = k * y.c
  d : x.d = k * y.d
theorem Sc.refl (x : M4) : Sc 1 x x := ⟨by omega, by omega, by omega, by omega⟩
theorem Sc.mul {c d : Int} {x y u v : M4} (h : Sc c x y) (g : Sc d u v) : Sc (c * d) (mulM x u) (mulM y v) := by
  refine ⟨?_, ?_, ?_, ?_⟩ <;> unfold mulM <;> simp only [h.a, h.b, h.c, h.d, g.a, g.b, g.c, g.d] <;> grind
theorem Sc.adj {c : Int} {x y : M4} (h : Sc c x y) : Sc c (adjM x) (adjM y) := by
  refine ⟨h.d, ?_, ?_, h.a⟩ <;> unfold adjM <;> simp only [h.b, h.c] <;> grind
theorem Sc.form {m : M4} (h : firstM m ≠ 0) : Sc (formG m) m (formM m) := by
  obtain ⟨h1, h2, h3, h4⟩ := form_mul h
  exact ⟨h1, h2, h3, h4⟩
theorem Sc.trans {c d : Int} {x y z : M4} (h : Sc c x y) (g : Sc d y z) : Sc (c * d) x z := by
  refine ⟨?_, ?_, ?_, ?_⟩
  · rw [h.a, g.a, Int.mul_assoc]
  · rw [h.b, g.b, Int.mul_assoc]
  · rw [h.c, g.c, Int.mul_assoc]
  · rw [h.d, g.d, Int.mul_assoc]
theorem Sc.size {c : Int} {x y : M4} (h : Sc c x y) : sizeM x = c * c * sizeM y := by
  unfold sizeM; rw [h.a, h.b, h.c, h.d]; grind
theorem told_sc {G m : M4} (sG : sizeM G ≠ 0) (sm : sizeM m ≠ 0) : (∃ c, Sc c (mulM (adjM G) (mulM m G)) (toldM (formM G) m)) ∧ gcd4 (toldM (formM G) m) = 1 := by
  have st := size_form_ne sG
  have sa : sizeM (adjM (formM G)) ≠ 0 := by rw [size_adj]; exact st
  have sb : sizeM (mulM m (formM G)) ≠ 0 := by rw [size_mul]; exact Int.mul_ne_zero sm st
  have s3 : sizeM (mulM (backM (formM G)) (afterM m (formM G))) ≠ 0 := by
    rw [size_mul]; exact Int.mul_ne_zero (size_back_ne st) (size_after_ne sm st)
  have h0 := Sc.form (first_ne sG)
  have h1 := h0.adj.trans (Sc.form (first_ne sa))
  have h2 := ((Sc.refl m).mul h0).trans (Sc.form (first_ne sb))
  exact ⟨⟨_, (h1.mul h2).trans (Sc.form (first_ne s3))⟩, gcd4_form (first_ne s3)⟩
theorem told_unit (hp : IsP p) {T U : M4} {c : Int} (sc : Sc c T U) (sT : sizeM T ≠ 0) (hg : gcd4 U = 1) {w : Int} (ha : Dv p w (T.a : Rat)) (hb : Dv p w (T.b : Rat)) (hc : Dv p w (T.c : Rat)) (hd : Dv p w (T.d : Rat))
    (hs : (vI p (sizeM T) : Int) ≤ 2 * w) : ¬ (p : Int) ∣ sizeM U := fun dv => by
  have es := sc.size
  have c0 : c ≠ 0 := fun z => sT (by rw [es, z]; grind)
  have sU : sizeM U ≠ 0 := fun z => sT (by rw [es, z, Int.mul_zero])
  rw [es, vI_mul hp (Int.mul_ne_zero c0 c0) sU, vI_mul hp c0 c0] at hs
  have d1 := (dv1' hp dv).le hp (fun z => sU (Rat.intCast_eq_zero_iff.mp z))
  rw [v_int] at d1
  have cq : (c : Rat) ≠ 0 := fun z => c0 (Rat.intCast_eq_zero_iff.mp z)
  have one : ∀ {x y : Int}, x = c * y → Dv p w (x : Rat) → (p : Int) ∣ y := fun {x y} e h => by
    have d2 := h.div hp cq (Int.le_of_eq (v_int p c))
    refine dv1 hp (k := w - (vI p c : Int)) (d2.eq ?_) (by omega)
    rw [e, Rat.intCast_mul]
    grind
  exact prim_of hp hg ⟨one sc.a ha, one sc.b hb, one sc.c hc, one sc.d hd⟩
theorem grid_unit {ps : List (Nat × Bq)} (g : GridOk ps) {i : Nat} (hi : i < ps.length) {m : M4} {e : Int} (sm : sizeM m ≠ 0) (hf : FixC (ps[i]).1 m (ps[i]).2.n (ps[i]).2.q e) : ¬ ((ps[i]).1 : Int) ∣ sizeM (toldM (gridL ps) m) := by
  have hs := g.ok _ (List.getElem_mem hi)
  have hA := high_v g hi (Nat.le_refl _)
  have hW := below_v g hi (Nat.le_refl _)
  have hF := found_near g hi hi (Nat.le_refl _)
  have sG := (rawG_ok g).2
  have pW := (belowP_ok g (Nat.le_refl ps.length)).2
  have pA := (gridI g (Nat.le_refl ps.length)).pos
  rw [if_pos hi] at hA hW
  rw [belowP_all] at hW pW
  rw [high_pow hs] at hF
  obtain ⟨⟨c, sc⟩, hg⟩ := told_sc (G := rawG ps) sG sm
  rw [← gridL_eq] at sc hg
  have ln := lowE_n (ps[i]).1 (ps[i]).2
  have lw : vN (ps[i]).1 (ps[i]).2.q.den ≤ lowE (ps[i]).1 (ps[i]).2 := by unfold lowE; omega
  have hden := hs.den
  have eG : rawG ps = ⟨(gridP ps ps.length).2, (gridP ps ps.length).1, 0, belowL ps⟩ := rfl
  have hp := hs.pr
  rw [eG] at sc sG
  generalize gridL ps = t at *
  generalize (gridP ps ps.length).2 = A at *
  generalize (gridP ps ps.length).1 = F at *
  generalize belowL ps = W at *
  generalize lowE (ps[i]).1 (ps[i]).2 = L at *
  generalize (ps[i]).2.n = n at *
  generalize (ps[i]).2.q = x at *
  generalize (ps[i]).1 = q at *
  have A0 : (A : Rat) ≠ 0 := fun z => by have := Rat.intCast_eq_zero_iff.mp z; omega
  have W0 : (W : Rat) ≠ 0 := fun z => by have := Rat.intCast_eq_zero_iff.mp z; omega
  have dA : Dv q (n + L) (A : Rat) := Dv.of_le hp (.inr (by rw [v_int]; omega))
  have dW : Dv q L (W : Rat) := Dv.of_le hp (.inr (by rw [v_int]; omega))
  have near : Dv q n ((F : Rat) / (W : Rat) - x) := by
    have dd : (x.den : Int) ∣ W := by
      rw [hden]
      have : ((q : Int) ^ L) ∣ W := dW.dvd hp
      exact Int.dvd_trans ⟨(q : Int) ^ (L - vN q x.den), by rw [← Int.pow_add]; congr 1; omega⟩ this
    have ew : W / (x.den : Int) * (x.den : Int) = W := Int.ediv_mul_cancel dd
    have d1 := Dv.of_dvd hp hF
    have d2 := (d1.div hp W0 (k := L) (by rw [v_int]; omega))
    refine (d2.cast (by omega)).eq ?_
    rw [Rat.intCast_sub, Rat.intCast_mul, ← mul_den x]
    have ew' : (W : Rat) = ((W / (x.den : Int) : Int) : Rat) * ((x.den : Nat) : Rat) := by
      rw [show ((x.den : Nat) : Rat) = (((x.den : Nat) : Int) : Rat) from rfl, ← Rat.intCast_mul, ew]
    have e3 : x * ((x.den : Nat) : Rat) * ((W / (x.den : Int) : Int) : Rat) = x * (W : Rat) := by rw [ew']; grind
    rw [e3]
    grind
  have hc := hf.congr hp near
  have eF : (F : Rat) = (F : Rat) / (W : Rat) * (W : Rat) := by grind
  generalize (F : Rat) / (W : Rat) = y at *
  have eT : mulM (adjM ⟨A, F, 0, W⟩) (mulM m ⟨A, F, 0, W⟩) = ⟨W * (m.a * A) - F * (m.c * A), W * (m.a * F + m.b * W) - F * (m.c * F + m.d * W), A * (m.c * A), A * (m.c * F + m.d * W)⟩ := by
    unfold mulM adjM
    simp only [M4.mk.injEq]
    refine ⟨?_, ?_, ?_, ?_⟩ <;> grind
  have sT : sizeM (mulM (adjM ⟨A, F, 0, W⟩) (mulM m ⟨A, F, 0, W⟩)) = A * W * (A * W) * sizeM m := by
    rw [size_mul, size_mul, size_adj]
    show (A * W - F * 0) * (sizeM m * (A * W - F * 0)) = _
    grind
  have sT0 : sizeM (mulM (adjM ⟨A, F, 0, W⟩) (mulM m ⟨A, F, 0, W⟩)) ≠ 0 := by
    rw [sT]
    have : A * W ≠ 0 := Int.mul_ne_zero (by omega) (by omega)
    exact Int.mul_ne_zero (Int.mul_ne_zero this this) sm
  refine told_unit hp sc sT0 hg (w := n + L + L + e) ?_ ?_ ?_ ?_ ?_
  · rw [eT]
    refine (((dA.mul hp dW).mul hp hc.a11).cast (by omega)).eq ?_
    show ((W * (m.a * A) - F * (m.c * A) : Int) : Rat) = _
    simp only [Rat.intCast_mul, Rat.intCast_sub]
    rw [eF]; grind
  · rw [eT]
    refine (((dW.mul hp dW).mul hp hc.a12).cast (by omega)).eq ?_
    show ((W * (m.a * F + m.b * W) - F * (m.c * F + m.d * W) : Int) : Rat) = _
    simp only [Rat.intCast_mul, Rat.intCast_sub, Rat.intCast_add]
    rw [eF]; grind
  · rw [eT]
    refine (((dA.mul hp dA).mul hp hc.a21).cast (by omega)).eq ?_
    show ((A * (m.c * A) : Int) : Rat) = _
    simp only [Rat.intCast_mul]
    grind
  · rw [eT]
    refine (((dA.mul hp dW).mul hp hc.a22).cast (by omega)).eq ?_
    show ((A * (m.c * F + m.d * W) : Int) : Rat) = _
    simp only [Rat.intCast_mul, Rat.intCast_add]
    rw [eF]; grind
  · have aw : A * W ≠ 0 := Int.mul_ne_zero (by omega) (by omega)
    rw [sT, vI_mul hp (Int.mul_ne_zero aw aw) sm, vI_mul hp aw aw, vI_mul hp (by omega) (by omega)]
    have := hf.sz
    omega
end
end Bm
namespace Bm
open PySem PySem.Spec PyProof.Rows L2 G
/-! ### the due answer is judged right; the two judges agree -/
theorem ex_prime : ∀ n : Nat, 2 ≤ n → ∃ q, Pr q ∧ q ∣ n := by
  intro n
  induction n using Nat.strongRecOn with
  | _ n ih =>
    intro h
    by_cases hp : ∀ d, d ∣ n → d = 1 ∨ d = n
    · exact ⟨n, ⟨h, hp⟩, Nat.dvd_refl n⟩
    · have : ∃ d, d ∣ n ∧ d ≠ 1 ∧ d ≠ n := by
        refine Classical.byContradiction fun w => hp fun d hd => ?_
        refine Classical.byContradiction fun z => w ⟨d, hd, fun e => z (.inl e), fun e => z (.inr e)⟩
      obtain ⟨d, hd, h1, h2⟩ := this
      have d0 : d ≠ 0 := fun z => by rw [z] at hd; have := Nat.zero_dvd.mp hd; omega
      have dl := Nat.le_of_dvd (by omega) hd
      obtain ⟨q, hq, hqd⟩ := ih d (by omega) (by omega)
      exact ⟨q, hq, Nat.dvd_trans hqd hd⟩
theorem whole_of {m : M4} (h0 : sizeM m ≠ 0) (h : ∀ q, Pr q → ¬ (q : Int) ∣ sizeM m) : wholeM m = true := by
  have l : (sizeM m).natAbs < 2 := by
    refine Nat.lt_of_not_le fun w => ?_
    obtain ⟨q, hq, hd⟩ := ex_prime _ w
    exact h q hq (Int.ofNat_dvd_left.mpr hd)
  have e : sizeM m = 1 ∨ sizeM m = -1 := by omega
  unfold wholeM
  rcases e with e | e <;> rw [e] <;> rfl
theorem pr_pow {q p : Nat} (hq : Pr q) (hp : IsP p) : ∀ {k : Nat}, (q : Int) ∣ (p : Int) ^ k → q = p
  | 0, h => by
    rw [Int.pow_zero] at h
    have := Int.le_of_dvd (by decide) h
    have := hq.two
    omega
  | k + 1, h => by
    rw [Int.pow_succ] at h
    rcases hq.mulI h with z | z
    · exact pr_pow hq hp z
    · rcases hp.pr q (Int.natCast_dvd_natCast.mp z) with e | e
      · have := hq.two; omega
      · exact e
theorem other_nd {ps : List (Nat × Bq)} (g : GridOk ps) {q : Nat} (hq : Pr q) (hn : ∀ x ∈ ps, x.1 ≠ q) : ∀ {j : Nat}, j ≤ ps.length → ¬ (q : Int) ∣ (gridP ps j).2 ∧ ¬ (q : Int) ∣ belowP ps j
  | 0, _ => by
    have e : gridP ps 0 = (0, 1) := by unfold gridP; rw [List.take_zero]; rfl
    have e2 : belowP ps 0 = 1 := by unfold belowP; rw [List.take_zero]; rfl
    have h1 : ¬ (q : Int) ∣ 1 := fun z => by
      have := Int.le_of_dvd (by decide) z
      have := hq.two
      omega
    rw [e, e2]
    exact ⟨h1, h1⟩
  | j + 1, hj => by
    have hjl : j < ps.length := by omega
    have hs := g.ok _ (List.getElem_mem hjl)
    have ne := hn _ (List.getElem_mem hjl)
    obtain ⟨h1, h2⟩ := other_nd g hq hn (j := j) (by omega)
    have e2 : (gridP ps (j + 1)).2 = (gridP ps j).2 * highL (ps[j]).1 (ps[j]).2 := by rw [gridP_succ hjl]; rfl
    rw [e2, belowP_succ hjl, high_pow hs, least_pow hs]
    exact ⟨fun z => (hq.mulI z).elim h1 fun w => ne (pr_pow hq hs.pr w).symm, fun z => (hq.mulI z).elim h2 fun w => ne (pr_pow hq hs.pr w).symm⟩
theorem grid_whole {ps : List (Nat × Bq)} (g : GridOk ps) {m : M4} (hm : Smo (sizeM m)) (hb : ∀ q, Pr q → (q : Int) ∣ sizeM m → ∃ x ∈ ps, x.1 = q) (hf : ∀ x ∈ ps, ∃ e, FixC x.1 m x.2.n x.2.q e) : wholeM (toldM (gridL ps) m) = true := by
  have sG := (rawG_ok g).2
  obtain ⟨⟨c, sc⟩, hg⟩ := told_sc (G := rawG ps) sG hm.ne
  rw [← gridL_eq] at sc hg
  have sT : sizeM (mulM (adjM (rawG ps)) (mulM m (rawG ps))) = sizeM (rawG ps) * (sizeM m * sizeM (rawG ps)) := by rw [size_mul, size_mul, size_adj]
  have sT0 : sizeM (mulM (adjM (rawG ps)) (mulM m (rawG ps))) ≠ 0 := by rw [sT]; exact Int.mul_ne_zero sG (Int.mul_ne_zero hm.ne sG)
  have es := sc.size
  refine whole_of (fun z => sT0 (by rw [es, z, Int.mul_zero])) fun q hq hd => ?_
  by_cases hx : ∃ x ∈ ps, x.1 = q
  · obtain ⟨x, hx, rfl⟩ := hx
    obtain ⟨i, hi, rfl⟩ := List.getElem_of_mem hx
    obtain ⟨e, f⟩ := hf _ hx
    exact grid_unit g hi hm.ne f hd
  · obtain ⟨h1, h2⟩ := other_nd g hq (fun x h e => hx ⟨x, h, e⟩) (Nat.le_refl _)
    rw [belowP_all] at h2
    have hG : ¬ (q : Int) ∣ sizeM (rawG ps) := fun z => by
      have e : sizeM (rawG ps) = (gridP ps ps.length).2 * belowL ps := by
        show (gridP ps ps.length).2 * belowL ps - (gridP ps ps.length).1 * 0 = _
        omega
      rw [e] at z
      exact (hq.mulI z).elim h1 h2
    have hT : (q : Int) ∣ sizeM (mulM (adjM (rawG ps)) (mulM m (rawG ps))) := Int.dvd_trans hd ⟨c * c, by rw [es]; grind⟩
    rw [sT] at hT
    rcases hq.mulI hT with z | z
    · exact hG z
    · rcases hq.mulI z with z | z
      · exact hx (hb q hq z)
      · exact hG z
theorem wholeGo_or (ms : List M4) : ∀ (L : List Nat) (ps : List (Nat × Bq)), (∃ p ∈ L, nearL p ms = none ∧ wholeGo ms L ps = .bars p (barL p ms)) ∨ (∀ p ∈ L, (nearL p ms).isSome = true)
  | [], _ => .inr fun _ h => absurd h List.not_mem_nil
  | p :: L, ps => by
    cases h : nearL p ms with
    | none => exact .inl ⟨p, List.mem_cons_self, h, by rw [wholeGo, h]⟩
    | some s =>
      rcases wholeGo_or ms L (ps ++ [(p, s)]) with ⟨q, hq, h1, h2⟩ | h1
      · exact .inl ⟨q, List.mem_cons_of_mem _ hq, h1, by rw [wholeGo, h]; exact h2⟩
      · refine .inr fun q hq => ?_
        rcases List.mem_cons.mp hq with e | e
        · rw [e, h]; rfl
        · exact h1 q e
structure Wm (m : M4) : Prop where
  b : MB 25 m
  mv : IsMv m
theorem Dm.wm {m : M4} (h : Dm 25 m) : Wm m := ⟨h.b, h.mv⟩
theorem ms_of {ms : List M4} (h : ∀ m ∈ ms, Wm m) : MsOk 25 ms := ⟨fun m hm => (h m hm).b, fun m hm => (h m hm).mv.size⟩
theorem gd_of {ms : List M4} (h : ∀ m ∈ ms, Wm m) : Gd ms := ⟨fun m hm => by rw [← (h m hm).mv.form]; exact gcd4_form (first_ne (h m hm).mv.size), fun m hm => (h m hm).mv.size⟩
theorem spots_ok {ms : List M4} (h : ∀ m ∈ ms, Wm m) : ∀ p ∈ badL ms, ∀ s, nearL p ms = some s → SpotOk p s := fun p hp s hs => near_spot (badL_isP hp) (gd_of h) (fun m hm => (h m hm).b) hs
theorem grid_ps {ms : List M4} (h : ∀ m ∈ ms, Wm m) (ha : ∀ p ∈ badL ms, (nearL p ms).isSome = true) : GridOk ((badL ms).map fun p => (p, spotOf ms p)) := by
  refine ⟨fun x hx => ?_, ?_, ?_⟩
  · obtain ⟨p, hp, rfl⟩ := List.mem_map.mp hx
    obtain ⟨s, hs⟩ := Option.isSome_iff_exists.mp (ha p hp)
    have e : spotOf ms p = s := by unfold spotOf; rw [hs]; rfl
    show SpotOk p (spotOf ms p)
    rw [e]
    exact spots_ok h p hp s hs
  · rw [List.map_map]
    have e : (badL ms).map ((·.1) ∘ fun p => (p, spotOf ms p)) = badL ms := by
      exact (List.map_congr_left (g := id) fun x _ => rfl).trans (List.map_id _)
    rw [e]
    exact P97_nodup.filter _
  · rw [List.length_map]
    exact Nat.le_trans (List.length_filter_le _ _) (by decide)
theorem bad_none {ms : List M4} (h : ∀ m ∈ ms, Dm 25 m) (ha : ∀ p ∈ badL ms, (nearL p ms).isSome = true) : badAt (gridL ((badL ms).map fun p => (p, spotOf ms p))) ms = none := by
  unfold badAt
  rw [List.find?_eq_none]
  intro k hk
  have hkl := List.mem_range.mp hk
  rw [getD_get hkl]
  have hm := List.getElem_mem hkl
  have := grid_whole (grid_ps (fun m hm => (h m hm).wm) ha) (h _ hm).sm (fun q hq hd => ⟨(q, spotOf ms q), List.mem_map.mpr ⟨q, List.mem_filter.mpr ⟨(h _ hm).sm.sm q hq hd, List.any_eq_true.mpr ⟨_, hm, decide_eq_true (Int.emod_eq_zero_of_dvd hd)⟩⟩, rfl⟩, rfl⟩) (fun x hx => by
    obtain ⟨p, hp, rfl⟩ := List.mem_map.mp hx
    obtain ⟨s, hs⟩ := Option.isSome_iff_exists.mp (ha p hp)
    have e : spotOf ms p = s := by unfold spotOf; rw [hs]; rfl
    show ∃ e, FixC p ms[k] (spotOf ms p).n (spotOf ms p).q e
    rw [e]
    exact led_fix (badL_isP hp) (h _ hm).ne ((near_get hs).2.2 _ hm))
  rw [this]
  decide
theorem word_gd {ms : List M4} {w : Wd} : ∀ {f : M4}, gcd4 f = 1 → sizeM f ≠ 0 → (∀ l ∈ w, sizeM (letM ms l) ≠ 0) → gcd4 (w.foldl (fun f l => afterM f (letM ms l)) f) = 1 ∧ sizeM (w.foldl (fun f l => afterM f (letM ms l)) f) ≠ 0 := by
  induction w with
  | nil => exact fun h1 h2 _ => ⟨h1, h2⟩
  | cons l w ih =>
    intro f h1 h2 h3
    have hl := h3 l List.mem_cons_self
    refine ih (f := afterM f (letM ms l)) (gcd4_form (first_ne ?_)) (size_after_ne h2 hl) fun x hx => h3 x (List.mem_cons_of_mem _ hx)
    rw [size_mul]; exact Int.mul_ne_zero h2 hl
theorem judge_eq {k : Nat} {ms : List M4} (hm : MsOk k ms) (v : PyData) : judgeP ms v = judgeL ms v := by
  have three : ∀ x y z, judgeP ms (.tuple [x, y, z]) = judgeL ms (.tuple [x, y, z]) := fun x y z => by
    rw [judgeP_three, judgeL_three]
    cases hc : (PyData.eqv x (.str "bars") && (isPrimeD y && isWordD ms.length z)) with
    | false => rfl
    | true =>
      rw [Bool.and_eq_true, Bool.and_eq_true] at hc
      obtain ⟨hp, _⟩ := prime_of hc.2.1
      obtain ⟨_, hw⟩ := word_of hc.2.2
      obtain ⟨g1, g2⟩ := word_gd (ms := ms) (w := wordOf z) (f := idM) (by decide) (by decide) (fun l hl => (let_ok hm (hw l hl)).2)
      have : keepsP (primeOf y) (wordM ms (wordOf z)) = keepsL (primeOf y) (wordM ms (wordOf z)) := keeps_eq hp g1 g2
      rw [this]
  cases v with
  | tuple ds =>
    match ds with
    | [] => rfl
    | [_] => rfl
    | [_, _] => rfl
    | [_, _, _] => exact three _ _ _
    | _ :: _ :: _ :: _ :: _ => rfl
  | _ => rfl
theorem judge_due {ms : List M4} (h : ∀ m ∈ ms, Dm 25 m) : judgeP ms (whD (wholeL ms)) = .none := by
  have hm : MsOk 25 ms := ⟨fun m hm => (h m hm).b, fun m hm => (h m hm).ne⟩
  rcases wholeGo_or ms (badL ms) [] with ⟨p, hp, h1, h2⟩ | ha
  · have hP := badL_isP hp
    obtain ⟨w, hw, hB⟩ := bar_get hP (gd_of fun m hm => (h m hm).wm) h1
    unfold wholeL
    rw [h2, hw, judge_eq hm]
    show judgeL ms (.tuple [.str "bars", .int (p : Nat), eW w]) = .none
    rw [judgeL_three]
    have e3 : primeOf (.int (p : Nat)) = p := Int.toNat_natCast p
    have e4 : wordOf (eW w) = w := by
      show (w.map fun l => PyData.tuple [.int l.1, .int l.2]).map letOf = w
      rw [List.map_map]
      exact (List.map_congr_left (g := id) fun x _ => rfl).trans (List.map_id _)
    have key : keepsL p (wordM ms w) = false := by
      have fm : ∀ i, i < ms.length → afterM idM (ms.getD i idM) = ms.getD i idM := fun i hi => by
        rw [getD_get hi]
        have := (h _ (List.getElem_mem hi)).mv.form
        have e : mulM idM ms[i] = ms[i] := by unfold mulM idM; simp
        unfold afterM
        rw [e, this]
      cases hB with
      | one k hk hn =>
        show keepsL p (afterM idM (letM ms ((k : Int), 1))) = false
        have e : letM ms ((k : Int), 1) = ms.getD k idM := by
          unfold letM; rw [if_pos rfl]; show ms.getD (k : Int).toNat idM = _; rw [Int.toNat_natCast]
        rw [e, fm k hk]
        exact hn
      | two i j hi hj hn =>
        show keepsL p (afterM (afterM idM (letM ms ((i : Int), 1))) (letM ms ((j : Int), 1))) = false
        have e : ∀ k : Nat, letM ms ((k : Int), 1) = ms.getD k idM := fun k => by
          unfold letM; rw [if_pos rfl]; show ms.getD (k : Int).toNat idM = _; rw [Int.toNat_natCast]
        rw [e, e, fm i (by omega)]
        exact hn
    rw [e3, e4, key, if_neg Bool.false_ne_true]
    have c1 : isPrimeD (.int (p : Nat)) = true := decide_eq_true (List.mem_map.mpr ⟨p, (List.mem_filter.mp hp).1, rfl⟩)
    have lt1 : ∀ k : Nat, k < ms.length → isLetD ms.length (.tuple [.int (k : Nat), .int 1]) = true := fun k hk => by
      unfold isLetD
      simp
      omega
    have c2 : isWordD ms.length (eW w) = true := by
      cases hB with
      | one k hk hn =>
        show ([PyData.tuple [.int (k : Nat), .int 1]]).all (isLetD ms.length) = true
        rw [List.all_cons, lt1 k hk]; rfl
      | two i j hi hj hn =>
        show ([PyData.tuple [.int (i : Nat), .int 1], PyData.tuple [.int (j : Nat), .int 1]]).all (isLetD ms.length) = true
        rw [List.all_cons, List.all_cons, lt1 i (by omega), lt1 j hj]; rfl
    rw [c1, c2]
    rfl
  · have e := wholeGo_all ms (badL ms) [] ha
    rw [List.nil_append] at e
    unfold wholeL
    rw [e]
    have hb := bad_none h ha
    have g := grid_ps (fun m hm => (h m hm).wm) ha
    have sG := (rawG_ok g).2
    have gq := gridL_eq ((badL ms).map fun p => (p, spotOf ms p))
    generalize ((badL ms).map fun p => (p, spotOf ms p)) = ps at *
    show judgeP ms (.tuple [.str "whole", eM (gridL ps)]) = .none
    rw [judgeP_two]
    have e1 : isMoveD (eM (gridL ps)) = true := by
      rw [isMoveD_eM, gq, form_idem (first_ne sG), decide_eq_true (size_form_ne sG), decide_eq_true rfl]; rfl
    have e2 : moveOf (eM (gridL ps)) = gridL ps := rfl
    rw [e1, e2, hb]
    rfl
end Bm
namespace Bm
open PySem PySem.Spec PyProof.Rows L2 G
/-! ### all that is asked may be judged -/
section
variable {ms : List M4} (hm : MsOk 25 ms) (hl : ms.length ≤ 100)
include hm hl
theorem jk0 {v : PyData} (h : ∀ ds, v = .tuple ds → ds = []) : JOk ms v :=
  ⟨hm, hl, fun x r e => absurd (h _ e) (List.cons_ne_nil _ _), fun x y e => absurd (h _ e) (List.cons_ne_nil _ _), fun x y z e => absurd (h _ e) (List.cons_ne_nil _ _)⟩
theorem jk1 {x : PyData} (hx : SeqAt.shaped x = true) : JOk ms (.tuple [x]) :=
  ⟨hm, hl, fun a r e => by cases e; exact hx, fun a b e => (by cases e), fun a b c e => by cases e⟩
theorem jk2 {x y : PyData} (hx : SeqAt.shaped x = true) (h1 : Sm1 y) (h2 : ∀ m, y = eM m → MB 3100 m) : JOk ms (.tuple [x, y]) :=
  ⟨hm, hl, fun a r e => by cases e; exact hx, fun a b e => by cases e; exact ⟨h1, h2⟩, fun a b c e => by cases e⟩
theorem jk3 {x y z : PyData} (hx : SeqAt.shaped x = true) (h1 : Sm2 z) (h2 : ∀ ds, z = .tuple ds → ds.length ≤ 3) : JOk ms (.tuple [x, y, z]) :=
  ⟨hm, hl, fun a r e => by cases e; exact hx, fun a b e => (by cases e), fun a b c e => by cases e; exact ⟨h1, h2⟩⟩
end
theorem eM_inj {m n : M4} (h : eM m = eM n) : m = n := by
  have := eqv_eM m n
  obtain ⟨a, b, c, d⟩ := m
  obtain ⟨a', b', c', d'⟩ := n
  unfold eM at h
  simp at h
  obtain ⟨rfl, rfl, rfl, rfl⟩ := h
  rfl
theorem sm1_eM (m : M4) : Sm1 (eM m) := fun ds e => by cases e; show (4 : Nat) ≤ 50000; decide
theorem sm2_eW {w : Wd} (h : w.length ≤ 3) : Sm2 (eW w) ∧ ∀ ds, eW w = .tuple ds → ds.length ≤ 3 := by
  have e : ∀ ds, eW w = .tuple ds → ds = w.map fun l => .tuple [.int l.1, .int l.2] := fun ds e => by unfold eW at e; injection e with e; exact e.symm
  refine ⟨⟨fun ds z => ?_, fun ds z x hx => ?_⟩, fun ds z => ?_⟩
  · rw [e ds z, List.length_map]; omega
  · rw [e ds z] at hx
    obtain ⟨l, _, rfl⟩ := List.mem_map.mp hx
    exact fun ds e => by cases e; show (2 : Nat) ≤ 50000; decide
  · rw [e ds z, List.length_map]; omega
theorem mbig {a b c d : Int} (ha : a.natAbs < 16) (hb : b.natAbs < 16) (hc : c.natAbs < 16) (hd : d.natAbs < 16) : MB 3100 ⟨a, b, c, d⟩ := MB.mono (j := 4) ⟨ha, hb, hc, hd⟩ (by decide)
theorem due_ok {ms : List M4} (h : ∀ m ∈ ms, Wm m) (hl : ms.length ≤ 100) : JOk ms (whD (wholeL ms)) := by
  have hm := ms_of h
  rcases wholeGo_or ms (badL ms) [] with ⟨p, hp, h1, h2⟩ | ha
  · obtain ⟨w, hw, hB⟩ := bar_get (badL_isP hp) (gd_of h) h1
    unfold wholeL
    rw [h2, hw]
    have hlen : w.length ≤ 3 := by cases hB <;> (simp only [List.length_cons, List.length_nil]; omega)
    exact jk3 hm hl (by decide +kernel) (sm2_eW hlen).1 (sm2_eW hlen).2
  · have e := wholeGo_all ms (badL ms) [] ha
    rw [List.nil_append] at e
    unfold wholeL
    rw [e]
    have g := grid_ps h ha
    have hG := rawG_ok g
    refine jk2 hm hl (by decide +kernel) (sm1_eM _) fun m e => ?_
    rw [← eM_inj e, gridL_eq]
    exact (hG.1.form (first_ne hG.2)).mono (by decide)
end Bm
namespace Bm
open PySem PySem.Spec PyProof.Rows L2 G
theorem jkM {ms : List M4} (hm : MsOk 25 ms) (hl : ms.length ≤ 100) {x : PyData} (hx : SeqAt.shaped x = true) {k : Nat} {m : M4} (h : MB k m) (hk : k ≤ 3100) : JOk ms (.tuple [x, eM m]) :=
  jk2 hm hl hx (sm1_eM m) fun n e => by rw [← eM_inj e]; exact h.mono hk
theorem jkN {ms : List M4} (hm : MsOk 25 ms) (hl : ms.length ≤ 100) {x y : PyData} (hx : SeqAt.shaped x = true) (hy : Sm1 y) (h : ∀ m, y ≠ eM m) : JOk ms (.tuple [x, y]) :=
  jk2 hm hl hx hy fun n e => absurd e (h n)
theorem jkW {ms : List M4} (hm : MsOk 25 ms) (hl : ms.length ≤ 100) {x y : PyData} (hx : SeqAt.shaped x = true) {w : Wd} (h : w.length ≤ 3) : JOk ms (.tuple [x, y, eW w]) :=
  jk3 hm hl hx (sm2_eW h).1 (sm2_eW h).2
theorem jkZ {ms : List M4} (hm : MsOk 25 ms) (hl : ms.length ≤ 100) {x y z : PyData} (hx : SeqAt.shaped x = true) (h : ∀ ds, z ≠ .tuple ds) : JOk ms (.tuple [x, y, z]) :=
  jk3 hm hl hx ⟨fun ds e => absurd e (h ds), fun ds e => absurd e (h ds)⟩ fun ds e => absurd e (h ds)
theorem jkY {ms : List M4} (hm : MsOk 25 ms) (hl : ms.length ≤ 100) {x y z : PyData} (hx : SeqAt.shaped x = true) (h : Sm1 z) : JOk ms (.tuple [x, y, .tuple [z]]) :=
  jk3 hm hl hx ⟨fun ds e => by cases e; show (1 : Nat) ≤ 50000; decide, fun ds e z' hz => by cases e; rw [List.mem_singleton.mp hz]; exact h⟩ fun ds e => by cases e; show (1 : Nat) ≤ 3; decide
theorem sm1_two (a b : PyData) : Sm1 (.tuple [a, b]) := fun ds e => by cases e; show (2 : Nat) ≤ 50000; decide
theorem sm1_nil : Sm1 (.tuple []) := fun ds e => by cases e; show (0 : Nat) ≤ 50000; decide
theorem asked_ok {ms : List M4} (h : ∀ m ∈ ms, Wm m) (hl : ms.length ≤ 100) {t wh : M4} {w : Wd} {p : Nat} {j k : Nat} (ht : Dm j t) (hw : Dm k wh) (hj : j + k ≤ 3000) (hlen : w.length ≤ 3) : ∀ v ∈ askL (whD (wholeL ms)) t w p wh ms.length, JOk ms v := by
  have hm := ms_of h
  have ta := (ht.after hw).b
  intro v hv
  unfold askL askA askB askC askD askE askF askG askH at hv
  simp only [List.mem_append, List.mem_cons, List.not_mem_nil, or_false] at hv
  rcases hv with (((((((rfl | rfl | rfl | rfl) | (rfl | rfl | rfl)) | rfl) | (rfl | rfl | rfl | rfl | rfl | rfl)) | (rfl | rfl | rfl | rfl)) | (rfl | rfl | rfl | rfl | rfl)) | (rfl | rfl | rfl | rfl | rfl | rfl | rfl | rfl | rfl)) | (rfl | rfl | rfl | rfl | rfl)
  · exact due_ok h hl
  · exact jkM hm hl (by decide +kernel) ht.b (by omega)
  · exact jkM hm hl (by decide +kernel) ta (by omega)
  · exact jkW hm hl (by decide +kernel) hlen
  · exact jkM hm hl (by decide +kernel) (m := ⟨2, 0, 0, 2⟩) (k := 3100) (mbig (by decide) (by decide) (by decide) (by decide)) (by omega)
  · exact jkN hm hl (by decide +kernel) (fun ds e => by cases e; show (4 : Nat) ≤ 50000; decide) fun m e => by unfold eM at e; simp at e
  · exact jkM hm hl (by decide +kernel) (m := ⟨0 - 1, 0, 0, 1⟩) (k := 3100) (mbig (by decide) (by decide) (by decide) (by decide)) (by omega)
  · exact jkW hm hl (by decide +kernel) (by rw [List.length_take]; omega)
  · exact jkN hm hl (by decide +kernel) (fun ds e => by cases e) fun m e => by unfold eM at e; cases e
  · exact jk1 hm hl (by decide +kernel)
  · exact jk3 hm hl (by decide +kernel) ⟨sm1_nil, fun ds e x hx => by cases e; cases hx⟩ fun ds e => by cases e; show (0 : Nat) ≤ 3; decide
  · exact jkN hm hl (by decide +kernel) (fun ds e => by cases e) fun m e => by unfold eM at e; cases e
  · exact jkW hm hl (by decide +kernel) hlen
  · exact jkW hm hl (by decide +kernel) hlen
  · exact jkW hm hl (by decide +kernel) hlen
  · exact jkY hm hl (by decide +kernel) (sm1_two _ _)
  · exact jkY hm hl (by decide +kernel) (sm1_two _ _)
  · exact jkY hm hl (by decide +kernel) (sm1_two _ _)
  · exact jkZ hm hl (by decide +kernel) fun ds e => by cases e
  · exact jkY hm hl (by decide +kernel) (fun ds e => by cases e)
  · exact jkW hm hl (by decide +kernel) hlen
  · exact jkM hm hl (by decide +kernel) ht.b (by omega)
  · exact jkM hm hl rfl ht.b (by omega)
  · exact jk0 hm hl fun ds e => by cases e
  · exact jk0 hm hl fun ds e => by cases e
  · exact jk0 hm hl fun ds e => by cases e
  · exact jk0 hm hl fun ds e => by cases e
  · exact jk0 hm hl fun ds e => by cases e
  · exact jk0 hm hl fun ds e => by cases e; rfl
  · exact jkY hm hl (by decide +kernel) (sm1_two _ _)
  · exact jkZ hm hl (by decide +kernel) fun ds e => by cases e
  · exact jkN hm hl (by decide +kernel) (fun ds e => by cases e) fun m e => by unfold eM at e; cases e
  · exact jkW hm hl (by decide +kernel) hlen
  · exact jkM hm hl rfl ht.b (by omega)
  · exact jkM hm hl (by decide +kernel) (m := ⟨1, 2, 2, 4⟩) (k := 3100) (mbig (by decide) (by decide) (by decide) (by decide)) (by omega)
  · exact jkW hm hl (by decide +kernel) hlen
  · exact jkZ hm hl (by decide +kernel) fun ds e => by cases e
theorem great_wm : ∀ m ∈ ([⟨101, 0, 0, 1⟩, ⟨1, 3, 0, 103⟩, ⟨0, 109, 1, 0⟩] : List M4), Wm m := by
  intro m h
  simp only [List.mem_cons, List.not_mem_nil, or_false] at h
  have b : ∀ {a b c d : Int}, a.natAbs < 128 → b.natAbs < 128 → c.natAbs < 128 → d.natAbs < 128 → MB 25 ⟨a, b, c, d⟩ := fun ha hb hc hd => MB.mono (j := 7) ⟨ha, hb, hc, hd⟩ (by decide)
  rcases h with rfl | rfl | rfl
  · exact ⟨b (by decide) (by decide) (by decide) (by decide), ⟨by decide +kernel, by decide +kernel⟩⟩
  · exact ⟨b (by decide) (by decide) (by decide) (by decide), ⟨by decide +kernel, by decide +kernel⟩⟩
  · exact ⟨b (by decide) (by decide) (by decide) (by decide), ⟨by decide +kernel, by decide +kernel⟩⟩
/-- what the law asks of a value drawn -/
theorem asked_jok {ms : List M4} (h : ∀ m ∈ ms, Wm m) (h0 : 0 < ms.length) (hl : ms.length ≤ 100) (s : G.Src) : JOk ms (asked ms s).1 := by
  have ht := dGrid_ok s
  have hw := dWhole_ok (dPrime (dWord ms.length 3 (dGrid s).2).2).2
  have hd := dWord_ok h0 (dGrid s).2
  have r37 := pick_range (dWhole (dPrime (dWord ms.length 3 (dGrid s).2).2).2).2 (show (0 : Int) < 37 by decide)
  unfold asked
  generalize pick (dWhole (dPrime (dWord ms.length 3 (dGrid s).2).2).2).2 37 = pk at *
  generalize dWhole (dPrime (dWord ms.length 3 (dGrid s).2).2).2 = wh at *
  generalize dPrime (dWord ms.length 3 (dGrid s).2).2 = pr at *
  generalize dWord ms.length 3 (dGrid s).2 = wd at *
  generalize dGrid s = gr at *
  have all := asked_ok h hl (p := pr.1) ht hw (by decide) hd.2
  generalize hL : askL (whD (wholeL ms)) gr.1 wd.1 pr.1 wh.1 ms.length = L at *
  have e : L.length = 37 := by rw [← hL]; rfl
  show JOk ms (L.getD pk.1.toNat .none)
  exact all _ (getD_mem (by omega))
/-- the law's last look -/
def lastM : M4 := ⟨101, 0, 0, 1⟩
theorem last_msok : MsOk 25 [lastM] := ⟨fun m h => by rw [List.mem_singleton.mp h]; exact MB.mono (j := 7) (m := lastM) ⟨(show (101 : Nat) < 2 ^ 7 by decide), (show (0 : Nat) < 2 ^ 7 by decide), (show (0 : Nat) < 2 ^ 7 by decide), (show (1 : Nat) < 2 ^ 7 by decide)⟩ (by decide), fun m h => by rw [List.mem_singleton.mp h]; decide⟩
theorem last_jok : JOk [lastM] (.tuple [.str "bars", .int 2, .tuple [.tuple [.int 0, .int 1]]]) := jkY last_msok (by decide) (by decide +kernel) (sm1_two _ _)
theorem last_eq : judgeP [lastM] (.tuple [.str "bars", .int 2, .tuple [.tuple [.int 0, .int 1]]]) = .tuple [.str "keeps"] := by
  rw [judge_eq last_msok, judgeL_three]
  have e1 : (PyData.eqv (.str "bars") (.str "bars") && (isPrimeD (.int 2) && isWordD ([lastM] : List M4).length (.tuple [.tuple [.int 0, .int 1]]))) = true := by decide +kernel
  have e2 : wordM [lastM] (wordOf (.tuple [.tuple [.int 0, .int 1]])) = lastM := by decide +kernel
  have v1 : vI 2 (sizeM lastM) = 0 := v0 (p := 2) (by decide)
  have v2 : vI 2 (trM lastM) = 1 := by
    unfold vI
    have e : (trM lastM).natAbs = 2 ^ 1 * 51 := by decide
    rw [e]
    exact vN_of (by decide) (by decide)
  have e3 : keepsL (primeOf (.int 2)) lastM = true := by
    show keepsL 2 lastM = true
    unfold keepsL stretchQ
    rw [v1, v2]
    decide
  rw [e1, if_pos rfl, e2, e3, if_pos rfl]
end Bm
namespace Bm
open PySem PySem.Spec PyProof.Rows L2 G
/-! ### the grid told is small enough to be shown -/
theorem high_of {p : Nat} (hp : IsP p) {β : Bq} {E : Nat} (s : SpotOk p β) (hn : β.n.natAbs ≤ E) (hd : Dv p (-(E : Int)) β.q) (hb : B 60 ((p : Int) ^ (2 * E))) : B 60 (highL p β) := by
  rw [high_pow s]
  have ld := low_of_dv hp hd
  have pp : 0 < p := by have := hp.two; omega
  refine hb.le ?_
  rw [natAbs_ppow, natAbs_ppow]
  refine Nat.pow_le_pow_right pp ?_
  unfold lowE
  omega
theorem near_high {p : Nat} (hp : IsP p) {ms : List M4} {s : Bq} (G : Gd ms) (hb : ∀ m ∈ ms, MB 25 m) (h : nearL p ms = some s) : B 60 (highL p s) := by
  have sp := near_spot hp G hb h
  obtain ⟨e, h1, _⟩ := near_get h
  have hk : ∀ m ∈ ms, ∃ e, KM p m e := fun m h => km_of hp (G.g m h) (G.s m h) (h1 m h)
  obtain ⟨a1, _, _⟩ := far_inv hp ms hk ms (fun _ h => h) start0 (.inl rfl)
  rw [← e] at a1
  rcases a1 with g | ⟨m, hm, E, km, g⟩
  · subst g
    exact high_of hp (E := 0) sp (Nat.le_refl 0) (Dv.zero hp _) (by show ((p : Int) ^ 0).natAbs < 2 ^ 60; rw [Int.pow_zero]; decide)
  · have hB : B 60 ((p : Int) ^ (2 * E)) := by
      have d : Dv p ((2 * E : Nat) : Int) ((sizeM m : Int) : Rat) := Dv.of_le hp (.inr (by rw [v_int]; have := km.sz; omega))
      exact ((hb m hm).size.mono (by omega)).dvd km.ne (d.dvd hp)
    have kd := (mid_kind hp km.ne km.pr km.sz).1
    rw [← g] at kd
    cases kd with
    | a => exact high_of hp sp (show (-(E : Int)).natAbs ≤ E by omega) (Dv.zero hp _) hB
    | b q hE h0 => exact high_of hp sp (show ((E : Int)).natAbs ≤ E by omega) (h0.mono hp (by omega)) hB
    | c q γ g0 gE q0 hv => exact high_of hp sp (show ((E : Int) - 2 * γ).natAbs ≤ E by omega) (Dv.of_le hp (.inr (by show -(E : Int) ≤ vQ p q; omega))) hB
theorem gridP_small {ps : List (Nat × Bq)} (g : GridOk ps) (hh : ∀ x ∈ ps, B 60 (highL x.1 x.2)) : ∀ {i : Nat}, i ≤ ps.length → B (60 * i + 1) (gridP ps i).2
  | 0, _ => by
    have e : gridP ps 0 = (0, 1) := by unfold gridP; rw [List.take_zero]; rfl
    rw [e]; show (1 : Nat) < 2 ^ 1; decide
  | i + 1, hi => by
    have hil : i < ps.length := by omega
    have e2 : (gridP ps (i + 1)).2 = (gridP ps i).2 * highL (ps[i]).1 (ps[i]).2 := by rw [gridP_succ hil]; rfl
    rw [e2]
    exact ((gridP_small g hh (i := i) (by omega)).mul (hh _ (List.getElem_mem hil))).mono (by omega)
theorem rawG_small {ps : List (Nat × Bq)} (g : GridOk ps) (hh : ∀ x ∈ ps, B 60 (highL x.1 x.2)) : MB 1501 (rawG ps) := by
  have hI := gridI g (Nat.le_refl ps.length)
  have hb := gridP_small g hh (Nat.le_refl ps.length)
  obtain ⟨b1, b2⟩ := belowP_ok g (Nat.le_refl ps.length)
  rw [belowP_all] at b1 b2
  have hl := g.len
  have f0 := hI.f0
  have f1 := hI.f1
  exact ⟨hb.mono (by omega), (hb.le (show (gridP ps ps.length).1.natAbs ≤ (gridP ps ps.length).2.natAbs by omega)).mono (by omega), B_zero 1501, b1.mono (by omega)⟩
/-- the due answer: a small move, or a short word -/
inductive Due (ms : List M4) : PyData → Prop
  | whole (t : M4) (h : MB 1501 t) : Due ms (.tuple [.str "whole", eM t])
  | bars (p : Nat) (hp : IsP p) (w : Wd) (h : w.length ≤ 2) (hw : ∀ l ∈ w, LetOk ms.length l) : Due ms (.tuple [.str "bars", .int (p : Nat), eW w])
theorem due_told {ms : List M4} (h : ∀ m ∈ ms, Wm m) : Due ms (whD (wholeL ms)) := by
  rcases wholeGo_or ms (badL ms) [] with ⟨p, hp, h1, h2⟩ | ha
  · obtain ⟨w, hw, hB⟩ := bar_get (badL_isP hp) (gd_of h) h1
    unfold wholeL
    rw [h2, hw]
    refine .bars p (badL_isP hp) w ?_ ?_
    · cases hB <;> (simp only [List.length_cons, List.length_nil]; omega)
    · cases hB with
      | one k hk hn =>
        intro l hl
        rw [List.mem_singleton.mp hl]
        exact ⟨by show (0 : Int) ≤ (k : Int); omega, by show (k : Int) < ms.length; omega, .inl rfl⟩
      | two i j hi hj hn =>
        intro l hl
        simp only [List.mem_cons, List.not_mem_nil, or_false] at hl
        rcases hl with rfl | rfl
        · exact ⟨by show (0 : Int) ≤ (i : Int); omega, by show (i : Int) < ms.length; omega, .inl rfl⟩
        · exact ⟨by show (0 : Int) ≤ (j : Int); omega, by show (j : Int) < ms.length; omega, .inl rfl⟩
  · have e := wholeGo_all ms (badL ms) [] ha
    rw [List.nil_append] at e
    unfold wholeL
    rw [e]
    have g := grid_ps h ha
    have hG := rawG_ok g
    refine .whole _ ?_
    rw [gridL_eq]
    refine (rawG_small g fun x hx => ?_).form (first_ne hG.2)
    obtain ⟨p, hp, rfl⟩ := List.mem_map.mp hx
    obtain ⟨s, hs⟩ := Option.isSome_iff_exists.mp (ha p hp)
    have e : spotOf ms p = s := by unfold spotOf; rw [hs]; rfl
    show B 60 (highL p (spotOf ms p))
    rw [e]
    exact near_high (badL_isP hp) (gd_of h) (fun m hm => (h m hm).b) hs
end Bm
namespace Bm
open PySem PySem.Spec PyProof.Rows L2 G
/-! ### what is shown is short enough -/
/-- shown in few signs: n parts, numbers of fewer than 1600 bits -/
structure Shw (n : Nat) (d : PyData) : Prop where
  s : d.showable = true
  l : d.leavesShort 1601 = true
  b : d.bulk ≤ n
theorem Shw.mono {m n : Nat} {d : PyData} (h : Shw m d) (l : m ≤ n) : Shw n d := ⟨h.s, h.l, Nat.le_trans h.b l⟩
theorem Shw.len {n : Nat} {d : PyData} (h : Shw n d) (hn : n ≤ 1000) : d.shown.length ≤ sizeLine := by
  have h1 := PyData.shown_le_bulk 1601 (by decide) d h.l
  have h2 : (1601 + 2) * d.bulk ≤ (1601 + 2) * 1000 := Nat.mul_le_mul_left _ (Nat.le_trans h.b hn)
  have e : sizeLine = 16777216 := by decide
  omega
theorem shw_int {i : Int} (h : B 1600 i) : Shw 1 (.int i) := by
  have hl : i.natAbs.log2 < 1600 := h.log (by decide)
  refine ⟨decide_eq_true (show i.natAbs.log2 < 1920 by omega), ?_, ?_⟩
  · simp only [PyData.leavesShort, decide_eq_true_eq]
    show (Str.ofString (toString i)).length ≤ 1601
    rw [PySem.ofString_length]
    exact int_text_length_le (k := 1600) (by decide) hl
  · show 0 ≤ 1
    decide
inductive ShwA : Nat → List PyData → Prop
  | nil : ShwA 0 []
  | cons {m n : Nat} {x : PyData} {xs : List PyData} (h : Shw m x) (g : ShwA n xs) : ShwA (m + 1 + n) (x :: xs)
theorem ShwA.all {n : Nat} {xs : List PyData} (h : ShwA n xs) : PyData.showableAll xs = true ∧ PyData.leavesShortAll 1601 xs = true ∧ PyData.bulkAll xs ≤ n := by
  induction h with
  | nil => exact ⟨rfl, rfl, Nat.le_refl 0⟩
  | cons h g ih =>
    obtain ⟨a, b, c⟩ := ih
    have hb := h.b
    refine ⟨?_, ?_, ?_⟩
    · rw [PyData.showableAll, h.s, a]; rfl
    · rw [PyData.leavesShortAll, h.l, b]; rfl
    · rw [PyData.bulkAll]; omega
theorem shw_tuple {n : Nat} {xs : List PyData} (h : ShwA n xs) : Shw n (.tuple xs) :=
  ⟨by rw [PyData.showable]; exact h.all.1, by rw [PyData.leavesShort]; exact h.all.2.1, by rw [PyData.bulk]; exact h.all.2.2⟩
theorem shw_list {n : Nat} {xs : List PyData} (h : ShwA n xs) : Shw n (.list xs) :=
  ⟨by rw [PyData.showable]; exact h.all.1, by rw [PyData.leavesShort]; exact h.all.2.1, by rw [PyData.bulk]; exact h.all.2.2⟩
theorem shw_eM {k : Nat} {m : M4} (h : MB k m) (hk : k ≤ 1600) : Shw 8 (eM m) :=
  shw_tuple (.cons (shw_int (h.a.mono hk)) (.cons (shw_int (h.b.mono hk)) (.cons (shw_int (h.c.mono hk)) (.cons (shw_int (h.d.mono hk)) .nil))))
theorem shw_ms : ∀ {ms : List M4}, (∀ m ∈ ms, MB 25 m) → ShwA (9 * ms.length) (eMs ms)
  | [], _ => .nil
  | m :: r, h => by
    have e : 9 * (m :: r).length = 8 + 1 + 9 * r.length := by rw [List.length_cons]; omega
    rw [e]
    exact .cons (shw_eM (h m List.mem_cons_self) (by decide)) (shw_ms fun k hk => h k (List.mem_cons_of_mem _ hk))
end Bm
namespace Bm
open PySem PySem.Spec PyProof.Rows L2 G
theorem shw_lit {n : Nat} {d : PyData} (h : (d.showable && d.leavesShort 1601 && decide (d.bulk ≤ n)) = true) : Shw n d := by
  simp only [Bool.and_eq_true, decide_eq_true_eq] at h
  exact ⟨h.1.1, h.1.2, h.2⟩
theorem shw_small {i : Int} (h : i.natAbs < 1024) : Shw 1 (.int i) := shw_int (B.mono (j := 10) h (by decide))
theorem shw_words {n : Nat} (hn : n ≤ 100) : ∀ {w : Wd}, (∀ l ∈ w, LetOk n l) → ShwA (5 * w.length) (w.map fun l => PyData.tuple [.int l.1, .int l.2])
  | [], _ => .nil
  | l :: w, h => by
    have e : 5 * (l :: w).length = 4 + 1 + 5 * w.length := by rw [List.length_cons]; omega
    obtain ⟨h1, h2, h3⟩ := h l List.mem_cons_self
    rw [e]
    exact .cons (shw_tuple (.cons (shw_small (by omega)) (.cons (shw_small (by omega)) .nil))) (shw_words hn fun k hk => h k (List.mem_cons_of_mem _ hk))
theorem shw_eW {n : Nat} (hn : n ≤ 100) {w : Wd} (h : ∀ l ∈ w, LetOk n l) (hl : w.length ≤ 3) : Shw 15 (eW w) := (shw_tuple (shw_words hn h)).mono (by omega)
theorem shw2 {x y : PyData} {m n : Nat} (hx : Shw m x) (hy : Shw n y) (h : m + n ≤ 50) : Shw 60 (.tuple [x, y]) := (shw_tuple (.cons hx (.cons hy .nil))).mono (by omega)
theorem shw3 {x y z : PyData} {l m n : Nat} (hx : Shw l x) (hy : Shw m y) (hz : Shw n z) (h : l + m + n ≤ 50) : Shw 60 (.tuple [x, y, z]) := (shw_tuple (.cons hx (.cons hy (.cons hz .nil)))).mono (by omega)
theorem due_shw {ms : List M4} (hl : ms.length ≤ 100) {d : PyData} (h : Due ms d) : Shw 60 d := by
  cases h with
  | whole t h => exact shw2 (shw_lit (n := 10) (by decide +kernel)) (shw_eM h (by decide)) (by decide)
  | bars p hp w h hw =>
    have := hp.small
    exact shw3 (shw_lit (n := 10) (by decide +kernel)) (shw_small (by omega)) (shw_eW hl hw (by omega)) (by decide)
theorem asked_shw {ms : List M4} (h : ∀ m ∈ ms, Wm m) (hl : ms.length ≤ 100) {t wh : M4} {w : Wd} {p : Nat} {j k : Nat} (ht : Dm j t) (hw : Dm k wh) (hj : j + k ≤ 1500) (hlen : w.length ≤ 3) (hlet : ∀ l ∈ w, LetOk ms.length l) (hp : p ≤ 97) : ∀ v ∈ askL (whD (wholeL ms)) t w p wh ms.length, Shw 60 v := by
  have ta := (ht.after hw).b
  have sw := shw_eW hl hlet hlen
  have st : Shw 8 (eM t) := shw_eM ht.b (by omega)
  have sa : Shw 8 (eM (afterM t wh)) := shw_eM ta (by omega)
  have sp : Shw 1 (.int (p : Nat)) := shw_small (by omega)
  have s1 : Shw 15 (eW (w.take 1)) := shw_eW hl (fun l hl => hlet l (List.mem_of_mem_take hl)) (by rw [List.length_take]; omega)
  have sb : Shw 10 (.str "bars") := shw_lit (by decide +kernel)
  have sh : Shw 10 (.str "whole") := shw_lit (by decide +kernel)
  intro v hv
  unfold askL askA askB askC askD askE askF askG askH at hv
  simp only [List.mem_append, List.mem_cons, List.not_mem_nil, or_false] at hv
  rcases hv with (((((((rfl | rfl | rfl | rfl) | (rfl | rfl | rfl)) | rfl) | (rfl | rfl | rfl | rfl | rfl | rfl)) | (rfl | rfl | rfl | rfl)) | (rfl | rfl | rfl | rfl | rfl)) | (rfl | rfl | rfl | rfl | rfl | rfl | rfl | rfl | rfl)) | (rfl | rfl | rfl | rfl | rfl)
  · exact due_shw hl (due_told h)
  · exact shw2 sh st (by decide)
  · exact shw2 sh sa (by decide)
  · exact shw3 sb sp sw (by decide)
  · exact shw_lit (by decide +kernel)
  · exact shw_lit (by decide +kernel)
  · exact shw_lit (by decide +kernel)
  · exact shw3 sb sp s1 (by decide)
  · exact shw2 sh (shw_list (.cons (shw_int (ht.b.a.mono (by omega))) (.cons (shw_int (ht.b.b.mono (by omega))) (.cons (shw_int (ht.b.c.mono (by omega))) (.cons (shw_int (ht.b.d.mono (by omega))) .nil))))) (by decide)
  · exact shw_lit (by decide +kernel)
  · exact shw3 sh st (shw_lit (n := 1) (by decide +kernel)) (by decide)
  · exact shw2 sb sp (by decide)
  · exact shw3 sb (shw_small (by decide)) sw (by decide)
  · exact shw3 sb (shw_small (by decide)) sw (by decide)
  · exact shw3 sb (shw_small (by decide)) sw (by decide)
  · exact shw3 sb sp (shw_tuple (.cons (shw_tuple (.cons (shw_small (by omega)) (.cons (shw_small (by decide)) .nil))) .nil)) (by decide)
  · exact shw3 sb sp (shw_lit (n := 15) (by decide +kernel)) (by decide)
  · exact shw3 sb sp (shw_lit (n := 15) (by decide +kernel)) (by decide)
  · exact shw3 sb sp (shw_lit (n := 15) (by decide +kernel)) (by decide)
  · exact shw3 sb sp (shw_lit (n := 15) (by decide +kernel)) (by decide)
  · exact shw3 sb (shw_lit (n := 15) (by decide +kernel)) sw (by decide)
  · exact shw2 (shw_lit (n := 15) (by decide +kernel)) st (by decide)
  · exact shw2 (shw_lit (n := 15) (by decide +kernel)) st (by decide)
  · exact shw_lit (by decide +kernel)
  · exact shw_lit (by decide +kernel)
  · exact shw_lit (by decide +kernel)
  · exact shw_lit (by decide +kernel)
  · exact shw_lit (by decide +kernel)
  · exact shw_lit (by decide +kernel)
  · exact shw3 sb sp (shw_lit (n := 15) (by decide +kernel)) (by decide)
  · exact shw3 sb sp (shw_lit (n := 15) (by decide +kernel)) (by decide)
  · exact shw_lit (by decide +kernel)
  · exact shw3 sb (shw_lit (n := 15) (by decide +kernel)) sw (by decide)
  · exact shw2 (shw_lit (n := 15) (by decide +kernel)) st (by decide)
  · exact shw_lit (by decide +kernel)
  · exact shw3 sb (shw_lit (n := 15) (by decide +kernel)) sw (by decide)
  · exact shw3 sb sp (shw_lit (n := 15) (by decide +kernel)) (by decide)
/-- an answer of the judge is short -/
theorem judgeL_shw {ms : List M4} (hl : ms.length ≤ 100) (v : PyData) : Shw 60 (judgeL ms v) := by
  have lit : Shw 60 (.tuple [.str "form"]) := shw_lit (by decide +kernel)
  cases v with
  | tuple ds =>
    match ds with
    | [] => exact lit
    | [_] => exact lit
    | [x, y] =>
      rw [judgeL_two]
      split
      · cases h : badAt (moveOf y) ms with
        | none => exact shw_lit (by decide +kernel)
        | some k =>
          have hk := List.mem_range.mp (List.mem_of_find?_eq_some h)
          exact (shw2 (shw_lit (n := 15) (by decide +kernel)) (shw_small (by omega)) (by decide))
      · exact lit
    | [x, y, z] =>
      rw [judgeL_three]
      split
      · split
        · exact shw_lit (by decide +kernel)
        · exact shw_lit (by decide +kernel)
      · exact lit
    | _ :: _ :: _ :: _ :: _ => exact lit
  | _ => exact lit
end Bm
namespace Bm
open PySem PySem.Spec PyProof.Rows L2 G
/-! ### what the law shows -/
mutual
theorem depth_bulk : ∀ d : PyData, d.depth ≤ d.bulk + 1
  | .list xs => by
    have h := depth_bulkA xs
    rw [PyData.depth, PyData.bulk]
    omega
  | .tuple xs => by
    have h := depth_bulkA xs
    rw [PyData.depth, PyData.bulk]
    omega
  | .dict kvs => by
    have h := depth_bulkK kvs
    rw [PyData.depth, PyData.bulk]
    omega
  | .none | .bool _ | .int _ | .str _ => Nat.zero_le _
theorem depth_bulkA : ∀ xs : List PyData, PyData.depthAll xs ≤ PyData.bulkAll xs
  | [] => Nat.zero_le _
  | x :: xs => by
    have h1 := depth_bulk x
    have h2 := depth_bulkA xs
    rw [PyData.depthAll, PyData.bulkAll]
    omega
theorem depth_bulkK : ∀ kvs : List (PyData × PyData), PyData.depthKv kvs ≤ PyData.bulkKv kvs
  | [] => Nat.zero_le _
  | (a, b) :: r => by
    have h1 := depth_bulk a
    have h2 := depth_bulk b
    have h3 := depth_bulkK r
    rw [PyData.depthKv, PyData.bulkKv]
    omega
end
theorem Shw.dep {n : Nat} {d : PyData} (h : Shw n d) (hn : n ≤ 1000) : d.depth ≤ 9000 := by
  have h1 := depth_bulk d
  have h2 := h.b
  omega
theorem asked_shw1 {ms : List M4} (h : ∀ m ∈ ms, Wm m) (h0 : 0 < ms.length) (hl : ms.length ≤ 100) (s : G.Src) : Shw 60 (asked ms s).1 := by
  have ht := dGrid_ok s
  have hw := dWhole_ok (dPrime (dWord ms.length 3 (dGrid s).2).2).2
  have hd := dWord_ok h0 (dGrid s).2
  have hp := dPrime_P7 (dWord ms.length 3 (dGrid s).2).2
  have r37 := pick_range (dWhole (dPrime (dWord ms.length 3 (dGrid s).2).2).2).2 (show (0 : Int) < 37 by decide)
  unfold asked
  generalize pick (dWhole (dPrime (dWord ms.length 3 (dGrid s).2).2).2).2 37 = pk at *
  generalize dWhole (dPrime (dWord ms.length 3 (dGrid s).2).2).2 = wh at *
  generalize dPrime (dWord ms.length 3 (dGrid s).2).2 = pr at *
  generalize dWord ms.length 3 (dGrid s).2 = wd at *
  generalize dGrid s = gr at *
  have all := asked_shw h hl (p := pr.1) ht hw (by decide) hd.2 hd.1 (by have := hp.1; omega)
  generalize hL : askL (whD (wholeL ms)) gr.1 wd.1 pr.1 wh.1 ms.length = L at *
  have e : L.length = 37 := by rw [← hL]; rfl
  show Shw 60 (L.getD pk.1.toNat .none)
  exact all _ (getD_mem (by omega))
/-- the moves and the value, in one list -/
theorem held_shw {ms : List M4} (h : ∀ m ∈ ms, Wm m) (hl : ms.length ≤ 100) {v : PyData} (hv : Shw 60 v) : Shw 1000 (.list [.list (eMs ms), v]) :=
  (shw_list (.cons (shw_list (shw_ms fun m hm => (h m hm).b)) (.cons hv .nil))).mono (by omega)
end Bm
namespace Bm
open PySem PySem.Spec PyProof.Rows L2 G
/-! ### the law itself -/
def isPl : Sl → Bool
  | .no | .dat _ | .scr _ => true
  | _ => false
section
variable {X : Cx} {ρ : Rho}
/-- the source, made and named -/
theorem ds_open {k i ip : Nat} {x f y : Str} {ps : List Str} {ns : List Int} {px fp np cp pos : Pos} (hG : Good X.prog X.w X.K X.mg X.base k f ps (spO X.K)) (hr : Room k X.A) (hN : X.N.Nodup) (hi : X.N[i]? = some x) (hx : Loc X.env.scope x) (hip : ρ[ip]? = some (.scr ns)) (hp : PE X (.Name y np) (tVar ip)) (hn : ns.length ≤ 50000) (hno : ρ.all isPl = true)
    (hg : Gl X f := by rfl) (hdb : (f == ("__debug__" : Str)) = false := by decide) (h1 : starEach [.Name y np] X.env = (false, eval (.Name y np) X.env) :: starEach [] X.env := by rfl) (hpl : (backTo cp (starEach [] X.env)).any (·.1) = false := by rfl)
    (hs : swapsWith (.Call (.Name f fp) [.Name y np] [] cp) (some (.Name x px)) pos.line X.env = pure false := by rfl) (hf : X.fn x = true ∨ X.env.scope.names.lookup x = some .local := by first | exact .inl rfl | exact .inr rfl | assumption) :
    DS X ρ {} (.Assign [.Name x px] (.Call (.Name f fp) [.Name y np] [] cp) pos) (.nx (ρ.set i .src) { src := some (openC ns) }) := by
  obtain ⟨g, fd, F, m, kp, b⟩ := hG.ex
  refine ⟨ps_mono (ps_set hN hi hx (pe_call (E := E0) F hr hg m kp b .nil pass0 (pa_cons hp pa_nil h1) hdb h1 hpl) hs hf) fun D σ H ⟨Hi, a, ok, fo⟩ => ?_⟩
  obtain ⟨l, q1, q2⟩ := ok.sl ip _ hip
  refine ⟨.ref l, q1, ?_⟩
  show spO X.K [.ref l] H (fun x H1 => gName i x σ H1 D.nx) E0
  refine ⟨ns, Hi, l, hn, ok.ex, rfl, q2, fun H' Hi' a' st ok' => ?_⟩
  have nm : ∀ c b, ¬ mutd ({} : MS) c b := fun c b z => by rcases z with ⟨z, _⟩ | ⟨z, _⟩ <;> cases z
  refine fo _ H' Hi' a' ⟨fun b u e _ => st.keep b u e (nm _ _), st.there, st.exi, fun b e1 _ e2 => st.new b e1 (nm _ _) e2, fun z => (by cases z), fun z => (by cases z), fun z => st.src1 z⟩
    ⟨ok'.ex, by rw [List.length_set, List.length_set]; exact ok.len, fun j w e => ?_, fun _ z => (by cases z), ok'.src, fun z => (by cases z)⟩
  by_cases hj : j = i
  · subst hj
    by_cases hjl : j < ρ.length
    · rw [List.getElem?_set_self hjl] at e
      cases e
      show (σ.set j (some (V.ref a'.p)))[j]? = _
      rw [List.getElem?_set_self (by rw [← ok.len]; exact hjl)]
    · rw [List.getElem?_eq_none (by rw [List.length_set]; omega)] at e
      cases e
  · rw [List.getElem?_set_ne (Ne.symm hj)] at e
    have o := ok.sl j w e
    have p := List.all_eq_true.mp hno _ (List.mem_of_getElem? e)
    cases w with
    | no => trivial
    | dat d => obtain ⟨v, e1, e2⟩ := o; exact ⟨v, by rw [List.getElem?_set_ne (Ne.symm hj)]; exact e1, e2.mono st.exi⟩
    | scr ns => obtain ⟨v, e1, e2⟩ := o; exact ⟨v, by rw [List.getElem?_set_ne (Ne.symm hj)]; exact e1, st.exi.sql e2⟩
    | own => cases p
    | src => cases p
    | cel => cases p
end
/-! what a lap draws -/
def greats : List M4 := [⟨101, 0, 0, 1⟩, ⟨1, 3, 0, 103⟩, ⟨0, 109, 1, 0⟩]
noncomputable def turnS (ms : List M4) (s : G.Src) : Nat → G.Src
  | 0 => s
  | j + 1 => (asked ms (turnS ms s j)).2
noncomputable def lapS (s : G.Src) : G.Src := turnS ((dList s).1 ++ [greats.getD (pick (dList s).2 3).1.toNat idM].take (pick (pick (dList s).2 3).2 2).1.toNat) (pick (pick (dList s).2 3).2 2).2 6
noncomputable def lapsS (s : G.Src) : Nat → G.Src
  | 0 => s
  | i + 1 => lapS (lapsS s i)
theorem great_in {i : Int} (h : 0 ≤ i ∧ i < 3) : greats.getD i.toNat idM ∈ greats := getD_mem (by show _ < 3; omega)
theorem moves_ok {L : List M4} {g : M4} {k : Nat} (h1 : ∀ m ∈ L, Dm 25 m) (h2 : 1 ≤ L.length) (h3 : L.length ≤ 4) (hg : g ∈ greats) : (∀ m ∈ L ++ [g].take k, Wm m) ∧ 0 < (L ++ [g].take k).length ∧ (L ++ [g].take k).length ≤ 100 := by
  refine ⟨fun m hm => ?_, ?_, ?_⟩
  · rcases List.mem_append.mp hm with z | z
    · exact (h1 m z).wm
    · have : m = g := List.mem_singleton.mp (List.mem_of_mem_take z)
      rw [this]
      exact great_wm _ hg
  · rw [List.length_append]; omega
  · rw [List.length_append, List.length_take, List.length_singleton]; omega
theorem cutg {g : M4} {i : Int} (h : 0 ≤ i ∧ i < 2) : ([eM g] : List PyData).take (HT.sIx ([eM g] : List PyData).length ([eM g] : List PyData).length (some i)) = eMs ([g].take i.toNat) := by
  have e : i = 0 ∨ i = 1 := by omega
  rcases e with rfl | rfl <;> rfl
section
variable {P : Program} {w : World} {K : PySem.W.Frag} {mg : Str → Option Value} {base : Heap}
def lawN : List Str := ["_law_script", "_law_source", "_law_lap", "_law_moves", "_law_great", "_law_turn", "_law_value", "_law_held"]
theorem sc_law : FnScope ["_law_script", "_law_source", "_law_lap", "_law_moves", "_law_great", "_law_turn", "_law_value", "_law_held"] ["_law_script"] (defScope (top 99)) := ⟨rfl, rfl, rfl, by decide +kernel, rfl, by decide +kernel, by decide +kernel⟩
/-- what the law leans on -/
structure LawG (P : Program) (w : World) (K : PySem.W.Frag) (mg : Str → Option Value) (base : Heap) : Prop where
  jud : Good P w K mg base 10 "judge_whole" ["moves", "value"] (spF K R_judge)
  opn : Good P w K mg base 1 "_law_open_cells" ["_law_script"] (spO K)
  pck : Good P w K mg base 1 "_law_pick" ["_law_source", "_law_most"] (spS K R_pick)
  lst : Good P w K mg base 5 "_law_draw_list" ["_law_source"] (spS K R_dlist)
  whl : Good P w K mg base 7 "_law_whole" ["_law_moves"] (spF K R_lwhole)
  ask : Good P w K mg base 8 "_law_asked" ["_law_source", "_law_moves"] (spS K R_asked)
  jdg : Good P w K mg base 5 "_law_judged" ["_law_moves", "_law_value"] (spF K R_ljudged)
abbrev lawX (P : Program) (w : World) (K : PySem.W.Frag) (mg : Str → Option Value) (base : Heap) (f : Addr) (cdv : Value) (A : Around) (outer : List Env) (s : Shared) (H : Hp) (E : XK) : Cx :=
  (cxOf CX0 P w K mg base ["_law_script", "_law_source", "_law_lap", "_law_moves", "_law_great", "_law_turn", "_law_value", "_law_held"] "law" (defScope (top 99)) f cdv A outer s H E).nox
def lapB : List Stmt := match (defBody (top 99)).getD 1 (.Pass ⟨0, 0, 0, 0⟩) with
  | .For _ _ B _ _ => B
  | _ => []
def turnB : List Stmt := match lapB.getD 4 (.Pass ⟨0, 0, 0, 0⟩) with
  | .For _ _ B _ _ => B
  | _ => []
section
variable {f : Addr} {cdv : Value} {A : Around} {outer : List Env} {s : Shared} {H : Hp} {E : XK} {script : List Int}
/-- one turn: a value is asked of both judges, and shown -/
theorem turn_body (Bl : Bl mg) (GG : LawG P w K mg base) (hK : ∃ o, K.lookup sysModules = some o) (hr : Room 10 (A.deeper (envOfC "law" (defScope (top 99)) s.heap.objs.size f cdv)))
    (hg : (A.deeper (envOfC "law" (defScope (top 99)) s.heap.objs.size f cdv)).guards = some []) (hu : (A.deeper (envOfC "law" (defScope (top 99)) s.heap.objs.size f cdv)).units + 9001 < cLine) {ms : List M4} (m1 : ∀ m ∈ ms, Wm m) (m2 : 0 < ms.length) (m3 : ms.length ≤ 100) {s0 : G.Src} {x2 x4 x5 : Sl} :
    DSs (lawX P w K mg base f cdv A outer s H E) [.scr script, .src, x2, .dat (.list (eMs ms)), x4, x5, .no, .no] { src := some s0 } turnB (.nx [.scr script, .src, x2, .dat (.list (eMs ms)), x4, .no, .no, .no] { src := some (asked ms s0).2 }) := by
  have jo := asked_jok m1 m2 m3 s0
  have sv := asked_shw1 m1 m2 m3 s0
  have q := R_asked.mk s0 ms (ms_of m1) m2 m3 (spots_ok m1)
  have je := judge_eq (ms_of m1) (asked ms s0).1
  generalize asked ms s0 = an at *
  obtain ⟨v, s1⟩ := an
  have sh := held_shw m1 m3 sv
  have sj : Shw 60 (judgeP ms v) := by rw [je]; exact judgeL_shw m3 v
  have q1 : RcD K (rRepr K) [.list [.list (eMs ms), v]] (.str (PyData.list [.list (eMs ms), v]).shown) := rc_repr sh.s (sh.len (by decide)) (sh.dep (by decide))
  have q2 : RcD K (rRepr K) [judgeP ms v] (.str (judgeP ms v).shown) := rc_repr sj.s (sj.len (by decide)) (sj.dep (by decide))
  have q3 := R_judge.mk (.list (eMs ms)) v ms (.inl rfl) jo
  have q4 := R_ljudged.mk v ms jo
  rw [← je] at q4
  have cr : CallR (lawX P w K mg base f cdv A outer s H E) (.builtin "repr") (rRepr K) := call_reprR hg hu hK
  generalize (PyData.list [.list (eMs ms), v]).shown = t1 at *
  generalize (judgeP ms v).shown = t2 at *
  generalize judgeP ms v = jv at *
  refine dss_cons (S1 := { src := some s1 }) (ρ1 := [.scr script, .src, x2, .dat (.list (eMs ms)), x4, x5, .dat v, .no]) (ds_set (i := 6) sc_law.nd rfl (.inl rfl) (de_callS GG.ask (hr.mono (by decide)) rfl (pv 1) (da_cons (de_var 3 (pv 3) rfl) da_nil) rfl q)) ?_
  refine dss_cons (S1 := { src := some s1 }) (ρ1 := [.scr script, .src, x2, .dat (.list (eMs ms)), x4, x5, .dat v, .dat (.str t1)]) (ds_set (i := 7) sc_law.nd rfl (.inl rfl) (de_cb cr Bl.repr (by decide +kernel) (da_cons (de_lst (da_cons (de_var 3 (pv 3) rfl) (da_cons (de_var 6 (pv 6) rfl) da_nil)) (by show 2 ≤ 100000; decide)) da_nil) q1)) ?_
  refine dss_cons (S1 := { src := some s1 }) (ρ1 := [.scr script, .src, x2, .dat (.list (eMs ms)), x4, x5, .dat v, .dat (.str t1)]) (ds_if (x := false) (dt_eq (dt_w (dw_or (dt_cmp op_ne (de_cb cr Bl.repr (by decide +kernel) (da_cons (de_call GG.jud hr (da_cons (de_var 3 (pv 3) rfl) (da_cons (de_var 6 (pv 6) rfl) da_nil)) q3) da_nil) q2) (de_cb cr Bl.repr (by decide +kernel) (da_cons (de_call GG.jdg (hr.mono (by decide)) (da_cons (de_var 3 (pv 3) rfl) (da_cons (de_var 6 (pv 6) rfl) da_nil)) q4) da_nil) q2) rv_neS (nomark _)) fun _ => dw_or1 (dt_cmp op_ne (de_cb cr Bl.repr (by decide +kernel) (da_cons (de_lst (da_cons (de_var 3 (pv 3) rfl) (da_cons (de_var 6 (pv 6) rfl) da_nil)) (by show 2 ≤ 100000; decide)) da_nil) q1) (de_var 7 (pv 7) rfl) rv_neS (nomark _)))) (by rw [decide_eq_true rfl, decide_eq_true rfl]; rfl)) (fun z => by cases z) (fun _ => dss_nil)) ?_
  exact dss_drop 5 (dss_drop 6 (dss_drop 7 (dss_nx dss_nil rfl)))
/-- one lap -/
theorem lap_body (Bl : Bl mg) (GG : LawG P w K mg base) (hK : ∃ o, K.lookup sysModules = some o) (hr : Room 10 (A.deeper (envOfC "law" (defScope (top 99)) s.heap.objs.size f cdv)))
    (hg : (A.deeper (envOfC "law" (defScope (top 99)) s.heap.objs.size f cdv)).guards = some []) (hu : (A.deeper (envOfC "law" (defScope (top 99)) s.heap.objs.size f cdv)).units + 9001 < cLine) (s0 : G.Src) {x2 : Sl} :
    DSs (lawX P w K mg base f cdv A outer s H E) [.scr script, .src, x2, .no, .no, .no, .no, .no] { src := some s0 } lapB (.nx [.scr script, .src, .no, .no, .no, .no, .no, .no] { src := some (lapS s0) }) := by
  obtain ⟨l1, l2, l3⟩ := dList_ok s0
  have g3 := pick_range (dList s0).2 (show (0 : Int) < 3 by decide)
  have g2 := pick_range (pick (dList s0).2 3).2 (show (0 : Int) < 2 by decide)
  have q1 := R_dlist.mk s0
  have q2 := R_pick.mk (dList s0).2 3 (by show (3 : Nat) < 2 ^ 60; decide)
  have q3 := R_pick.mk (pick (dList s0).2 3).2 2 (by show (2 : Nat) < 2 ^ 60; decide)
  unfold lapS
  generalize pick (pick (dList s0).2 3).2 2 = p2 at *
  generalize pick (dList s0).2 3 = p1 at *
  generalize dList s0 = L at *
  obtain ⟨L, s1⟩ := L
  obtain ⟨i1, s2⟩ := p1
  obtain ⟨i2, s3⟩ := p2
  replace l1 : ∀ m ∈ L, Dm 25 m := l1
  replace l2 : 1 ≤ L.length := l2
  replace l3 : L.length ≤ 4 := l3
  replace g3 : 0 ≤ i1 ∧ i1 < 3 := g3
  replace g2 : 0 ≤ i2 ∧ i2 < 2 := g2
  have wm : ∀ m ∈ L, Wm m := fun m hm => (l1 m hm).wm
  have gin := great_in g3
  have ait : atI (greats.map fun m => eM m) i1 = some (eM (greats.getD i1.toNat idM)) := atI_map (fun m => eM m) greats idM g3 (by decide)
  obtain ⟨m1, m2, m3⟩ := moves_ok (k := i2.toNat) l1 l2 l3 gin
  have q4 := R_lwhole.mk L (ms_of wm) (by omega) (spots_ok wm)
  have q5 := R_judge.mk (.tuple (eMs L)) _ L (.inr rfl) (due_ok wm (by omega))
  rw [judge_due l1] at q5
  have cg := cutg (g := greats.getD i1.toNat idM) g2
  have lg : ([eM (greats.getD i1.toNat idM)].take (HT.sIx ([eM (greats.getD i1.toNat idM)] : List PyData).length ([eM (greats.getD i1.toNat idM)] : List PyData).length (some i2))).length ≤ 1 := by rw [List.length_take]; exact Nat.min_le_right _ _
  show DSs _ _ _ _ (.nx _ { src := some (turnS (L ++ [greats.getD i1.toNat idM].take i2.toNat) s3 6) })
  generalize whD (wholeL L) = due at *
  generalize greats.getD i1.toNat idM = g at *
  refine dss_cons (S1 := { src := some s1 }) (ρ1 := [.scr script, .src, x2, .dat (.list (eMs L)), .no, .no, .no, .no]) (ds_set (i := 3) sc_law.nd rfl (.inl rfl) (de_callS GG.lst (hr.mono (by decide)) rfl (pv 1) da_nil rfl q1)) ?_
  refine dss_cons (S1 := { src := some s2 }) (ρ1 := [.scr script, .src, x2, .dat (.list (eMs L)), .dat (eM g), .no, .no, .no]) (ds_set (i := 4) (d := eM g) sc_law.nd rfl (.inl rfl) (de_ixL (ds := greats.map fun m => eM m) (i := i1) (S1 := { src := some s1 }) (de_lst (da_cons (de_tup (da_cons de_int (da_cons de_int (da_cons de_int (da_cons de_int da_nil)))) (by show 4 ≤ 100000; decide)) (da_cons (de_tup (da_cons de_int (da_cons de_int (da_cons de_int (da_cons de_int da_nil)))) (by show 4 ≤ 100000; decide)) (da_cons (de_tup (da_cons de_int (da_cons de_int (da_cons de_int (da_cons de_int da_nil)))) (by show 4 ≤ 100000; decide)) da_nil))) (by show 3 ≤ 100000; decide)) (de_callS GG.pck (hr.mono (by decide)) rfl (pv 1) (da_cons de_int da_nil) rfl q2) ait)) ?_
  refine dss_cons (S1 := { src := some s2 }) (ρ1 := [.scr script, .src, x2, .dat (.list (eMs L)), .dat (eM g), .no, .no, .no]) (ds_if (x := false) (dt_eq (dt_cmp op_notN (de_call GG.jud hr (da_cons (de_ct call_tuple_of Bl.tuple (by decide +kernel) (da_cons (de_var 3 (pv 3) rfl) da_nil) rc_tupL) (da_cons (de_call GG.whl (hr.mono (by decide)) (da_cons (de_var 3 (pv 3) rfl) da_nil) q4) da_nil)) q5) de_non rv_notN (nomark _)) rfl) (fun z => by cases z) (fun _ => dss_nil)) ?_
  refine dss_cons (S1 := { src := some s3 }) (ρ1 := [.scr script, .src, x2, .dat (.list (eMs (L ++ [g].take i2.toNat))), .dat (eM g), .no, .no, .no]) (ds_set (i := 3) (d := .list (eMs (L ++ [g].take i2.toNat))) sc_law.nd rfl (.inl rfl) (de_eq (de_cat (ds := eMs L) (S1 := { src := some s2 }) (de_var 3 (pv 3) rfl) (de_cutL (ds := [eM g]) (i := i2) (S1 := { src := some s2 }) (de_lst (da_cons (de_var 4 (pv 4) rfl) da_nil) (by show 1 ≤ 100000; decide)) (de_callS GG.pck (hr.mono (by decide)) rfl (pv 1) (da_cons de_int da_nil) rfl q3)) ?_) ?_)) ?_
  · rw [List.length_map]
    omega
  · rw [cg, eMs, eMs, eMs, List.map_append]
  generalize L ++ [g].take i2.toNat = ms at *
  refine dss_forR1 (n := 6) (S0 := { src := some s3 }) rfl PassesOwn.never Bl.range (da_cons de_int da_nil) (by decide) (fun _ => [.scr script, .src, x2, .dat (.list (eMs ms)), .dat (eM g), .no, .no, .no]) (fun j => [.scr script, .src, x2, .dat (.list (eMs ms)), .dat (eM g), .dat (.int (0 + (j : Nat))), .no, .no]) (fun j => { src := some (turnS ms s3 j) }) rfl rfl (fun i _ => dg_name (i := 5) sc_law.nd rfl (.inl rfl)) (fun j _ => turn_body Bl GG hK hr hg hu m1 m2 m3) ?_
  exact dss_drop 2 (dss_drop 3 (dss_drop 4 (dss_nx dss_nil rfl)))
/-- the law's body gives True -/
theorem law_body (Bl : Bl mg) (GG : LawG P w K mg base) (hK : ∃ o, K.lookup sysModules = some o) (hr : Room 10 (A.deeper (envOfC "law" (defScope (top 99)) s.heap.objs.size f cdv)))
    (hg : (A.deeper (envOfC "law" (defScope (top 99)) s.heap.objs.size f cdv)).guards = some []) (hu : (A.deeper (envOfC "law" (defScope (top 99)) s.heap.objs.size f cdv)).units + 9001 < cLine) (hl : script.length ≤ 63) :
    DSs (lawX P w K mg base f cdv A outer s H E) [.scr script, .no, .no, .no, .no, .no, .no, .no] {} (defBody (top 99)) (.rt (.bool true) { src := some (lapsS (openC script) 4) }) := by
  have q := R_judge.mk (.list (eMs [lastM])) _ [lastM] (.inl rfl) last_jok
  rw [last_eq] at q
  refine dss_cons (ds_open (i := 1) (ip := 0) GG.opn (hr.mono (by decide)) sc_law.nd rfl (.inl rfl) rfl (pv 0) (by omega) rfl) ?_
  generalize openC script = s0
  refine dss_forR1 (n := 4) (S0 := { src := some s0 }) rfl PassesOwn.never Bl.range (da_cons de_int da_nil) (by decide) (fun _ => [.scr script, .src, .no, .no, .no, .no, .no, .no]) (fun i => [.scr script, .src, .dat (.int (0 + (i : Nat))), .no, .no, .no, .no, .no]) (fun i => { src := some (lapsS s0 i) }) rfl rfl (fun i _ => dg_name (i := 2) sc_law.nd rfl (.inl rfl)) (fun i _ => lap_body Bl GG hK hr hg hu (lapsS s0 i)) ?_
  exact dss_one (ds_ret (de_cmp (op_eqD hr.units) (de_call GG.jud hr (da_cons (de_lst (da_cons (de_tup (da_cons de_int (da_cons de_int (da_cons de_int (da_cons de_int da_nil)))) (by show 4 ≤ 100000; decide)) da_nil) (by show 1 ≤ 100000; decide)) (da_cons (de_tup (da_cons de_str (da_cons de_int (da_cons (de_tup (da_cons (de_tup (da_cons de_int (da_cons de_int da_nil)) (by show 2 ≤ 100000; decide)) da_nil) (by show 1 ≤ 100000; decide)) da_nil))) (by show 3 ≤ 100000; decide)) da_nil)) q) (de_tup (da_cons de_str da_nil) (by show 1 ≤ 100000; decide)) (rv_eqD (by decide +kernel) (by decide +kernel)) (nomark _)))
end
end
end Bm
namespace G
open PySem PySem.Spec PyProof.Rows L2
/-! ### a law that shows values: its call at the claim's own caller -/
section
variable {P : Program} {w : World} {K : PySem.W.Frag} {mg : Str → Option Value} {base : Heap}
/-- the def runs at the claim's caller: its body is asked there alone -/
theorem run_top {f : Addr} {x y : Str} {params : Arguments} {body : List Stmt} {scope : Scope} {fd : FuncData} {N : List Str} {s : Shared} {H : Hp} {u : Value} {v : V} {Q : VK}
    (F : FunD K x x params body scope [] [] f fd) (S : FnScope N [y] scope) (hb : ∀ (s : Shared) (u : Value), BindsTo s fd ⟨[u], []⟩ [(y, u)]) (e0 : Env0 P w K mg base callerA [] s H) (r : RelV v u)
    (B : ∀ cdv : Value, ∃ t, PSs (cxOf CX0 P w K mg base N x scope f cdv callerA [] s H E0) body t ∧ t { nx := fun _ H' => Q .non H', rt := Q } (L2.start N [v]) H) :
    codeAny (model P w) callerA (.call (.ref f) ⟨[u], []⟩) (fun r s' => ∃ z, r = .ok (.ret z) ∧ CE [] P w H s Q z s') s := by
  obtain ⟨oc, od, dV, kV, doc, pm, an, cdv, ct, osl, efd, lk, hcd, _, _⟩ := F.ex
  subst efd
  have stay : ∀ b o, base.get? b = some o → s.heap.get? b = some o := fun b o e => (e0.bs b o e).1
  have KX : K.In s.heap := e0.mod.kin.keeps stay
  have nolim : s.heap.NoLimit := e0.mod.nolimit.keeps stay
  obtain ⟨t, T, hq⟩ := B cdv
  have kinds : ∀ p ∈ [y].zip [u], scope.names.lookup p.1 = some .local ∨ (scope.names.lookup p.1 = some .cell ∧ ((cellsFrom (s.heap.objs.size + 1) scope.names []).lookup p.1).isSome = true) := fun p hp => by
    have e : p.1 = y := by rw [List.mem_singleton.mp hp]
    rw [e]
    exact (S.par y List.mem_cons_self).imp id fun q => ⟨q, PySem.W.cellsFrom_some _ _ _ (.inl q)⟩
  refine codeAny_call_function (show callerA.depth < recursionLimit by decide) (KX _ _ lk) rfl S.co S.gen rfl (PySem.W.codeRec_of KX hcd) (hb s u _ _ _ _ ?_)
  refine wpAny_newFunctionEnv_cells S.kind kinds fun env he s1 st => ?_
  cases he
  refine ⟨nolim.keeps st.toInCall.keep, codeAny_func ?_⟩
  have I0 := inv_start (CX := CX0) (E := E0) (f := f) (qual := x) (cd := cdv) (A := callerA) S rfl e0 (show [v].length = [y].length from rfl) (.cons r .nil) st
  refine wpAny_mono (T.run [] s1 (L2.start N [v]) H _ I0 hq) (fun fl s' z => ?_) fun e s' z => ?_
  · cases fl with
    | ret q => obtain ⟨v', σ', H', J, rv, k⟩ := z; exact ⟨q, rfl, v', H', J.os, J.bare, J.base, J.hok, rv, k⟩
    | next => obtain ⟨σ', H', J, k⟩ := z; exact ⟨Value.none, rfl, .non, H', J.os, J.bare, J.base, J.hok, rfl, k⟩
    | brk => exact z.elim fun _ y => y.elim fun _ y => y.2.elim
    | cont => exact z.elim fun _ y => y.elim fun _ y => y.2.elim
  · exact wpAny_mono z (fun _ _ y => y.elim) fun _ _ y => y.elim
/-- the script as it is tracked at the call: an object of the module, or known by itself -/
theorem scr_heap {h : Heap} {a : Addr} {us : List Value} {ns : List Int} (KX : K.In h) (ha : h.get? a = some { cls := .type "list", data := .seq us.toArray }) (hi : IntsAre us ns) (hl : ns.length ≤ sizeLine) :
    ∃ H : Hp, SqL K H a (ns.map V.int) ∧ HOk P w H h ∧ (∀ b, H b ≠ none → b = a ∧ K.lookup a = none) ∧ ∀ b u, H b = some u → ∃ o xs, u = .frz o (.lst xs) := by
  have rv : Vals (ns.map V.int) us := vals_ints hi
  have len : us.length ≤ sizeLine := by rw [hi.length]; exact hl
  cases hk : K.lookup a with
  | some o =>
    have e := (KX a o hk).symm.trans ha
    cases e
    exact ⟨fun _ => none, .inr ⟨_, us.toArray, _, hk, rfl, rfl, rfl, by rw [List.size_toArray]; exact len, by simpa using rv⟩, (fun _ _ z => by cases z), fun _ z => absurd rfl z, fun _ _ z => by cases z⟩
  | none =>
    refine ⟨fun b => if b = a then some (.frz { cls := .type "list", data := .seq us.toArray } (.lst (ns.map V.int))) else none, .inl (.inr ⟨_, if_pos rfl⟩), fun b u z => ?_, fun b z => ?_, fun b u z => ?_⟩
    · by_cases q : b = a
      · subst q
        have z2 := (if_pos rfl).symm.trans z
        cases z2
        exact ⟨ha, by rw [List.length_map]; exact hl, us, 0, rv, ha⟩
      · have z2 := (if_neg q).symm.trans z
        cases z2
    · by_cases q : b = a
      · exact ⟨q, rfl⟩
      · exact absurd (if_neg q) z
    · by_cases q : b = a
      · have z2 := (if_pos q).symm.trans z
        cases z2
        exact ⟨_, _, rfl⟩
      · have z2 := (if_neg q).symm.trans z
        cases z2
/-- the law's call, from its body at that caller -/
theorem top_call {mb : Str → Option Value} {fa a : Addr} {x y : Str} {params : Arguments} {body : List Stmt} {scope : Scope} {fd : FuncData} {N : List Str} {st : Shared} {us : List Value} {ns : List Int}
    (KX : K.In st.heap) (G : st.heap.Ns mainGlobals mg) (Gb : st.heap.Ns builtinsNs mb) (bt : ∀ x : Str, x ≠ "__name__" → mb x = bootBuiltins x) (nolim : st.heap.NoLimit) (gens : st.gens = #[])
    (ha : st.heap.get? a = some { cls := .type "list", data := .seq us.toArray }) (hi : IntsAre us ns) (hl : ns.length ≤ sizeLine) (F : FunD K x x params body scope [] [] fa fd) (S : FnScope N [y] scope) (hb : ∀ (s : Shared) (u : Value), BindsTo s fd ⟨[u], []⟩ [(y, u)])
    (B : ∀ (base : Heap) (H : Hp) (Q : VK) (cdv : Value), K.In base → base.Ns mainGlobals mg → SqL K H a (ns.map V.int) → (∀ H', Q (.bl true) H') →
      ∃ t, PSs (cxOf CX0 P w K mg base N x scope fa cdv callerA [] st H E0) body t ∧ t { nx := fun _ H' => Q .non H', rt := Q } (L2.start N [.ref a]) H) :
    codeAny (model P w) callerA (.call (.ref fa) ⟨[.ref a], []⟩) (fun r s' => r = .ok (.ret (.bool true)) ∧ OldK st.heap s'.heap ∧ s'.os = st.os ∧ AllBare s'.gens) st := by
  obtain ⟨H, sq, hok, own, frz⟩ := scr_heap (P := P) (w := w) KX ha hi hl
  have free_of : ∀ {b : Addr} {o : Obj}, st.heap.get? b = some o → (b = a → K.lookup a = none → False) → H b = none := fun {b o} e n => by
    cases q : H b with
    | none => rfl
    | some u =>
      obtain ⟨e1, e2⟩ := own b (by rw [q]; exact fun z => by cases z)
      exact (n e1 e2).elim
  have nsB : ∀ {b : Addr} {m : Str → Option Value}, st.heap.Ns b m → (hidT st.heap H).Ns b m := fun {b m} ⟨o, es, ep, e, d, r⟩ =>
    ⟨o, es, ep, hidT_get e (free_of e fun z _ => by subst z; rw [ha] at e; cases e; cases d), d, r⟩
  have KB : K.In (hidT st.heap H) := fun b o e => hidT_get (KX b o e) (free_of (KX b o e) fun z n => by subst z; rw [n] at e; cases e)
  obtain ⟨mc, c1, c2⟩ := nolim
  have e0 : Env0 P w K mg (hidT st.heap H) callerA [] st H := ⟨rfl, ⟨KB, nsB G, ⟨mb, nsB Gb, bt⟩, ⟨mc, nsB c1, c2⟩⟩, fun b o e => of_hidT e, Nat.le_of_eq (hidT_size _ _), trivial, fun b z => absurd z List.not_mem_nil, hok, .of_eq gens⟩
  refine codeAny_mono (run_top (Q := fun v _ => v = .bl true) F S hb e0 (v := .ref a) rfl fun cdv => B _ H (fun v _ => v = .bl true) cdv KB (nsB G) sq fun _ => rfl) fun r s' h => ?_
  obtain ⟨z, rfl, v, H', os, bare, un, hok', rz, hv⟩ := h
  subst hv
  have ez : z = Value.bool true := rz
  subst ez
  refine ⟨rfl, OldK.of_keep fun b o e => ?_, os, bare⟩
  cases q : H b with
  | none => exact un.keep b o e q List.not_mem_nil List.not_mem_nil
  | some u =>
    obtain ⟨ob, xs, rfl⟩ := frz b u q
    have k1 := (hok b _ q).1
    have k2 := (hok' b _ (un.frzs b ob _ q)).1
    rw [e] at k1
    cases k1
    exact k2
end
end G
set_option maxHeartbeats 0
namespace Bm
open PySem PySem.Spec PyProof.Rows L2 G
/-! ### the head: what stands behind the top -/
abbrev dd (x : PySem.Str) (i : Nat) : He.DefD := ⟨(x, none), x, x, defArgs (top i), defBody (top i), defScope (top i), [], []⟩
def fn0 : List He.DefD := [dd "is_number" 5, dd "is_row_of_numbers" 6, dd "fraction" 7, dd "is_fraction" 8, dd "plus" 9, dd "minus" 10, dd "times_of" 11, dd "divided" 12, dd "is_prime" 15, dd "split_off" 16, dd "parts" 17, dd "raised" 18, dd "power_of" 19, dd "inverse" 20, dd "rest" 21, dd "ball" 24, dd "least_about" 25, dd "in_form" 27, dd "size" 28, dd "sum_of" 29, dd "is_move" 30, dd "after" 31, dd "back" 32, dd "has_more" 34, dd "ball_of" 35, dd "led" 36, dd "steps" 38, dd "on_road" 39, dd "stretch" 42, dd "resting" 43]
def fn1 : List He.DefD := [dd "kind" 44, dd "is_whole" 46, dd "told_by" 47, dd "is_letter" 50, dd "is_word" 51, dd "word_move" 52, dd "keeps_some" 54, dd "judge_whole" 55, dd "_law_raised" 57, dd "_law_open_cells" 58, dd "_law_pick" 59, dd "_law_common" 60, dd "_law_fraction" 61, dd "_law_sum" 62, dd "_law_product" 63, dd "_law_parts" 64, dd "_law_power" 65, dd "_law_turned" 66, dd "_law_ball" 67, dd "_law_has" 68, dd "_law_steps" 69, dd "_law_road" 70, dd "_law_move" 71, dd "_law_after" 72, dd "_law_back" 73, dd "_law_size" 74, dd "_law_led" 75, dd "_law_stretch" 76, dd "_law_draw_prime" 77, dd "_law_draw_move" 78]
def fn2 : List He.DefD := [dd "_law_word_move" 79, dd "_law_draw_word" 80, dd "_law_told_by" 81, dd "_law_is_whole" 82, dd "_law_start" 83, dd "_law_keeps_some" 84, dd "_law_nearest_common" 85, dd "_law_grid_of" 86, dd "_law_primes_of" 87, dd "_law_bad_primes" 88, dd "_law_barring" 89, dd "_law_whole" 90, dd "_law_draw_whole" 91, dd "_law_draw_grid" 92, dd "_law_draw_list" 93, dd "_law_is_number" 94, dd "_law_is_move" 95, dd "_law_is_word" 96, dd "_law_judged" 97, dd "_law_asked" 98, dd "law" 99]
def fn : List He.DefD := fn0 ++ fn1 ++ fn2
def fa0 : List He.Fa := [.glo "is_number", .glo "is_row_of_numbers", .glo "fraction", .glo "is_fraction", .glo "plus", .glo "minus", .glo "times_of", .glo "divided", .glo "is_prime", .glo "split_off", .glo "parts", .glo "raised", .glo "power_of", .glo "inverse", .glo "rest", .glo "ball", .glo "least_about", .glo "in_form", .glo "size", .glo "sum_of", .glo "is_move", .glo "after", .glo "back", .glo "has_more", .glo "ball_of", .glo "led", .glo "steps", .glo "on_road", .glo "stretch", .glo "resting"]
def fa1 : List He.Fa := [.glo "kind", .glo "is_whole", .glo "told_by", .glo "is_letter", .glo "is_word", .glo "word_move", .glo "keeps_some", .glo "judge_whole", .glo "_law_raised", .glo "_law_open_cells", .glo "_law_pick", .glo "_law_common", .glo "_law_fraction", .glo "_law_sum", .glo "_law_product", .glo "_law_parts", .glo "_law_power", .glo "_law_turned", .glo "_law_ball", .glo "_law_has", .glo "_law_steps", .glo "_law_road", .glo "_law_move", .glo "_law_after", .glo "_law_back", .glo "_law_size", .glo "_law_led", .glo "_law_stretch", .glo "_law_draw_prime", .glo "_law_draw_move"]
def fa2 : List He.Fa := [.glo "_law_word_move", .glo "_law_draw_word", .glo "_law_told_by", .glo "_law_is_whole", .glo "_law_start", .glo "_law_keeps_some", .glo "_law_nearest_common", .glo "_law_grid_of", .glo "_law_primes_of", .glo "_law_bad_primes", .glo "_law_barring", .glo "_law_whole", .glo "_law_draw_whole", .glo "_law_draw_grid", .glo "_law_draw_list", .glo "_law_is_number", .glo "_law_is_move", .glo "_law_is_word", .glo "_law_judged", .glo "_law_asked", .glo "law"]
def faB : List He.Fa := [.free "len", .free "isinstance", .free "all", .free "max", .free "min", .free "abs", .free "int", .free "bool", .free "str", .free "tuple", .free "list", .free "sorted", .free "repr", .free "range", .free "enumerate", .glo "PRIMES", .glo "ZERO", .glo "START", .glo "STILL"]
def fa : List He.Fa := faB ++ (fa0 ++ (fa1 ++ (fa2)))
def nm0 : List PySem.Str := ["gcd", "BallError", "BadBall", "PRIMES", "ZERO", "START", "STILL", "is_number", "is_row_of_numbers", "fraction", "is_fraction", "plus", "minus", "times_of", "divided", "is_prime", "split_off", "parts", "raised", "power_of", "inverse", "rest", "ball", "least_about", "in_form", "size", "sum_of", "is_move", "after", "back"]
def nm1 : List PySem.Str := ["has_more", "ball_of", "led", "steps", "on_road", "stretch", "resting", "kind", "is_whole", "told_by", "is_letter", "is_word", "word_move", "keeps_some", "judge_whole", "_law_raised", "_law_open_cells", "_law_pick", "_law_common", "_law_fraction", "_law_sum", "_law_product", "_law_parts", "_law_power", "_law_turned", "_law_ball", "_law_has", "_law_steps", "_law_road", "_law_move"]
def nm2 : List PySem.Str := ["_law_after", "_law_back", "_law_size", "_law_led", "_law_stretch", "_law_draw_prime", "_law_draw_move", "_law_word_move", "_law_draw_word", "_law_told_by", "_law_is_whole", "_law_start", "_law_keeps_some", "_law_nearest_common", "_law_grid_of", "_law_primes_of", "_law_bad_primes", "_law_barring", "_law_whole", "_law_draw_whole", "_law_draw_grid", "_law_draw_list", "_law_is_number", "_law_is_move", "_law_is_word", "_law_judged", "_law_asked"]
def nm : List PySem.Str := nm0 ++ nm1 ++ nm2
abbrev R : PySem.W.OpenRow := PySem.W.OpenLaw.row PySem.Challenge.rw_ballmoves_k59_whole_judged
/-- a tuple of numbers at an address -/
def rowB (K : PySem.W.Frag) (a : Addr) (ns : List Int) : Bool := match K.lookup a with
  | some ⟨.type c, _, .seq its _, _⟩ => decide (c = "tuple") && (decide (its.size ≤ sizeLine) && He.relAll (ns.map V.int) its.toList)
  | _ => false
/-- the second item of the tuple START -/
def innA (K : PySem.W.Frag) : Addr := match K.lookup (He.ga K "START") with
  | some ⟨_, _, .seq its _, _⟩ => (match its.toList with
    | [_, .ref b] => b
    | _ => 0)
  | _ => 0
theorem rowB_ok {K : PySem.W.Frag} {a : Addr} {ns : List Int} (h : rowB K a ns = true) (H : Hp) : SqT K H a (ns.map V.int) := by
  unfold rowB at h
  split at h
  · rename_i c od its n osl q
    simp only [Bool.and_eq_true] at h
    obtain ⟨h1, h2, h3⟩ := h
    exact .inr ⟨_, its, n, q, congrArg Value.type (of_decide_eq_true h1), rfl, of_decide_eq_true h2, He.relAll_ok h3⟩
  · cases h
def P97I : List Int := P97.map fun (p : Nat) => (p : Int)
/-- the module's constants, gcd, and the loaded modules' own object -/
def exB (K : PySem.W.Frag) : Bool := (K.lookup sysModules).isSome && (He.eqO (PySem.W.nsIn K mainGlobals "gcd") (some (some (.builtin "math.gcd"))) && (rowB K (He.ga K "PRIMES") P97I && (rowB K (He.ga K "ZERO") [0, 1] && (rowB K (He.ga K "STILL") [1, 0, 0, 1] &&
  (He.tupB K "START" [.int 0, .adr innA] && rowB K (innA K) [0, 1])))))
abbrev AlX : Type := He.AlD × Bool
def kOf (g : Addr → Option Obj) : PySem.W.Frag := He.frG g (sysModules :: He.asD g 2)
def obX (g : Addr → Option Obj) : AlX := (He.obsD fa fn (kOf g), exB (kOf g))
def hk : PySem.W.Hook where
  α := AlX
  obs := fun s => obX s.heap.get?
  val := fun _ => (He.valD fn, true)
  says := fun _ h => ∃ K : PySem.W.Frag, K.In h ∧ He.SaysD fa fn K ∧ exB K = true
  of := fun _ _ e => ⟨_, He.frG_in, congrArg Prod.fst e, congrArg Prod.snd e⟩
  keeps := fun _ _ _ ⟨K, k1, k2, k3⟩ k => ⟨K, PySem.W.Frag.In.keeps k1 k, k2, k3⟩
def ob (s : PySem.W.SharedT) : AlX := obX (HeadRun.getT s)
theorem ob_eq (s : PySem.W.SharedT) : ob s = hk.obs s.abs := by
  have e : HeadRun.getT s = s.abs.heap.get? := funext (HeadRun.getT_eq s)
  unfold ob
  rw [e] <;> rfl
theorem map_two {α β γ : Type} {o : Option α} {f : α → β} {g : α → γ} {a : β} {b : γ} (h1 : o.map f = some a) (h2 : o.map g = some b) : o.map (fun x => (f x, g x)) = some (a, b) := by
  cases o with
  | none => cases h1
  | some x =>
    have e1 : f x = a := Option.some.inj h1
    have e2 : g x = b := Option.some.inj h2
    show some (f x, g x) = _
    rw [e1, e2]
/-- the run, looked at one thing after another (each look by itself: less memory) -/
noncomputable def ran (w : World) : Option (Shared × PySem.W.SharedT) := HeadRun.wholeF (fun p => HeadRun.stepQ (HeadRun.denQ HeadRun.tabQ) p w) HeadRun.fenceQ 6000 R.prog
abbrev Qv : Program := PySem.W.view R.prog [99]
theorem run_a (w : World) : (ran w).map (fun x => HeadRun.looksF R.prog x.1.heap x.2.abs) = some true := by
  unfold ran
  kernel_rfl
theorem run_b (w : World) : (ran w).map (fun x => HeadRun.seenQ Qv nm (importedModules R.prog.main.body) (fun s => PySem.W.xlAt Qv [] s && PySem.W.recOk R.toRowW.records s) x.2.abs) = some (PySem.W.openGood Qv nm) := by
  unfold ran
  kernel_rfl
theorem run_c (w : World) : (ran w).map (fun x => He.obsD fa fn (kOf (HeadRun.getT x.2))) = some (He.valD fn) := by
  unfold ran
  kernel_rfl
theorem run_d (w : World) : (ran w).map (fun x => exB (kOf (HeadRun.getT x.2))) = some true := by
  unfold ran
  kernel_rfl
theorem run (w : World) : HeadRun.RunEqI R Qv hk ob 6000 nm w := by
  have h := map_two (run_a w) (map_two (run_b w) (map_two (run_c w) (run_d w)))
  unfold HeadRun.RunEqI
  exact h
section
variable {K : PySem.W.Frag} {mg : PySem.Str → Option Value} {h : Heap}
theorem has_of (X : K.In h) (G : h.Ns mainGlobals mg) (c : He.SaysD fa fn K) (i : Nat) {x : PySem.Str} {n : Nat} (h1 : fn[i]? = some (dd x n)) (h2 : fa[i + 19]? = some (.glo x)) : Has K mg x (top n) := by
  obtain ⟨fd, F⟩ := c.def_ i h1
  exact ⟨_, fd, F, He.glo_ok X G (c.fact _ h2)⟩
theorem bl_of (X : K.In h) (G : h.Ns mainGlobals mg) (c : He.SaysD fa fn K) (e : exB K = true) : Bl mg where
  len := He.free_ok X G (c.fact 0 (f := .free "len") rfl)
  isinstance := He.free_ok X G (c.fact 1 (f := .free "isinstance") rfl)
  all := He.free_ok X G (c.fact 2 (f := .free "all") rfl)
  max := He.free_ok X G (c.fact 3 (f := .free "max") rfl)
  min := He.free_ok X G (c.fact 4 (f := .free "min") rfl)
  abs := He.free_ok X G (c.fact 5 (f := .free "abs") rfl)
  int := He.free_ok X G (c.fact 6 (f := .free "int") rfl)
  bool := He.free_ok X G (c.fact 7 (f := .free "bool") rfl)
  str := He.free_ok X G (c.fact 8 (f := .free "str") rfl)
  tuple := He.free_ok X G (c.fact 9 (f := .free "tuple") rfl)
  list := He.free_ok X G (c.fact 10 (f := .free "list") rfl)
  sorted := He.free_ok X G (c.fact 11 (f := .free "sorted") rfl)
  repr := He.free_ok X G (c.fact 12 (f := .free "repr") rfl)
  range := He.free_ok X G (c.fact 13 (f := .free "range") rfl)
  enumerate := He.free_ok X G (c.fact 14 (f := .free "enumerate") rfl)
  gcd := PySem.W.mg_of X G (He.eqO_ok (Bool.and_eq_true_iff.mp (Bool.and_eq_true_iff.mp e).2).1)
theorem row_rp {a : Addr} {ns : List Int} (h : rowB K a ns = true) (H : Hp) : Rp K H (.ref a) (.tuple (ns.map PyData.int)) := .tup (rowB_ok h H) (RpAll.ofInts ns)
theorem cst_of (X : K.In h) (G : h.Ns mainGlobals mg) (c : He.SaysD fa fn K) (e : exB K = true) : Cst K mg := by
  unfold exB at e
  simp only [Bool.and_eq_true] at e
  obtain ⟨_, _, e1, e2, e3, e4, e5⟩ := e
  refine ⟨fun x d m => ?_⟩
  simp only [List.mem_cons, Prod.mk.injEq, List.not_mem_nil, or_false] at m
  rcases m with ⟨rfl, rfl⟩ | ⟨rfl, rfl⟩ | ⟨rfl, rfl⟩ | ⟨rfl, rfl⟩
  · exact ⟨_, He.glo_ok X G (c.fact 16 (f := .glo "ZERO") rfl), row_rp (ns := [0, 1]) e2⟩
  · exact ⟨_, He.glo_ok X G (c.fact 17 (f := .glo "START") rfl), fun H => .tup (He.tupB_ok e4 H) (.cons (.int 0) (.cons (row_rp (ns := [0, 1]) e5 H) .nil))⟩
  · exact ⟨_, He.glo_ok X G (c.fact 18 (f := .glo "STILL") rfl), row_rp (ns := [1, 0, 0, 1]) e3⟩
  · exact ⟨_, He.glo_ok X G (c.fact 15 (f := .glo "PRIMES") rfl), row_rp (ns := P97I) e1⟩
theorem sys_of (e : exB K = true) : ∃ o, K.lookup sysModules = some o := Option.isSome_iff_exists.mp (Bool.and_eq_true_iff.mp e).1
theorem good_of {P : Program} {w : World} {base : Heap} (X : K.In h) (G : h.Ns mainGlobals mg) (c : He.SaysD fa fn K) (e : exB K = true) : LawG P w K mg base := by
  have B := bl_of X G c e
  have C := cst_of X G c e
  have g_is_number := ok_is_number (P := P) (w := w) (base := base) B (has_of X G c 0 rfl rfl)
  have g_is_row := ok_is_row (P := P) (w := w) (base := base) B (has_of X G c 1 rfl rfl) g_is_number
  have g_fraction := ok_fraction (P := P) (w := w) (base := base) B (has_of X G c 2 rfl rfl)
  have g_is_fraction := ok_is_fraction (P := P) (w := w) (base := base) B (has_of X G c 3 rfl rfl) g_is_row
  have g_plus := ok_plus (P := P) (w := w) (base := base) B (has_of X G c 4 rfl rfl) g_fraction
  have g_minus := ok_minus (P := P) (w := w) (base := base) B (has_of X G c 5 rfl rfl) g_fraction
  have g_times := ok_times (P := P) (w := w) (base := base) B (has_of X G c 6 rfl rfl) g_fraction
  have g_divided := ok_divided (P := P) (w := w) (base := base) B (has_of X G c 7 rfl rfl) g_fraction
  have g_is_prime := ok_is_prime (P := P) (w := w) (base := base) B C (has_of X G c 8 rfl rfl) g_is_number
  have g_split_off := ok_split_off (P := P) (w := w) (base := base) B (has_of X G c 9 rfl rfl)
  have g_parts := ok_parts (P := P) (w := w) (base := base) B (has_of X G c 10 rfl rfl) g_split_off
  have g_raised := ok_raised (P := P) (w := w) (base := base) B (has_of X G c 11 rfl rfl)
  have g_power_of := ok_power_of (P := P) (w := w) (base := base) B (has_of X G c 12 rfl rfl) g_raised
  have g_inverse := ok_inverse (P := P) (w := w) (base := base) B (has_of X G c 13 rfl rfl)
  have g_rest := ok_rest (P := P) (w := w) (base := base) B (has_of X G c 14 rfl rfl) g_raised g_inverse
  have g_ball := ok_ball (P := P) (w := w) (base := base) B C (has_of X G c 15 rfl rfl) g_is_number g_is_fraction g_split_off g_power_of g_times g_rest g_fraction
  have g_in_form := ok_in_form (P := P) (w := w) (base := base) B (has_of X G c 17 rfl rfl)
  have g_size := ok_size (P := P) (w := w) (base := base) (has_of X G c 18 rfl rfl)
  have g_sum_of := ok_sum_of (P := P) (w := w) (base := base) (has_of X G c 19 rfl rfl)
  have g_is_move := ok_is_move (P := P) (w := w) (base := base) (has_of X G c 20 rfl rfl) g_is_row g_size g_in_form
  have g_after := ok_after (P := P) (w := w) (base := base) (has_of X G c 21 rfl rfl) g_in_form
  have g_back := ok_back (P := P) (w := w) (base := base) (has_of X G c 22 rfl rfl) g_in_form
  have g_is_whole := ok_is_whole (P := P) (w := w) (base := base) (has_of X G c 31 rfl rfl) g_size
  have g_told_by := ok_told_by (P := P) (w := w) (base := base) (has_of X G c 32 rfl rfl) g_after g_back
  have g_is_letter := ok_is_letter (P := P) (w := w) (base := base) B (has_of X G c 33 rfl rfl) g_is_number
  have g_is_word := ok_is_word (P := P) (w := w) (base := base) B (has_of X G c 34 rfl rfl) g_is_letter
  have g_word_move := ok_word_move (P := P) (w := w) (base := base) B C (has_of X G c 35 rfl rfl) g_after g_back
  have g_least_about := ok_least_about (P := P) (w := w) (base := base) B C (has_of X G c 16 rfl rfl) g_minus g_parts g_ball
  have g_has_more := ok_has_more (P := P) (w := w) (base := base) B (has_of X G c 23 rfl rfl) g_parts
  have g_ball_of := ok_ball_of (P := P) (w := w) (base := base) B (has_of X G c 24 rfl rfl) g_has_more g_divided g_times g_minus g_parts g_ball
  have g_led := ok_led (P := P) (w := w) (base := base) B (has_of X G c 25 rfl rfl) g_power_of g_times g_plus g_ball_of
  have g_steps := ok_steps (P := P) (w := w) (base := base) (has_of X G c 26 rfl rfl) g_least_about
  have g_on_road := ok_on_road (P := P) (w := w) (base := base) (has_of X G c 27 rfl rfl) g_least_about g_ball
  have g_stretch := ok_stretch (P := P) (w := w) (base := base) B (has_of X G c 28 rfl rfl) g_split_off g_size g_sum_of
  have g_resting := ok_resting (P := P) (w := w) (base := base) (has_of X G c 29 rfl rfl) g_led g_steps g_on_road g_stretch
  have g_kind := ok_kind (P := P) (w := w) (base := base) C (has_of X G c 30 rfl rfl) g_resting g_led g_stretch
  have g_keeps_some := ok_keeps_some (P := P) (w := w) (base := base) (has_of X G c 36 rfl rfl) g_kind
  have g_judge := ok_judge (P := P) (w := w) (base := base) B (has_of X G c 37 rfl rfl) g_is_move g_told_by g_is_whole g_is_prime g_is_word g_keeps_some g_word_move
  have g_lraised := ok_lraised (P := P) (w := w) (base := base) B (has_of X G c 38 rfl rfl)
  have g_lcommon := ok_lcommon (P := P) (w := w) (base := base) B (has_of X G c 41 rfl rfl)
  have g_lfraction := ok_lfraction (P := P) (w := w) (base := base) (has_of X G c 42 rfl rfl) g_lcommon
  have g_lsum := ok_lsum (P := P) (w := w) (base := base) (has_of X G c 43 rfl rfl) g_lfraction
  have g_lproduct := ok_lproduct (P := P) (w := w) (base := base) (has_of X G c 44 rfl rfl) g_lfraction
  have g_lparts := ok_lparts (P := P) (w := w) (base := base) (has_of X G c 45 rfl rfl)
  have g_lpower := ok_lpower (P := P) (w := w) (base := base) (has_of X G c 46 rfl rfl) g_lraised
  have g_lturned := ok_lturned (P := P) (w := w) (base := base) (has_of X G c 47 rfl rfl)
  have g_lball := ok_lball (P := P) (w := w) (base := base) (has_of X G c 48 rfl rfl) g_lparts g_lraised g_lturned g_lfraction
  have g_lhas := ok_lhas (P := P) (w := w) (base := base) (has_of X G c 49 rfl rfl) g_lparts g_lsum
  have g_lsteps := ok_lsteps (P := P) (w := w) (base := base) B (has_of X G c 50 rfl rfl) g_lparts g_lsum
  have g_lmove := ok_lmove (P := P) (w := w) (base := base) (has_of X G c 52 rfl rfl) g_lcommon
  have g_lafter := ok_lafter (P := P) (w := w) (base := base) (has_of X G c 53 rfl rfl) g_lmove
  have g_lback := ok_lback (P := P) (w := w) (base := base) (has_of X G c 54 rfl rfl) g_lmove
  have g_lsize := ok_lsize (P := P) (w := w) (base := base) (has_of X G c 55 rfl rfl)
  have g_lstretch := ok_lstretch (P := P) (w := w) (base := base) B (has_of X G c 57 rfl rfl) g_lparts g_lsize
  have g_lled := ok_lled (P := P) (w := w) (base := base) (has_of X G c 56 rfl rfl) g_lpower g_lproduct g_lsum g_lparts g_lball
  have g_lroad := ok_lroad (P := P) (w := w) (base := base) B (has_of X G c 51 rfl rfl) g_lsteps g_lhas g_lball
  have g_lstart := ok_lstart (P := P) (w := w) (base := base) (has_of X G c 64 rfl rfl)
  have g_lkeeps := ok_lkeeps (P := P) (w := w) (base := base) (has_of X G c 65 rfl rfl) g_lstretch g_lparts g_lsize
  have g_lprimes := ok_lprimes (P := P) (w := w) (base := base) B (has_of X G c 68 rfl rfl)
  have g_ltold := ok_ltold (P := P) (w := w) (base := base) (has_of X G c 62 rfl rfl) g_lafter g_lback
  have g_lis_whole := ok_lis_whole (P := P) (w := w) (base := base) (has_of X G c 63 rfl rfl) g_lsize
  have g_lword_move := ok_lword_move (P := P) (w := w) (base := base) (has_of X G c 60 rfl rfl) g_lafter g_lback
  have g_lbad := ok_lbad (P := P) (w := w) (base := base) B (has_of X G c 69 rfl rfl) g_lprimes g_lsize
  have g_lnear := ok_lnear (P := P) (w := w) (base := base) B (has_of X G c 66 rfl rfl) g_lstart g_lkeeps g_lled g_lroad g_lsteps
  have g_lbarring := ok_lbarring (P := P) (w := w) (base := base) B (has_of X G c 70 rfl rfl) g_lkeeps g_lafter
  have g_lgrid := ok_lgrid (P := P) (w := w) (base := base) B (has_of X G c 67 rfl rfl) g_lraised g_lproduct g_lpower g_lturned g_lmove
  have g_lwhole := ok_lwhole (P := P) (w := w) (base := base) (has_of X G c 71 rfl rfl) g_lbad g_lnear g_lbarring g_lgrid
  have g_lis_number := ok_lis_number (P := P) (w := w) (base := base) B (has_of X G c 75 rfl rfl)
  have g_lis_move := ok_lis_move (P := P) (w := w) (base := base) B (has_of X G c 76 rfl rfl) g_lis_number g_lsize g_lmove
  have g_lis_word := ok_lis_word (P := P) (w := w) (base := base) B (has_of X G c 77 rfl rfl) g_lis_number
  have g_ljudged := ok_ljudged (P := P) (w := w) (base := base) B (has_of X G c 78 rfl rfl) g_lis_move g_ltold g_lis_whole g_lis_number g_lprimes g_lis_word g_lkeeps g_lword_move
  have g_pick := ok_pick (P := P) (w := w) (base := base) B (has_of X G c 40 rfl rfl)
  have g_dprime := ok_dprime (P := P) (w := w) (base := base) B (has_of X G c 58 rfl rfl) g_pick
  have g_dmove := ok_dmove (P := P) (w := w) (base := base) B (has_of X G c 59 rfl rfl) g_pick g_lmove g_lafter g_lback g_lraised
  have g_dword := ok_dword (P := P) (w := w) (base := base) B (has_of X G c 61 rfl rfl) g_pick
  have g_dwhole := ok_dwhole (P := P) (w := w) (base := base) B (has_of X G c 72 rfl rfl) g_pick g_lafter
  have g_dgrid := ok_dgrid (P := P) (w := w) (base := base) B (has_of X G c 73 rfl rfl) g_pick g_lmove
  have g_dlist := ok_dlist (P := P) (w := w) (base := base) B (has_of X G c 74 rfl rfl) g_pick g_lafter g_lback g_dmove g_dprime g_dwhole g_dgrid
  have g_open := ok_open (P := P) (w := w) (base := base) B (has_of X G c 39 rfl rfl)
  have g_asked := ok_asked (P := P) (w := w) (base := base) B (has_of X G c 79 rfl rfl) g_pick g_lafter g_lwhole g_dgrid g_dprime g_dwhole g_dword
  exact ⟨g_judge, g_open, g_pick, g_dlist, g_lwhole, g_asked, g_ljudged⟩
end
/-- the body, at the claim's caller -/
theorem law_reads {P : Program} {w : World} {K : PySem.W.Frag} {mg : PySem.Str → Option Value} {base : Heap} {f a : Addr} {cdv : Value} {s : Shared} {H : Hp} {Q : VK} {ns : List Int} (B : Bl mg) (G : LawG P w K mg base) (hK : ∃ o, K.lookup sysModules = some o) (hl : ns.length ≤ 63) (sq : SqL K H a (ns.map V.int)) (hQ : ∀ H', Q (.bl true) H') :
    ∃ t, PSs (cxOf CX0 P w K mg base lawN "law" (defScope (top 99)) f cdv callerA [] s H E0) (defBody (top 99)) t ∧ t { nx := fun _ H' => Q .non H', rt := Q } (L2.start lawN [.ref a]) H := by
  have D := law_body (f := f) (cdv := cdv) (A := callerA) (outer := []) (s := s) (H := H) (E := E0) B G hK (⟨rfl, (by show callerA.depth + 1 + 3 * 10 + 5 < recursionLimit; decide), (by show callerA.units + 3 + 16 * 10 + 200 < cLine; decide)⟩ : Room 10 (callerA.deeper _)) rfl (by show callerA.units + 3 + 9001 < cLine; decide) hl
  refine ⟨_, PSs.nox D.ps, H, ⟨0, 0, 0⟩, ⟨Ex.rfl', rfl, fun i x z => ?_, fun _ z => (by cases z), fun _ z => (by cases z), fun z => (by cases z)⟩, fun v σ' ρ' H' Hi' a' _ _ rv => ?_⟩
  · match i, z with
    | 0, z => cases z; exact ⟨a, rfl, sq⟩
    | 1, z => cases z; trivial
    | 2, z => cases z; trivial
    | 3, z => cases z; trivial
    | 4, z => cases z; trivial
    | 5, z => cases z; trivial
    | 6, z => cases z; trivial
    | 7, z => cases z; trivial
    | i + 8, z => simp at z
  · cases rv
    exact hQ H'
theorem law_walk : PySem.W.WalkO (PySem.W.view R.prog [99]) nm (PySem.W.XL (PySem.W.view R.prog [99]) []) hk.says R.toRowW (HeadRun.topDef R.prog 99) [] (fun f vs => PySem.call f vs) := by
  refine Att.attach_call (l := PySem.Challenge.rw_ballmoves_k59_whole_judged) (n := 63) rfl (by kernel_rfl) fun w s0 s1 mg mb fn' o pm cd doc a vs ns Gr Y ho hd hcd hmg0 hobj hints hlen hg => ?_
  obtain ⟨K, KX, c, e⟩ := Y
  have B := bl_of KX Gr.T.g c e
  obtain ⟨fL, fd, F, hm⟩ := (has_of KX Gr.T.g c 80 (x := "law") (n := 99) rfl rfl).ex
  have hmg : mg ("law" : PySem.Str) = some (.ref fn') := by
    have e1 : (HeadRun.topDef R.prog 99).name = ("law" : PySem.Str) := by kernel_rfl
    rw [← e1]
    exact hmg0
  have ef := hmg.symm.trans hm
  cases ef
  have b := FunD.bindsA (ps := ["_law_script"]) F fun _ _ _ _ _ _ us hl => match us, hl with | [_], _ => rfl
  exact top_call (N := lawN) KX Gr.T.g Gr.T.b Gr.T.builtins Gr.T.nolimit hg hobj hints (Nat.le_trans hlen (by decide)) F sc_law (fun s v => b s [v] rfl) fun base H Q cdv kb gb sq hQ => law_reads B (good_of KX Gr.T.g c e) (sys_of e) hlen sq hQ
end Bm
open PySem PySem.W PySem.Calls PyProof.Rows
theorem PySem.Challenge.cw_ballmoves_k59_whole_judged_holds : PySem.Challenge.rw_ballmoves_k59_whole_judged.Holds := by
  w_on; o_law
  refine HeadRun.head_imp (r := Bm.R) (q := view Bm.R.prog [99]) (H := Bm.hk) (ob := Bm.ob) (M := 6000) (loose := Bm.nm) (d := HeadRun.topDef Bm.R.prog 99) (kwd := []) Bm.ob_eq Bm.run
    (by kernel_rfl) (by kernel_rfl) (by kernel_rfl) (by rfl) (by first | assumption | decide +kernel) (by decide +kernel) ⟨rfl, rfl, rfl, rfl, rfl, by decide +kernel⟩ ?hw Bm.law_walk
  case hw => w_witness2
