/- Plain facts on fractions: what New, Check, Add, Mul and Compare compute, and what they are as rational numbers. No program is in sight here. No condition. -/
namespace Go.Proofs.Ytgoicalffgehoaa

def gcdA (a b : Int) : Nat := Nat.gcd a.natAbs b.natAbs
def okB (n d : Int) : Bool := decide (n.natAbs / gcdA n d ≤ 1073741824) && decide (d.natAbs / gcdA n d ≤ 1073741824)
def newE (n d : Int) : Int := if d = 0 then 1 else if okB n d then 0 else 2
def newN (n d : Int) : Int := if d = 0 then 0 else if okB n d then (if decide (n < 0) = decide (d < 0) then ((n.natAbs / gcdA n d : Nat) : Int) else -((n.natAbs / gcdA n d : Nat) : Int)) else 0
def newD (n d : Int) : Int := if d = 0 then 0 else if okB n d then ((d.natAbs / gcdA n d : Nat) : Int) else 0
def validB (n d : Int) : Bool := decide (1 ≤ d ∧ d ≤ 1073741824 ∧ -1073741824 ≤ n ∧ n ≤ 1073741824 ∧ gcdA n d = 1)
def chkE (n d : Int) : Int := if validB n d then 0 else 50
def addE (an ad bn bd : Int) : Int := if validB an ad && validB bn bd then newE (an * bd + bn * ad) (ad * bd) else 50
def addN (an ad bn bd : Int) : Int := if validB an ad && validB bn bd then newN (an * bd + bn * ad) (ad * bd) else 0
def addD (an ad bn bd : Int) : Int := if validB an ad && validB bn bd then newD (an * bd + bn * ad) (ad * bd) else 0
def mulE (an ad bn bd : Int) : Int := if validB an ad && validB bn bd then newE (an * bn) (ad * bd) else 50
def mulN (an ad bn bd : Int) : Int := if validB an ad && validB bn bd then newN (an * bn) (ad * bd) else 0
def mulD (an ad bn bd : Int) : Int := if validB an ad && validB bn bd then newD (an * bn) (ad * bd) else 0
def cmp3 (x y : Int) : Int := if x < y then -1 else if y < x then 1 else 0
def cmpE (an ad bn bd : Int) : Int := if validB an ad && validB bn bd then 0 else 50
def cmpN (an ad bn bd : Int) : Int := if validB an ad && validB bn bd then cmp3 (an * bd) (bn * ad) else 0

/-! ## as rational numbers -/
def fitsQ (q : Rat) : Prop := q.num.natAbs ≤ 1073741824 ∧ q.den ≤ 1073741824
instance (q : Rat) : Decidable (fitsQ q) := by unfold fitsQ; exact inferInstance
def rE (q : Rat) : Int := if fitsQ q then 0 else 2
def rN (q : Rat) : Int := if fitsQ q then q.num else 0
def rD (q : Rat) : Int := if fitsQ q then (q.den : Int) else 0

theorem gcdA_comm (n d : Int) : gcdA n d = d.gcd n := by unfold gcdA Int.gcd; exact Nat.gcd_comm _ _

theorem den_Q {n d : Int} (h : d ≠ 0) : (Rat.divInt n d).den = d.natAbs / gcdA n d := by
  rw [Rat.den_divInt, if_neg h, gcdA_comm]

theorem num_Q {n d : Int} (h : d ≠ 0) : (Rat.divInt n d).num = if decide (n < 0) = decide (d < 0) then ((n.natAbs / gcdA n d : Nat) : Int) else -((n.natAbs / gcdA n d : Nat) : Int) := by
  rw [Rat.num_divInt, gcdA_comm]
  have hg : (d.gcd n : Int) ∣ n := Int.gcd_dvd_right d n
  rcases Int.lt_or_gt_of_ne h with hd | hd
  · rw [Int.sign_eq_neg_one_of_neg hd]
    by_cases hn : n < 0
    · rw [if_pos (by simp [hn, hd])]
      obtain ⟨m, rfl⟩ : ∃ m : Nat, n = -(m : Int) := ⟨n.natAbs, by omega⟩
      simp [Int.natCast_ediv]
    · rw [if_neg (by simp [hn, hd])]
      obtain ⟨m, rfl⟩ : ∃ m : Nat, n = (m : Int) := ⟨n.natAbs, by omega⟩
      rw [show (-1 : Int) * (m : Int) = -(m : Int) by omega, Int.neg_ediv_of_dvd hg]
      simp [Int.natCast_ediv]
  · rw [Int.sign_eq_one_of_pos hd]
    by_cases hn : n < 0
    · rw [if_neg (by simp [hn]; omega)]
      obtain ⟨m, rfl⟩ : ∃ m : Nat, n = -(m : Int) := ⟨n.natAbs, by omega⟩
      rw [Int.one_mul, Int.neg_ediv_of_dvd (by simpa using (Int.dvd_neg.1 hg))]
      simp [Int.natCast_ediv]
    · rw [if_pos (by simp [hn]; omega)]
      obtain ⟨m, rfl⟩ : ∃ m : Nat, n = (m : Int) := ⟨n.natAbs, by omega⟩
      simp [Int.natCast_ediv]

theorem natAbs_num_Q {n d : Int} (h : d ≠ 0) : (Rat.divInt n d).num.natAbs = n.natAbs / gcdA n d := by
  rw [num_Q h]; split
  · exact Int.natAbs_natCast _
  · rw [Int.natAbs_neg]; exact Int.natAbs_natCast _

theorem okB_iff {n d : Int} (h : d ≠ 0) : okB n d = true ↔ fitsQ (Rat.divInt n d) := by
  unfold okB fitsQ; rw [natAbs_num_Q h, den_Q h]; simp

theorem newE_Q {n d : Int} (h : d ≠ 0) : newE n d = rE (Rat.divInt n d) := by
  unfold newE rE; rw [if_neg h]; simp only [okB_iff h]
theorem newN_Q {n d : Int} (h : d ≠ 0) : newN n d = rN (Rat.divInt n d) := by
  unfold newN rN; rw [if_neg h, num_Q h]; simp only [okB_iff h]
theorem newD_Q {n d : Int} (h : d ≠ 0) : newD n d = rD (Rat.divInt n d) := by
  unfold newD rD; rw [if_neg h, den_Q h]; simp only [okB_iff h]

theorem valid_of_fits {q : Rat} (h : fitsQ q) : validB q.num q.den = true := by
  unfold validB; have := q.den_nz; have hr := q.reduced; unfold fitsQ at h
  simp only [decide_eq_true_eq]
  refine ⟨by omega, by omega, by omega, by omega, ?_⟩
  unfold gcdA; simpa using hr

theorem fits_of_valid {n d : Int} (h : validB n d = true) : ∃ q : Rat, fitsQ q ∧ n = q.num ∧ d = q.den := by
  unfold validB at h; simp only [decide_eq_true_eq] at h
  obtain ⟨h1, h2, h3, h4, h5⟩ := h
  have hd : d ≠ 0 := by omega
  refine ⟨Rat.divInt n d, ⟨?_, ?_⟩, ?_, ?_⟩
  · rw [natAbs_num_Q hd, h5]; omega
  · rw [den_Q hd, h5]; omega
  · rw [num_Q hd, h5]
    by_cases hn : n < 0
    · rw [if_neg (by simp [hn]; omega)]; omega
    · rw [if_pos (by simp [hn]; omega)]; omega
  · rw [den_Q hd, h5]; omega

theorem not_valid_zero : validB 0 0 = false := by decide

theorem divInt_num_den (q : Rat) : Rat.divInt q.num (q.den : Int) = q := Rat.num_divInt_den q

theorem den_ne (q : Rat) : (q.den : Int) ≠ 0 := by have := q.den_nz; omega
theorem den_pos (q : Rat) : 0 < (q.den : Int) := by have := q.den_nz; omega
theorem dens_ne (p q : Rat) : (p.den : Int) * (q.den : Int) ≠ 0 := Int.mul_ne_zero (den_ne p) (den_ne q)

theorem add_Q (p q : Rat) : Rat.divInt (p.num * q.den + q.num * p.den) (p.den * q.den) = p + q := by
  rw [← Rat.divInt_add_divInt _ _ (den_ne p) (den_ne q), divInt_num_den, divInt_num_den]
theorem mul_Q (p q : Rat) : Rat.divInt (p.num * q.num) (p.den * q.den) = p * q := by
  rw [← Rat.divInt_mul_divInt, divInt_num_den, divInt_num_den]

theorem addE_Q {p q : Rat} (hp : fitsQ p) (hq : fitsQ q) : addE p.num p.den q.num q.den = rE (p + q) := by
  unfold addE; rw [valid_of_fits hp, valid_of_fits hq, ← add_Q]; exact newE_Q (dens_ne _ _)
theorem addN_Q {p q : Rat} (hp : fitsQ p) (hq : fitsQ q) : addN p.num p.den q.num q.den = rN (p + q) := by
  unfold addN; rw [valid_of_fits hp, valid_of_fits hq, ← add_Q]; exact newN_Q (dens_ne _ _)
theorem addD_Q {p q : Rat} (hp : fitsQ p) (hq : fitsQ q) : addD p.num p.den q.num q.den = rD (p + q) := by
  unfold addD; rw [valid_of_fits hp, valid_of_fits hq, ← add_Q]; exact newD_Q (dens_ne _ _)
theorem mulE_Q {p q : Rat} (hp : fitsQ p) (hq : fitsQ q) : mulE p.num p.den q.num q.den = rE (p * q) := by
  unfold mulE; rw [valid_of_fits hp, valid_of_fits hq, ← mul_Q]; exact newE_Q (dens_ne _ _)
theorem mulN_Q {p q : Rat} (hp : fitsQ p) (hq : fitsQ q) : mulN p.num p.den q.num q.den = rN (p * q) := by
  unfold mulN; rw [valid_of_fits hp, valid_of_fits hq, ← mul_Q]; exact newN_Q (dens_ne _ _)
theorem mulD_Q {p q : Rat} (hp : fitsQ p) (hq : fitsQ q) : mulD p.num p.den q.num q.den = rD (p * q) := by
  unfold mulD; rw [valid_of_fits hp, valid_of_fits hq, ← mul_Q]; exact newD_Q (dens_ne _ _)

def cmpQ (p q : Rat) : Int := if p < q then -1 else if q < p then 1 else 0
theorem cmpE_Q {p q : Rat} (hp : fitsQ p) (hq : fitsQ q) : cmpE p.num p.den q.num q.den = 0 := by
  unfold cmpE; rw [valid_of_fits hp, valid_of_fits hq]; rfl
theorem cmpN_Q {p q : Rat} (hp : fitsQ p) (hq : fitsQ q) : cmpN p.num p.den q.num q.den = cmpQ p q := by
  unfold cmpN cmpQ cmp3; rw [valid_of_fits hp, valid_of_fits hq]; simp only [Rat.lt_iff, Bool.and_self, if_true]

theorem rE_fits {q : Rat} (h : fitsQ q) : rE q = 0 := by unfold rE; rw [if_pos h]
theorem rN_fits {q : Rat} (h : fitsQ q) : rN q = q.num := by unfold rN; rw [if_pos h]
theorem rD_fits {q : Rat} (h : fitsQ q) : rD q = q.den := by unfold rD; rw [if_pos h]
theorem rE_not {q : Rat} (h : ¬ fitsQ q) : rE q = 2 := by unfold rE; rw [if_neg h]
theorem rN_not {q : Rat} (h : ¬ fitsQ q) : rN q = 0 := by unfold rN; rw [if_neg h]
theorem rD_not {q : Rat} (h : ¬ fitsQ q) : rD q = 0 := by unfold rD; rw [if_neg h]

theorem fits_of_bounds {n d : Int} (h1 : 1 ≤ d) (h2 : d ≤ 1073741824) (h3 : -1073741824 ≤ n) (h4 : n ≤ 1073741824) : fitsQ (Rat.divInt n d) := by
  have hd : d ≠ 0 := by omega
  constructor
  · rw [natAbs_num_Q hd]; have := Nat.div_le_self n.natAbs (gcdA n d); omega
  · rw [den_Q hd]; have := Nat.div_le_self d.natAbs (gcdA n d); omega

end Go.Proofs.Ytgoicalffgehoaa
