/- The plain law of RatioOrder: the printed function answers true. Condition: int64s. -/
import Derived.Test.YtgoicalffgehoaaP19
import Derived.Test.YtgoicalffgehoaaCUse
import Derived.Test.YtgoicalffgehoaaCOrd
namespace Go.Proofs.Ytgoicalffgehoaa.P
open Go.RowKit Go.Proofs.YtgoicalffgehoaaW.PrintWords Go.Proofs.Ytgoicalffgehoaa

theorem cmp_q {p q : Rat} (hp : fitsQ p) (hq : fitsQ q) : ratio_Compare.f p.num p.den q.num q.den = some (cmpQ p q, 0) := by
  rw [cmp_f (fits_in hp).1 (fits_in hp).2 (fits_in hq).1 (fits_in hq).2, cmpN_Q hp hq, cmpE_Q hp hq]
theorem add_q {p q : Rat} (hp : fitsQ p) (hq : fitsQ q) : ratio_Add.f p.num p.den q.num q.den = some (rN (p + q), rD (p + q), rE (p + q)) := by
  rw [add_f (fits_in hp).1 (fits_in hp).2 (fits_in hq).1 (fits_in hq).2, addN_Q hp hq, addD_Q hp hq, addE_Q hp hq]
theorem mul_q {p q : Rat} (hp : fitsQ p) (hq : fitsQ q) : ratio_Mul.f p.num p.den q.num q.den = some (rN (p * q), rD (p * q), rE (p * q)) := by
  rw [mul_f (fits_in hp).1 (fits_in hp).2 (fits_in hq).1 (fits_in hq).2, mulN_Q hp hq, mulD_Q hp hq, mulE_Q hp hq]

theorem ord_j4 {p q r : Rat} (hpr : fitsQ (p * r)) (hqr : fitsQ (q * r)) : sizarlaw05_RatioOrder.j4 1 (cmpQ p q) (decide (r.num > 0)) (p * r).num (p * r).den (q * r).num (q * r).den = some true := by
  simp only [sizarlaw05_RatioOrder.j4]
  by_cases h : 0 < r.num
  · rw [decide_eq_true h, if_pos rfl, cmp_q hpr hqr, cmpQ_mul (pos_num.1 h)]
    simp
  · rw [decide_eq_false h, if_neg Bool.false_ne_true]
theorem ord_j4f (n a b c d : Int) : sizarlaw05_RatioOrder.j4 1 n false a b c d = some true := by
  simp only [sizarlaw05_RatioOrder.j4, if_neg Bool.false_ne_true]

theorem ord_j3 {p q r : Rat} (hp : fitsQ p) (hq : fitsQ q) (hr : fitsQ r) : sizarlaw05_RatioOrder.j3 2 (cmpQ p q) p.num p.den q.num q.den r.num r.den = some true := by
  simp only [sizarlaw05_RatioOrder.j3]
  rw [mul_q hp hr, mul_q hq hr]
  simp only [Option.bind_some]
  by_cases h1 : fitsQ (p * r)
  · rw [rE_fits h1, if_pos rfl]
    by_cases h2 : fitsQ (q * r)
    · rw [rE_fits h2, if_pos rfl, rN_fits h1, rD_fits h1, rN_fits h2, rD_fits h2]
      exact ord_j4 h1 h2
    · rw [rE_not h2, if_neg (by decide)]
      exact ord_j4f _ _ _ _ _
  · rw [rE_not h1, if_neg (by decide)]
    exact ord_j4f _ _ _ _ _

theorem ord_j1 {p q r : Rat} (hp : fitsQ p) (hq : fitsQ q) (hr : fitsQ r) : sizarlaw05_RatioOrder.j1 4 (cmpQ p q) false p.num p.den q.num q.den r.num r.den = some true := by
  simp only [sizarlaw05_RatioOrder.j1, if_neg Bool.false_ne_true]
  rw [add_q hp hr, add_q hq hr]
  simp only [Option.bind_some]
  by_cases h1 : fitsQ (p + r)
  · rw [rE_fits h1, if_pos rfl]
    by_cases h2 : fitsQ (q + r)
    · rw [rE_fits h2, rN_fits h1, rD_fits h1, rN_fits h2, rD_fits h2]
      simp only [sizarlaw05_RatioOrder.j2, beq_self_eq_true, if_true]
      rw [cmp_q h1 h2, cmpQ_add]
      simp only [Option.bind_some, if_true]
      exact ord_j3 hp hq hr
    · rw [rE_not h2]
      simp only [sizarlaw05_RatioOrder.j2, show ((2 : Int) == 0) = false by decide, if_neg Bool.false_ne_true]
      exact ord_j3 hp hq hr
  · rw [rE_not h1, if_neg (by decide)]
    simp only [sizarlaw05_RatioOrder.j2, if_neg Bool.false_ne_true]
    exact ord_j3 hp hq hr

theorem ord_j0 {p q r : Rat} (hp : fitsQ p) (hq : fitsQ q) (hr : fitsQ r) : sizarlaw05_RatioOrder.j0 5 false p.num p.den q.num q.den r.num r.den = some true := by
  have H := ord_j1 hp hq hr
  simp only [sizarlaw05_RatioOrder.j0, if_neg Bool.false_ne_true]
  rw [cmp_q hp hq, cmp_q hq hp, cmp_q hq hr, cmp_q hp hr, parts_eq]
  simp only [Option.bind_some, if_true]
  rcases tri p q with h | rfl | h
  · have hne : ¬ p = q := by grind
    rw [cmpQ_lt h] at H ⊢
    rw [cmpQ_gt h, decide_eq_false hne]
    have w : wrap64 (-(1 : Int)) = -1 := by unfold wrap64; omega
    rw [w]
    rcases tri q r with h2 | rfl | h2
    · rw [cmpQ_lt h2, cmpQ_lt (show p < r by grind)]; simpa using H
    · rw [cmpQ_eq, cmpQ_lt h]; simpa using H
    · rw [cmpQ_gt h2]; simpa using H
  · rw [cmpQ_eq] at H ⊢
    rw [decide_eq_true rfl]
    have w : wrap64 (-(0 : Int)) = 0 := by unfold wrap64; omega
    rw [w]
    rcases tri p r with h2 | rfl | h2
    · rw [cmpQ_lt h2]; simpa using H
    · rw [cmpQ_eq]; simpa using H
    · rw [cmpQ_gt h2]; simpa using H
  · have hne : ¬ p = q := by grind
    rw [cmpQ_gt h] at H ⊢
    rw [cmpQ_lt h, decide_eq_false hne]
    have w : wrap64 (-(-1 : Int)) = 1 := by unfold wrap64; omega
    rw [w]
    simpa using H

theorem ord_out (k : Nat) (a b c d e f : Int) : sizarlaw05_RatioOrder.j0 (k + 1) true a b c d e f = some true := by
  simp only [sizarlaw05_RatioOrder.j0, if_true]

theorem pure_RatioOrder (a0 a1 b0 b1 c0 c1 : Int) (i0 : in64 a0) (i1 : in64 a1) (i2 : in64 b0) (i3 : in64 b1) (i4 : in64 c0) (i5 : in64 c1) : ∃ k, sizarlaw05_RatioOrder.f k a0 a1 b0 b1 c0 c1 = some true := by
  refine ⟨5, ?_⟩
  unfold sizarlaw05_RatioOrder.f sizarlaw05_saneC.f
  rw [check_f i0 i1, check_f i2 i3, check_f i4 i5]
  simp only [Option.bind_some, if_true]
  rcases chk_cases a0 a1 with ⟨e, _⟩ | ⟨p, hp, rfl, rfl⟩
  · rw [e, if_neg (by decide)]; exact ord_out _ _ _ _ _ _ _
  · rw [chk_fits hp, if_pos rfl]
    rcases chk_cases b0 b1 with ⟨e, _⟩ | ⟨q, hq, rfl, rfl⟩
    · rw [e, if_neg (by decide)]; exact ord_out _ _ _ _ _ _ _
    · rw [chk_fits hq, if_pos rfl]
      rcases chk_cases c0 c1 with ⟨e, _⟩ | ⟨r, hr, rfl, rfl⟩
      · rw [e, show ((50 : Int) != 0) = true by decide]; exact ord_out _ _ _ _ _ _ _
      · rw [chk_fits hr, show ((0 : Int) != 0) = false by decide]
        exact ord_j0 hp hq hr
end Go.Proofs.Ytgoicalffgehoaa.P
