/- Small values and weights: means fit; lists taken one further. Conditions: values within 128, weights within 255, at most 200. -/
import Derived.Test.YtgoicalffgehoaaCMean
namespace Go.Proofs.Ytgoicalffgehoaa.P
open Go.RowKit Go.Proofs.YtgoicalffgehoaaW.PrintWords Go.Proofs.Ytgoicalffgehoaa

theorem cmp_q {p q : Rat} (hp : fitsQ p) (hq : fitsQ q) : ratio_Compare.f p.num p.den q.num q.den = some (cmpQ p q, 0) := by
  rw [cmp_f (fits_in hp).1 (fits_in hp).2 (fits_in hq).1 (fits_in hq).2, cmpN_Q hp hq, cmpE_Q hp hq]
theorem add_q {p q : Rat} (hp : fitsQ p) (hq : fitsQ q) : ratio_Add.f p.num p.den q.num q.den = some (rN (p + q), rD (p + q), rE (p + q)) := by
  rw [add_f (fits_in hp).1 (fits_in hp).2 (fits_in hq).1 (fits_in hq).2, addN_Q hp hq, addD_Q hp hq, addE_Q hp hq]
theorem mul_q {p q : Rat} (hp : fitsQ p) (hq : fitsQ q) : ratio_Mul.f p.num p.den q.num q.den = some (rN (p * q), rD (p * q), rE (p * q)) := by
  rw [mul_f (fits_in hp).1 (fits_in hp).2 (fits_in hq).1 (fits_in hq).2, mulN_Q hp hq, mulD_Q hp hq, mulE_Q hp hq]

def smallP (p : Int × Int) : Prop := -128 ≤ p.1 ∧ p.1 ≤ 128 ∧ 0 ≤ p.2 ∧ p.2 ≤ 255
theorem small_ok {p : Int × Int} (h : smallP p) : okP p = true := by unfold smallP at h; exact okP_yes (by omega)
theorem small_nn {L : List (Int × Int)} (h : ∀ p ∈ L, smallP p) : ∀ p ∈ L, 0 ≤ p.2 := fun p hp => (h p hp).2.2.1
theorem small_S {L : List (Int × Int)} (h : ∀ p ∈ L, smallP p) (hl : L.length ≤ 200) : 0 ≤ S2 L ∧ S2 L ≤ 51000 ∧ -6528000 ≤ S1 L ∧ S1 L ≤ 6528000 := by
  obtain ⟨i1, i2, i3, i4⟩ := S_small (u := 255) (v := 128) h
  omega
theorem small_fits {L : List (Int × Int)} (h : ∀ p ∈ L, smallP p) (hl : L.length ≤ 200) : fitsQ (mQ L) := by
  obtain ⟨i1, i2, i3, i4⟩ := small_S h hl
  have := maxI_pos (S2 L)
  have h2 : maxI (S2 L) 1 ≤ 51000 := by unfold maxI; split <;> omega
  exact fits_of_bounds (by omega) (by omega) (by omega) (by omega)

theorem rd_take {l : List Int} {i : Nat} (h : i < l.length) : l.take i ++ [rd l (i : Int)] = l.take (i + 1) := by
  rw [List.take_succ_eq_append_getElem h]
  congr 2
  simp [rd, h]

theorem zip_take_succ {l0 l1 : List Int} {i : Nat} (h0 : i < l0.length) (h1 : i < l1.length) : (l0.zip l1).take (i + 1) = (l0.zip l1).take i ++ [(rd l0 (i : Int), rd l1 (i : Int))] := by
  rw [List.take_succ_eq_append_getElem (by rw [List.length_zip]; omega)]
  congr 2
  simp [rd, h0, h1]

theorem S2_snoc (L : List (Int × Int)) (p : Int × Int) : S2 (L ++ [p]) = S2 L + p.2 := by rw [S2_append, S2_cons]; simp [S2]

end Go.Proofs.Ytgoicalffgehoaa.P
