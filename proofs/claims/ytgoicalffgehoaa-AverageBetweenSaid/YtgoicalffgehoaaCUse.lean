/- The contracts' functions at int64s: what they give. Conditions: int64s. -/
import Derived.Test.YtgoicalffgehoaaERat
namespace Go.Proofs.Ytgoicalffgehoaa.P
open Go.RowKit Go.Proofs.YtgoicalffgehoaaW.PrintWords Go.Proofs.Ytgoicalffgehoaa

theorem newN_small (n d : Int) : -1073741824 ≤ newN n d ∧ newN n d ≤ 1073741824 := by
  unfold newN okB
  generalize n.natAbs / gcdA n d = A
  generalize d.natAbs / gcdA n d = D
  split
  · omega
  · split
    · rename_i h
      simp only [Bool.and_eq_true, decide_eq_true_eq] at h
      split <;> omega
    · omega
theorem newD_small (n d : Int) : 0 ≤ newD n d ∧ newD n d ≤ 1073741824 := by
  unfold newD okB
  generalize n.natAbs / gcdA n d = A
  generalize d.natAbs / gcdA n d = D
  split
  · omega
  · split
    · rename_i h
      simp only [Bool.and_eq_true, decide_eq_true_eq] at h
      omega
    · omega
theorem newN_in (n d : Int) : in64 (newN n d) := by have := newN_small n d; unfold in64; omega
theorem newD_in (n d : Int) : in64 (newD n d) := by have := newD_small n d; unfold in64; omega
theorem in64_small {a : Int} (h : -1073741824 ≤ a ∧ a ≤ 1073741824) : in64 a := by unfold in64; omega
theorem in64_zero : in64 0 := by decide
theorem addN_in (a b c d : Int) : in64 (addN a b c d) := by unfold addN; split; exact newN_in _ _; exact in64_zero
theorem addD_in (a b c d : Int) : in64 (addD a b c d) := by unfold addD; split; exact newD_in _ _; exact in64_zero
theorem mulN_in (a b c d : Int) : in64 (mulN a b c d) := by unfold mulN; split; exact newN_in _ _; exact in64_zero
theorem mulD_in (a b c d : Int) : in64 (mulD a b c d) := by unfold mulD; split; exact newD_in _ _; exact in64_zero

theorem new_f {n d : Int} (h0 : in64 n) (h1 : in64 d) : ratio_NewC.f n d = some (newN n d, newD n d, newE n d) := by unfold ratio_NewC.f; rw [if_pos ⟨h0, h1⟩]
theorem check_f {n d : Int} (h0 : in64 n) (h1 : in64 d) : ratio_CheckC.f n d = some (chkE n d) := by unfold ratio_CheckC.f; rw [if_pos ⟨h0, h1⟩]
theorem add_f {a b c d : Int} (h0 : in64 a) (h1 : in64 b) (h2 : in64 c) (h3 : in64 d) : ratio_Add.f a b c d = some (addN a b c d, addD a b c d, addE a b c d) := by unfold ratio_Add.f; rw [if_pos ⟨h0, h1, h2, h3⟩]
theorem mul_f {a b c d : Int} (h0 : in64 a) (h1 : in64 b) (h2 : in64 c) (h3 : in64 d) : ratio_Mul.f a b c d = some (mulN a b c d, mulD a b c d, mulE a b c d) := by unfold ratio_Mul.f; rw [if_pos ⟨h0, h1, h2, h3⟩]
theorem cmp_f {a b c d : Int} (h0 : in64 a) (h1 : in64 b) (h2 : in64 c) (h3 : in64 d) : ratio_Compare.f a b c d = some (cmpN a b c d, cmpE a b c d) := by unfold ratio_Compare.f; rw [if_pos ⟨h0, h1, h2, h3⟩]

/-! ### at fractions -/
theorem fits_in {q : Rat} (h : fitsQ q) : in64 q.num ∧ in64 (q.den : Int) := by unfold fitsQ at h; unfold in64; omega
theorem chk_fits {q : Rat} (h : fitsQ q) : chkE q.num q.den = 0 := by unfold chkE; rw [if_pos (valid_of_fits h)]
theorem chk_cases (n d : Int) : (chkE n d = 50 ∧ validB n d = false) ∨ ∃ q : Rat, fitsQ q ∧ n = q.num ∧ d = q.den := by
  rcases h : validB n d with _ | _
  · exact .inl ⟨by unfold chkE; rw [h]; rfl, rfl⟩
  · exact .inr (fits_of_valid h)
end Go.Proofs.Ytgoicalffgehoaa.P
