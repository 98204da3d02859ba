/- Sums of values times weights, and of weights: without a wrap for bounded lists. Conditions: at most 2^20 pairs, each within the bounds of Mean. -/
import Derived.Test.YtgoicalffgehoaaEMean
namespace Go.Proofs.Ytgoicalffgehoaa.P
open Go.RowKit Go.Proofs.YtgoicalffgehoaaW.PrintWords Go.Proofs.Ytgoicalffgehoaa

def S1 (l : List (Int × Int)) : Int := (l.map fun p => p.1 * p.2).sum
def S2 (l : List (Int × Int)) : Int := (l.map fun p => p.2).sum
theorem S1_cons (p : Int × Int) (l : List (Int × Int)) : S1 (p :: l) = p.1 * p.2 + S1 l := by simp [S1]
theorem S2_cons (p : Int × Int) (l : List (Int × Int)) : S2 (p :: l) = p.2 + S2 l := by simp [S2]
theorem S1_append (l m : List (Int × Int)) : S1 (l ++ m) = S1 l + S1 m := by simp [S1, List.sum_append]
theorem S2_append (l m : List (Int × Int)) : S2 (l ++ m) = S2 l + S2 m := by simp [S2, List.sum_append]

theorem okP_iff {x : Int × Int} : okP x = true ↔ (-1048576 ≤ x.1 ∧ x.1 ≤ 1048576 ∧ 0 ≤ x.2 ∧ x.2 ≤ 1048576) := by unfold okP; exact decide_eq_true_iff
theorem okP_mul {x : Int × Int} (h : okP x = true) : -1099511627776 ≤ x.1 * x.2 ∧ x.1 * x.2 ≤ 1099511627776 := by
  obtain ⟨h1, h2, h3, h4⟩ := okP_iff.1 h
  have a : x.1.natAbs ≤ 1048576 := by omega
  have b : x.2.natAbs ≤ 1048576 := by omega
  have c : (x.1 * x.2).natAbs ≤ 1048576 * 1048576 := by rw [Int.natAbs_mul]; exact Nat.mul_le_mul a b
  generalize x.1 * x.2 = y at *
  omega

theorem tot_fold : ∀ (l : List (Int × Int)) (acc : Int), (∀ p ∈ l, okP p = true) → 0 ≤ acc → acc + l.length * 1048576 ≤ 4611686018427387904 →
    l.foldl (fun s p => wrap64 (s + p.2)) acc = acc + S2 l ∧ 0 ≤ S2 l ∧ S2 l ≤ l.length * 1048576
  | [], acc, _, _, _ => by simp [S2]
  | p :: l, acc, h, h0, hb => by
    obtain ⟨h1, h2, h3, h4⟩ := okP_iff.1 (h p (by simp))
    simp only [List.length_cons] at hb ⊢
    have e : wrap64 (acc + p.2) = acc + p.2 := wrap64_id (by omega) (by omega)
    obtain ⟨i1, i2, i3⟩ := tot_fold l (acc + p.2) (fun q hq => h q (by simp [hq])) (by omega) (by omega)
    rw [List.foldl_cons, e, i1, S2_cons]
    omega

theorem sum_fold : ∀ (l : List (Int × Int)) (acc : Int), (∀ p ∈ l, okP p = true) → -4611686018427387904 ≤ acc - l.length * 1099511627776 → acc + l.length * 1099511627776 ≤ 4611686018427387904 →
    l.foldl (fun s p => wrap64 (s + wrap64 (p.1 * p.2))) acc = acc + S1 l ∧ -(l.length * 1099511627776) ≤ S1 l ∧ S1 l ≤ l.length * 1099511627776
  | [], acc, _, _, _ => by simp [S1]
  | p :: l, acc, h, h0, hb => by
    have hm := okP_mul (h p (by simp))
    simp only [List.length_cons] at hb h0 ⊢
    rw [List.foldl_cons, S1_cons]
    generalize p.1 * p.2 = y at *
    have e1 : wrap64 y = y := wrap64_id (by omega) (by omega)
    have e : wrap64 (acc + y) = acc + y := wrap64_id (by omega) (by omega)
    obtain ⟨i1, i2, i3⟩ := sum_fold l (acc + y) (fun q hq => h q (by simp [hq])) (by omega) (by omega)
    rw [e1, e, i1]
    omega

theorem totP_eq {l : List (Int × Int)} (h : ∀ p ∈ l, okP p = true) (hl : l.length ≤ 1048576) : totP l = S2 l ∧ 0 ≤ S2 l ∧ S2 l ≤ 1099511627776 := by
  obtain ⟨i1, i2, i3⟩ := tot_fold l 0 h (by omega) (by omega)
  exact ⟨by unfold totP; rw [i1]; omega, i2, by omega⟩
theorem sumP_eq {l : List (Int × Int)} (h : ∀ p ∈ l, okP p = true) (hl : l.length ≤ 1048576) : sumP l = S1 l ∧ -1152921504606846976 ≤ S1 l ∧ S1 l ≤ 1152921504606846976 := by
  obtain ⟨i1, i2, i3⟩ := sum_fold l 0 h (by omega) (by omega)
  exact ⟨by unfold sumP; rw [i1]; omega, by omega, by omega⟩

theorem S2_nonneg : ∀ {l : List (Int × Int)}, (∀ p ∈ l, 0 ≤ p.2) → 0 ≤ S2 l
  | [], _ => by simp [S2]
  | p :: l, h => by
    have h1 := h p (by simp)
    have h2 := S2_nonneg (fun q hq => h q (List.mem_cons_of_mem _ hq))
    rw [S2_cons]; omega
theorem S1_zero : ∀ {l : List (Int × Int)}, (∀ p ∈ l, 0 ≤ p.2) → S2 l = 0 → S1 l = 0
  | [], _, _ => rfl
  | p :: l, h, h0 => by
    have h1 := h p (by simp)
    have h2 := S2_nonneg (fun q hq => h q (List.mem_cons_of_mem _ hq))
    rw [S2_cons] at h0
    have e : p.2 = 0 := by omega
    rw [S1_cons, e, S1_zero (fun q hq => h q (List.mem_cons_of_mem _ hq)) (by omega)]
    simp

theorem new_zero_one : newN 0 1 = 0 ∧ newD 0 1 = 1 ∧ newE 0 1 = 0 := by decide
end Go.Proofs.Ytgoicalffgehoaa.P
