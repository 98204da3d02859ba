/- Order of fractions: cmpQ is a total order that sums and products with positive fractions keep. No condition. -/
import Derived.Test.YtgoicalffgehoaaRat
namespace Go.Proofs.Ytgoicalffgehoaa

theorem cmpQ_lt {p q : Rat} (h : p < q) : cmpQ p q = -1 := by unfold cmpQ; rw [if_pos h]
theorem cmpQ_gt {p q : Rat} (h : q < p) : cmpQ p q = 1 := by unfold cmpQ; rw [if_neg (by grind), if_pos h]
theorem cmpQ_eq (p : Rat) : cmpQ p p = 0 := by unfold cmpQ; rw [if_neg Rat.lt_irrefl, if_neg Rat.lt_irrefl]
theorem tri (p q : Rat) : p < q ∨ p = q ∨ q < p := by
  by_cases h : p < q
  · exact .inl h
  · by_cases h2 : q < p
    · exact .inr (.inr h2)
    · exact .inr (.inl (by grind))
theorem cmpQ_add (p q r : Rat) : cmpQ (p + r) (q + r) = cmpQ p q := by
  unfold cmpQ; simp only [Rat.add_lt_add_right]
theorem cmpQ_mul {p q r : Rat} (h : 0 < r) : cmpQ (p * r) (q * r) = cmpQ p q := by
  unfold cmpQ; simp only [Rat.mul_lt_mul_right h]
theorem cmpQ_le {p q : Rat} : cmpQ p q ≤ 0 ↔ p ≤ q := by
  rcases tri p q with h | rfl | h
  · rw [cmpQ_lt h]; exact ⟨fun _ => Rat.le_of_lt h, fun _ => by omega⟩
  · rw [cmpQ_eq]; exact ⟨fun _ => Rat.le_refl, fun _ => by omega⟩
  · rw [cmpQ_gt h]; exact ⟨fun hh => absurd hh (by omega), fun hh => absurd hh (by grind)⟩
theorem cmpQ_ge {p q : Rat} : 0 ≤ cmpQ p q ↔ q ≤ p := by
  rcases tri p q with h | rfl | h
  · rw [cmpQ_lt h]; exact ⟨fun hh => absurd hh (by omega), fun hh => absurd hh (by grind)⟩
  · rw [cmpQ_eq]; exact ⟨fun _ => Rat.le_refl, fun _ => by omega⟩
  · rw [cmpQ_gt h]; exact ⟨fun _ => Rat.le_of_lt h, fun _ => by omega⟩
theorem pos_num {r : Rat} : 0 < r.num ↔ 0 < r := by
  rw [Rat.lt_iff]; simp
theorem parts_eq {p q : Rat} : (p.num == q.num && ((p.den : Int) == (q.den : Int))) = decide (p = q) := by
  rw [Bool.eq_iff_iff]
  simp only [Bool.and_eq_true, beq_iff_eq, decide_eq_true_eq]
  exact ⟨fun ⟨h1, h2⟩ => Rat.ext h1 (by omega), fun h => by rw [h]; exact ⟨rfl, rfl⟩⟩
end Go.Proofs.Ytgoicalffgehoaa
