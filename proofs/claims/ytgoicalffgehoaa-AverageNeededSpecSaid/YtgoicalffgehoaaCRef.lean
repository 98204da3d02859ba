/- The reference's New and Check in closed form. Condition: the numbers are int64s. -/
import Derived.Test.YtgoicalffgehoaaP4
import Derived.Test.YtgoicalffgehoaaERat
namespace Go.Proofs.Ytgoicalffgehoaa.P
open Go.RowKit Go.Proofs.YtgoicalffgehoaaW.PrintWords
open Go.Proofs.Ytgoicalffgehoaa

theorem ref_common_eq : ∀ (k n m : Nat), n < k → sizarref05_common.l0 k (m : Int) (n : Int) = some ((Nat.gcd m n : Nat) : Int) := by
  intro k
  induction k with
  | zero => intro n m h; omega
  | succ k ih =>
    intro n m h
    simp only [sizarref05_common.l0]
    by_cases h0 : n = 0
    · subst h0
      rw [if_neg (by simp)]
      simp
    · rw [if_pos (by omega), if_neg (by omega)]
      have e : Int.tmod (m : Int) (n : Int) = ((m % n : Nat) : Int) := rfl
      have hlt : m % n < n := Nat.mod_lt _ (by omega)
      rw [e, ih (m % n) n (by omega)]
      congr 2
      rw [Nat.gcd_comm m n, Nat.gcd_rec n m, Nat.gcd_comm]

theorem ref_size_eq {a : Int} (h1 : -9223372036854775808 ≤ a) (h2 : a ≤ 9223372036854775807) : sizarref05_size.f a = some ((a.natAbs : Nat) : Int) := by
  unfold sizarref05_size.f
  split
  · rw [wrap_u64, wrap_u64]; congr 1; omega
  · rw [wrap_u64]; congr 1; omega

theorem ref_New_eq {a0 a1 : Int} (h0 : in64 a0) (h1 : in64 a1) : sizarref05_New.f (a1.natAbs + 1) a0 a1 = some (newN a0 a1, newD a0 a1, newE a0 a1) := by
  obtain ⟨h01, h02⟩ := h0
  obtain ⟨h11, h12⟩ := h1
  unfold sizarref05_New.f
  by_cases hz : a1 = 0
  · rw [if_pos hz]; unfold newN newD newE; simp only [if_pos hz]
  · rw [if_neg hz]
    have hg := gcdA_pos (a := a0) hz
    rw [ref_size_eq h01 h02, ref_size_eq h11 h12]
    simp only [Option.bind_some]
    unfold sizarref05_common.f
    rw [ref_common_eq _ _ _ (by omega)]
    simp only [Option.bind_some]
    change 0 < Nat.gcd a0.natAbs a1.natAbs at hg
    rw [if_neg (by omega), quo_u64 _ _ (by omega), quo_u64 _ _ (by omega)]
    unfold newN newD newE okB gcdA
    simp only [if_neg hz]
    generalize Nat.gcd a0.natAbs a1.natAbs = g at *
    generalize a0.natAbs / g = A
    generalize a1.natAbs / g = D
    by_cases hA : (A : Int) > 1073741824
    · rw [if_pos hA]
      simp only [sizarref05_New.j0, if_true]
      rw [decide_eq_false (by omega : ¬ A ≤ 1073741824)]
      simp
    · rw [if_neg hA]
      by_cases hD : (D : Int) > 1073741824
      · simp only [sizarref05_New.j0, decide_eq_true hD, if_true]
        rw [decide_eq_false (by omega : ¬ D ≤ 1073741824)]
        simp
      · have hA' : A ≤ 1073741824 := by omega
        have hD' : D ≤ 1073741824 := by omega
        simp only [sizarref05_New.j0, decide_eq_false hD, decide_eq_true hA', decide_eq_true hD', Bool.and_self, if_true, if_neg Bool.false_ne_true]
        have w1 : wrap64 (A : Int) = A := wrap64_id (by omega) (by omega)
        have w2 : wrap64 (D : Int) = D := wrap64_id (by omega) (by omega)
        have w3 : wrap64 (-(A : Int)) = -A := wrap64_id (by omega) (by omega)
        rw [w1, w2, w3]
        by_cases hs : decide (a0 < 0) = decide (a1 < 0)
        · rw [if_pos hs, if_neg (by rw [hs]; simp)]
        · rw [if_neg hs, if_pos (by simpa using hs)]

theorem ref_Check_eq {a0 a1 : Int} (h0 : in64 a0) (h1 : in64 a1) : sizarref05_Check.f (a1.natAbs + 1) a0 a1 = some (chkE a0 a1) := by
  obtain ⟨h01, h02⟩ := h0
  obtain ⟨h11, h12⟩ := h1
  unfold sizarref05_Check.f chkE validB
  rw [ref_size_eq h01 h02, ref_size_eq h11 h12]
  simp only [Option.bind_some]
  unfold sizarref05_common.f
  have e1 : sizarref05_common.l0 (a1.natAbs + 1) ((a0.natAbs : Nat) : Int) ((a1.natAbs : Nat) : Int) = some ((gcdA a0 a1 : Nat) : Int) := ref_common_eq _ _ _ (by omega)
  rw [e1]
  simp only [Option.bind_some, decide_eq_true_eq]
  generalize gcdA a0 a1 = g
  repeat' split
  all_goals first | rfl | (exfalso; omega)

def sizarref05_NewC.f (a0 a1 : Int) : Option (Int × Int × Int) := if in64 a0 ∧ in64 a1 then some (newN a0 a1, newD a0 a1, newE a0 a1) else none
theorem sizarref05_NewC.calls (a0 : Int) (a1 : Int) (r1 : Int) (r2 : Int) (r3 : Int) (w : World) (h : sizarref05_NewC.f a0 a1 = some (r1, r2, r3)) :
    Calls Try.prog 20 #[.int .i64 a0, .int .i64 a1] w fun e w' => e = .returned (.tuple #[.agg #[.int .i64 r1, .int .i64 r2], .int .i64 r3]) ∧ Below w.heap.size w w' := by
  unfold sizarref05_NewC.f at h
  split at h
  · rename_i hr
    exact sizarref05_New.calls _ a0 a1 r1 r2 r3 w ((ref_New_eq hr.1 hr.2).trans h)
  · cases h

def sizarref05_CheckC.f (a0_0 : Int) (a0_1 : Int) : Option Int := if in64 a0_0 ∧ in64 a0_1 then some (chkE a0_0 a0_1) else none
theorem sizarref05_CheckC.calls (a0_0 : Int) (a0_1 : Int) (r : Int) (w : World) (h : sizarref05_CheckC.f a0_0 a0_1 = some r) :
    Calls Try.prog 22 #[.agg #[.int .i64 a0_0, .int .i64 a0_1]] w fun e w' => e = .returned (.int .i64 r) ∧ Below w.heap.size w w' := by
  unfold sizarref05_CheckC.f at h
  split at h
  · rename_i hr
    exact sizarref05_Check.calls _ a0_0 a0_1 r w ((ref_Check_eq hr.1 hr.2).trans h)
  · cases h
end Go.Proofs.Ytgoicalffgehoaa.P
