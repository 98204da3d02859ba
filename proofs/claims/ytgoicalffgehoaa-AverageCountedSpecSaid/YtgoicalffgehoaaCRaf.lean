/- The reference's check, Sums and Earned in closed form. Conditions: as each theorem states them. -/
import Derived.Test.YtgoicalffgehoaaP9
import Derived.Test.YtgoicalffgehoaaESum
namespace Go.Proofs.Ytgoicalffgehoaa.P
open Go.RowKit Go.Proofs.YtgoicalffgehoaaW.PrintWords Go.Proofs.Ytgoicalffgehoaa

theorem valid_vA (x : S39) : sizarref15_Valid.f x.f0 x.f1 x.f2 x.f3 x.f4 = some (vA x) := by
  unfold sizarref15_Valid.f vA
  by_cases h0 : x.f0 ≥ 0
  · rw [if_pos h0]
    by_cases h1 : x.f0 < 4096
    · rw [if_pos h1, decide_eq_true (show 0 ≤ x.f0 ∧ x.f0 ≤ 4095 by omega), Bool.true_and]
      by_cases h2 : x.f1 ≥ 0
      · rw [if_pos h2]
        by_cases h3 : x.f1 < 1024
        · rw [if_pos h3, decide_eq_true (show 0 ≤ x.f1 ∧ x.f1 ≤ 1023 by omega), Bool.true_and]
          by_cases h4 : x.f2 ≥ 0
          · rw [if_pos h4]
            by_cases h5 : x.f2 ≤ 12
            · rw [if_pos h5, decide_eq_true (show 0 ≤ x.f2 ∧ x.f2 ≤ 12 by omega), Bool.true_and]
              by_cases h6 : x.f3 ≥ 0
              · rw [if_pos h6]
                by_cases h7 : x.f3 < 7
                · rw [if_pos h7, decide_eq_true (show 0 ≤ x.f3 ∧ x.f3 ≤ 6 by omega), Bool.true_and]
                  by_cases h8 : x.f4 ≥ 0
                  · rw [if_pos h8]
                    congr 1
                    exact decide_eq_decide.2 ⟨fun h => ⟨h8, h⟩, fun h => h.2⟩
                  · rw [if_neg h8, decide_eq_false (show ¬ (0 ≤ x.f4 ∧ x.f4 ≤ 60) by omega)]
                · rw [if_neg h7, decide_eq_false (show ¬ (0 ≤ x.f3 ∧ x.f3 ≤ 6) by omega)]; rfl
              · rw [if_neg h6, decide_eq_false (show ¬ (0 ≤ x.f3 ∧ x.f3 ≤ 6) by omega)]; rfl
            · rw [if_neg h5, decide_eq_false (show ¬ (0 ≤ x.f2 ∧ x.f2 ≤ 12) by omega)]; rfl
          · rw [if_neg h4, decide_eq_false (show ¬ (0 ≤ x.f2 ∧ x.f2 ≤ 12) by omega)]; rfl
        · rw [if_neg h3, decide_eq_false (show ¬ (0 ≤ x.f1 ∧ x.f1 ≤ 1023) by omega)]; rfl
      · rw [if_neg h2, decide_eq_false (show ¬ (0 ≤ x.f1 ∧ x.f1 ≤ 1023) by omega)]; rfl
    · rw [if_neg h1, decide_eq_false (show ¬ (0 ≤ x.f0 ∧ x.f0 ≤ 4095) by omega)]; rfl
  · rw [if_neg h0, decide_eq_false (show ¬ (0 ≤ x.f0 ∧ x.f0 ≤ 4095) by omega)]; rfl

theorem drop_T39 {l : List S39} {i : Nat} (h : i < l.length) : l.drop i = rd_T39 l (i : Int) :: l.drop (i + 1) := by
  rw [List.drop_eq_getElem_cons h]
  simp [rd_T39, h]

theorem rcheck_l0 {l : List S39} (hm : l.length ≤ 9223372036854775807) : ∀ (d i k : Nat), i + d = l.length → d < k → sizarref15_check.l0 k l (i : Int) = some (if (l.drop i).all vA then 0 else 150) := by
  intro d
  induction d with
  | zero =>
    intro i k hi hk
    obtain ⟨k, rfl⟩ : ∃ m, k = m + 1 := ⟨k - 1, by omega⟩
    simp only [sizarref15_check.l0]
    obtain rfl : i = l.length := by omega
    rw [if_neg (by omega), List.drop_length]
    rfl
  | succ d ih =>
    intro i k hi hk
    obtain ⟨k, rfl⟩ : ∃ m, k = m + 1 := ⟨k - 1, by omega⟩
    simp only [sizarref15_check.l0]
    have e : wrap64 ((i : Int) + 1) = ((i + 1 : Nat) : Int) := wrap64_id (by omega) (by omega)
    rw [if_pos (by omega), if_pos (by omega), valid_vA, e, ih (i + 1) k (by omega) (by omega), drop_T39 (l := l) (i := i) (by omega), List.all_cons]
    simp only [Option.bind_some]
    cases vA (rd_T39 l (i : Int)) <;> rfl

theorem rcheck_eq {l : List S39} (hm : l.length ≤ 9223372036854775807) {k : Nat} (hk : l.length < k) : sizarref15_check.f k l = some (chkA l) := by
  have := rcheck_l0 hm l.length 0 k (by omega) hk
  rw [List.drop_zero] at this
  exact this

theorem rsums_l0 {l : List S39} (hm : l.length ≤ 9223372036854775807) : ∀ (d i k : Nat), i + d = l.length → d < k → sizarref15_Sums.l0 k l (totP (upA l i)) (sumP (upA l i)) (i : Int) = some (totP (upA l l.length), sumP (upA l l.length), 0) := by
  intro d
  induction d with
  | zero =>
    intro i k hi hk
    obtain ⟨k, rfl⟩ : ∃ m, k = m + 1 := ⟨k - 1, by omega⟩
    simp only [sizarref15_Sums.l0]
    obtain rfl : i = l.length := by omega
    rw [if_neg (by omega)]
  | succ d ih =>
    intro i k hi hk
    obtain ⟨k, rfl⟩ : ∃ m, k = m + 1 := ⟨k - 1, by omega⟩
    simp only [sizarref15_Sums.l0]
    have e : wrap64 ((i : Int) + 1) = ((i + 1 : Nat) : Int) := wrap64_id (by omega) (by omega)
    have := ih (i + 1) k (by omega) (by omega)
    rw [upA_succ, totP_snoc, sumP_snoc] at this
    rw [if_pos (by omega), if_pos (by omega), e]
    exact this

theorem rsums_eq {l : List S39} (hm : l.length ≤ 9223372036854775807) : sizarref15_Sums.f (l.length + 1) l = some (sumsC l, sumsP l, chkA l) := by
  unfold sizarref15_Sums.f
  rw [rcheck_eq hm (by omega)]
  simp only [Option.bind_some]
  rcases hv : allV l with _ | _
  · rw [chk_nv hv, if_neg (by omega)]
    unfold sumsC sumsP
    rw [hv]
    rfl
  · rw [chk_v hv, if_pos rfl]
    unfold sumsC sumsP
    rw [hv]
    exact rsums_l0 hm l.length 0 _ (by omega) (by omega)

theorem rearned_l0 {l : List S39} (hm : l.length ≤ 9223372036854775807) : ∀ (d i k : Nat), i + d = l.length → d < k → sizarref15_Earned.l0 k l (earnP (upA l i)) (i : Int) = some (earnP (upA l l.length), 0) := by
  intro d
  induction d with
  | zero =>
    intro i k hi hk
    obtain ⟨k, rfl⟩ : ∃ m, k = m + 1 := ⟨k - 1, by omega⟩
    simp only [sizarref15_Earned.l0]
    obtain rfl : i = l.length := by omega
    rw [if_neg (by omega)]
  | succ d ih =>
    intro i k hi hk
    obtain ⟨k, rfl⟩ : ∃ m, k = m + 1 := ⟨k - 1, by omega⟩
    simp only [sizarref15_Earned.l0]
    have e : wrap64 ((i : Int) + 1) = ((i + 1 : Nat) : Int) := wrap64_id (by omega) (by omega)
    have := ih (i + 1) k (by omega) (by omega)
    rw [upA_succ, earnP_snoc] at this
    dsimp only at this
    rw [if_pos (by omega), if_pos (by omega), e]
    by_cases h : (rd_T39 l (i : Int)).f2 ≥ 1
    · rw [if_pos (show 0 < (rd_T39 l (i : Int)).f2 by omega)] at this
      rw [if_pos h]
      exact this
    · rw [if_neg (show ¬ 0 < (rd_T39 l (i : Int)).f2 by omega)] at this
      rw [if_neg h]
      exact this

theorem rearned_eq {l : List S39} (hm : l.length ≤ 9223372036854775807) : sizarref15_Earned.f (l.length + 1) l = some (earnA l, chkA l) := by
  unfold sizarref15_Earned.f
  rw [rcheck_eq hm (by omega)]
  simp only [Option.bind_some]
  rcases hv : allV l with _ | _
  · rw [chk_nv hv, if_neg (by omega)]
    unfold earnA
    rw [hv]
    rfl
  · rw [chk_v hv, if_pos rfl]
    unfold earnA
    rw [hv]
    exact rearned_l0 hm l.length 0 _ (by omega) (by omega)

def sizarref15_SumsC.f (l0 : List S39) : Option (Int × Int × Int) := some (sumsC l0, sumsP l0, chkA l0)
theorem sizarref15_SumsC.calls (A0 : Option Addr) (c0 : Nat) (l0 : List (S39)) (r1 : Int) (r2 : Int) (r3 : Int) (w : World) (hr0 : Kd.C k39 w A0 l0.length l0) (hc0 : l0.length ≤ c0) (h : sizarref15_SumsC.f l0 = some (r1, r2, r3)) :
    Calls Try.prog 38 #[.slice A0 l0.length c0] w fun e w' => e = .returned (.tuple #[.int .i64 r1, .int .i64 r2, .int .i64 r3]) ∧ Below w.heap.size w w' :=
  sizarref15_Sums.calls _ A0 c0 l0 r1 r2 r3 w hr0 hc0 ((rsums_eq hr0.2.1).trans h)
def sizarref15_EarnedC.f (l0 : List S39) : Option (Int × Int) := some (earnA l0, chkA l0)
theorem sizarref15_EarnedC.calls (A0 : Option Addr) (c0 : Nat) (l0 : List (S39)) (r1 : Int) (r2 : Int) (w : World) (hr0 : Kd.C k39 w A0 l0.length l0) (hc0 : l0.length ≤ c0) (h : sizarref15_EarnedC.f l0 = some (r1, r2)) :
    Calls Try.prog 41 #[.slice A0 l0.length c0] w fun e w' => e = .returned (.tuple #[.int .i64 r1, .int .i64 r2]) ∧ Below w.heap.size w w' :=
  sizarref15_Earned.calls _ A0 c0 l0 r1 r2 w hr0 hc0 ((rearned_eq hr0.2.1).trans h)
end Go.Proofs.Ytgoicalffgehoaa.P
