/- average.Mean and average.Needed in closed form. Conditions: a goal of int64s. -/
import Derived.Test.YtgoicalffgehoaaP7
import Derived.Test.YtgoicalffgehoaaP8
import Derived.Test.YtgoicalffgehoaaCUse
namespace Go.Proofs.Ytgoicalffgehoaa.P
open Go.RowKit Go.Proofs.YtgoicalffgehoaaW.PrintWords Go.Proofs.Ytgoicalffgehoaa

theorem totP_64 (l : List (Int × Int)) : in64 (totP l) := by
  rcases List.eq_nil_or_concat l with rfl | ⟨l', x, rfl⟩
  · decide
  · rw [List.concat_eq_append, totP_snoc]; exact wrap64_in64 _
theorem sumP_64 (l : List (Int × Int)) : in64 (sumP l) := by
  rcases List.eq_nil_or_concat l with rfl | ⟨l', x, rfl⟩
  · decide
  · rw [List.concat_eq_append, sumP_snoc]; exact wrap64_in64 _
theorem sumsC_64 (l : List S39) : in64 (sumsC l) := by
  unfold sumsC
  split
  · exact totP_64 _
  · decide
theorem sumsP_64 (l : List S39) : in64 (sumsP l) := by
  unfold sumsP
  split
  · exact sumP_64 _
  · decide

def meanA (l : List S39) : Int × Int × Int :=
  if allV l then (if sumsC l = 0 then (0, 1, 0) else (newN (sumsP l) (sumsC l), newD (sumsP l) (sumsC l), newE (sumsP l) (sumsC l))) else (0, 0, 150)

theorem mean_eqA (l : List S39) : average_Mean.f l = some (meanA l) := by
  unfold average_Mean.f average_Sums.f meanA
  simp only [Option.bind_some]
  rcases hv : allV l with _ | _
  · rw [chk_nv hv, if_neg (by omega)]; rfl
  · rw [chk_v hv, if_pos rfl, if_pos rfl]
    by_cases hz : sumsC l = 0
    · rw [if_pos hz, if_pos hz]
    · rw [if_neg hz, if_neg hz, new_f (sumsP_64 l) (sumsC_64 l)]
      rfl

/-- The first of d grades from i on with which the goal is reached. -/
def firstG (x c p g0 g1 : Int) : Nat → Int → Int × Bool × Int
  | 0, _ => (0, false, 0)
  | d + 1, i => if (wrap64 ((wrap64 (p + (wrap64 (i * x)))) * g1)) ≥ (wrap64 (g0 * (wrap64 (c + x)))) then (i, true, 0) else firstG x c p g0 g1 d (i + 1)

theorem first_l0 (x c p g0 g1 : Int) : ∀ (d : Nat) (i : Int) (k : Nat), 0 ≤ i → i + d = 13 → d < k → average_Needed.l0 k x c p i g0 g1 = some (firstG x c p g0 g1 d i) := by
  intro d
  induction d with
  | zero =>
    intro i k h0 hi hk
    obtain ⟨k, rfl⟩ : ∃ m, k = m + 1 := ⟨k - 1, by omega⟩
    simp only [average_Needed.l0]
    rw [if_neg (by omega)]
    rfl
  | succ d ih =>
    intro i k h0 hi hk
    obtain ⟨k, rfl⟩ : ∃ m, k = m + 1 := ⟨k - 1, by omega⟩
    simp only [average_Needed.l0, firstG]
    have := ih (i + 1) k (by omega) (by omega) (by omega)
    have e : wrap64 (i + 1) = i + 1 := wrap64_id (by omega) (by omega)
    rw [if_pos (by omega), e, this]
    split <;> rfl

def needA (l : List S39) (x g0 g1 : Int) : Int × Bool × Int :=
  if allV l then (if 1 ≤ x ∧ x ≤ 10000 then (if validB g0 g1 then firstG x (sumsC l) (sumsP l) g0 g1 13 0 else (0, false, 50)) else (0, false, 1)) else (0, false, 150)

theorem needed_eqA (l : List S39) {x g0 g1 : Int} (h0 : in64 g0) (h1 : in64 g1) : average_Needed.f 14 l x g0 g1 = some (needA l x g0 g1) := by
  unfold average_Needed.f average_Sums.f needA
  simp only [Option.bind_some]
  rcases hv : allV l with _ | _
  · rw [chk_nv hv, if_neg (by omega)]; rfl
  · rw [chk_v hv, if_pos rfl, if_pos rfl]
    unfold average_within.f
    by_cases hx : 1 ≤ x ∧ x ≤ 10000
    · rw [if_pos hx.1, if_pos hx, decide_eq_true hx.2]
      simp only [Option.bind_some, if_true]
      rw [check_f h0 h1]
      simp only [Option.bind_some]
      unfold chkE
      rcases hb : validB g0 g1 with _ | _
      · rfl
      · simp only [if_true]
        exact first_l0 _ _ _ _ _ 13 0 14 (by omega) (by omega) (by omega)
    · rw [if_neg hx]
      by_cases h1' : 1 ≤ x
      · rw [if_pos h1', decide_eq_false (by omega)]; rfl
      · rw [if_neg h1']; rfl

def average_MeanC.f (l0 : List S39) : Option (Int × Int × Int) := some (meanA l0)
theorem average_MeanC.calls (A0 : Option Addr) (c0 : Nat) (l0 : List (S39)) (r1 : Int) (r2 : Int) (r3 : Int) (w : World) (hr0 : Kd.C k39 w A0 l0.length l0) (hc0 : l0.length ≤ c0) (h : average_MeanC.f l0 = some (r1, r2, r3)) :
    Calls Try.prog 33 #[.slice A0 l0.length c0] w fun e w' => e = .returned (.tuple #[.agg #[.int .i64 r1, .int .i64 r2], .int .i64 r3]) ∧ Below w.heap.size w w' :=
  average_Mean.calls A0 c0 l0 r1 r2 r3 w hr0 hc0 ((mean_eqA l0).trans h)
def average_NeededC.f (l0 : List S39) (a1 : Int) (a2_0 : Int) (a2_1 : Int) : Option (Int × Bool × Int) := if in64 a2_0 ∧ in64 a2_1 then some (needA l0 a1 a2_0 a2_1) else none
theorem average_NeededC.calls (A0 : Option Addr) (c0 : Nat) (l0 : List (S39)) (a1 : Int) (a2_0 : Int) (a2_1 : Int) (r1 : Int) (r2 : Bool) (r3 : Int) (w : World) (hr0 : Kd.C k39 w A0 l0.length l0) (hc0 : l0.length ≤ c0) (h : average_NeededC.f l0 a1 a2_0 a2_1 = some (r1, r2, r3)) :
    Calls Try.prog 34 #[.slice A0 l0.length c0, .int .i64 a1, .agg #[.int .i64 a2_0, .int .i64 a2_1]] w fun e w' => e = .returned (.tuple #[.int .i64 r1, .bool r2, .int .i64 r3]) ∧ Below w.heap.size w w' := by
  unfold average_NeededC.f at h
  split at h
  · rename_i hr
    exact average_Needed.calls 14 A0 c0 l0 a1 a2_0 a2_1 r1 r2 r3 w hr0 hc0 ((needed_eqA l0 hr.1 hr.2).trans h)
  · cases h
end Go.Proofs.Ytgoicalffgehoaa.P
