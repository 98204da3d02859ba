/- The reference's Mean and Needed of layer 15 in closed form. Conditions: a goal of int64s. -/
import Derived.Test.YtgoicalffgehoaaP10
import Derived.Test.YtgoicalffgehoaaCAvg
import Derived.Test.YtgoicalffgehoaaCRaa
namespace Go.Proofs.Ytgoicalffgehoaa.P
open Go.RowKit Go.Proofs.YtgoicalffgehoaaW.PrintWords Go.Proofs.Ytgoicalffgehoaa

theorem rmean_eqA (l : List S39) : sizarref15_Mean.f l = some (meanA l) := by
  unfold sizarref15_Mean.f sizarref15_SumsC.f meanA
  simp only [Option.bind_some]
  rcases hv : allV l with _ | _
  · rw [chk_nv hv, if_neg (by omega)]; rfl
  · rw [chk_v hv, if_pos rfl, if_pos rfl]
    by_cases hz : sumsC l = 0
    · rw [if_pos hz, if_pos hz]
    · rw [if_neg hz, if_neg hz, rnew_f (sumsP_64 l) (sumsC_64 l)]
      rfl

theorem rfirst_l0 (x c p g0 g1 : Int) : ∀ (d : Nat) (i : Int) (k : Nat), 0 ≤ i → i + d = 13 → d < k → sizarref15_Needed.l0 k x c p i g0 g1 = some (firstG x c p g0 g1 d i) := by
  intro d
  induction d with
  | zero =>
    intro i k h0 hi hk
    obtain ⟨k, rfl⟩ : ∃ m, k = m + 1 := ⟨k - 1, by omega⟩
    simp only [sizarref15_Needed.l0]
    rw [if_neg (by omega)]
    rfl
  | succ d ih =>
    intro i k h0 hi hk
    obtain ⟨k, rfl⟩ : ∃ m, k = m + 1 := ⟨k - 1, by omega⟩
    simp only [sizarref15_Needed.l0, firstG]
    have := ih (i + 1) k (by omega) (by omega) (by omega)
    have e : wrap64 (i + 1) = i + 1 := wrap64_id (by omega) (by omega)
    rw [if_pos (by omega), e, this]
    split <;> rfl

theorem rneeded_eqA (l : List S39) {x g0 g1 : Int} (h0 : in64 g0) (h1 : in64 g1) : sizarref15_Needed.f 15 l x g0 g1 = some (needA l x g0 g1) := by
  unfold sizarref15_Needed.f sizarref15_SumsC.f needA
  simp only [Option.bind_some]
  rcases hv : allV l with _ | _
  · rw [chk_nv hv, if_neg (by omega)]; rfl
  · rw [chk_v hv, if_pos rfl, if_pos rfl]
    by_cases hx : 1 ≤ x ∧ x ≤ 10000
    · rw [if_neg (by omega), if_pos hx, decide_eq_false (by omega)]
      simp only [sizarref15_Needed.j0, if_neg Bool.false_ne_true]
      rw [rcheck_f h0 h1]
      simp only [Option.bind_some]
      unfold chkE
      rcases hb : validB g0 g1 with _ | _
      · rfl
      · simp only [if_true]
        exact rfirst_l0 _ _ _ _ _ 13 0 14 (by omega) (by omega) (by omega)
    · rw [if_neg hx]
      by_cases h1' : x < 1
      · rw [if_pos h1']; rfl
      · rw [if_neg h1', decide_eq_true (by omega)]; rfl

def sizarref15_MeanC.f (l0 : List S39) : Option (Int × Int × Int) := some (meanA l0)
theorem sizarref15_MeanC.calls (A0 : Option Addr) (c0 : Nat) (l0 : List (S39)) (r1 : Int) (r2 : Int) (r3 : Int) (w : World) (hr0 : Kd.C k39 w A0 l0.length l0) (hc0 : l0.length ≤ c0) (h : sizarref15_MeanC.f l0 = some (r1, r2, r3)) :
    Calls Try.prog 39 #[.slice A0 l0.length c0] w fun e w' => e = .returned (.tuple #[.agg #[.int .i64 r1, .int .i64 r2], .int .i64 r3]) ∧ Below w.heap.size w w' :=
  sizarref15_Mean.calls A0 c0 l0 r1 r2 r3 w hr0 hc0 ((rmean_eqA l0).trans h)
def sizarref15_NeededC.f (l0 : List S39) (a1 : Int) (a2_0 : Int) (a2_1 : Int) : Option (Int × Bool × Int) := if in64 a2_0 ∧ in64 a2_1 then some (needA l0 a1 a2_0 a2_1) else none
theorem sizarref15_NeededC.calls (A0 : Option Addr) (c0 : Nat) (l0 : List (S39)) (a1 : Int) (a2_0 : Int) (a2_1 : Int) (r1 : Int) (r2 : Bool) (r3 : Int) (w : World) (hr0 : Kd.C k39 w A0 l0.length l0) (hc0 : l0.length ≤ c0) (h : sizarref15_NeededC.f l0 a1 a2_0 a2_1 = some (r1, r2, r3)) :
    Calls Try.prog 45 #[.slice A0 l0.length c0, .int .i64 a1, .agg #[.int .i64 a2_0, .int .i64 a2_1]] w fun e w' => e = .returned (.tuple #[.int .i64 r1, .bool r2, .int .i64 r3]) ∧ Below w.heap.size w w' := by
  unfold sizarref15_NeededC.f at h
  split at h
  · rename_i hr
    exact sizarref15_Needed.calls 15 A0 c0 l0 a1 a2_0 a2_1 r1 r2 r3 w hr0 hc0 ((rneeded_eqA l0 hr.1 hr.2).trans h)
  · cases h
end Go.Proofs.Ytgoicalffgehoaa.P
