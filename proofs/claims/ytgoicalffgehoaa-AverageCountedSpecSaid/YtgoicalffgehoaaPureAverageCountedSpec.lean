/- The plain law of AverageCountedSpec. No condition. -/
import Derived.Test.YtgoicalffgehoaaP26
namespace Go.Proofs.Ytgoicalffgehoaa.P
open Go.RowKit Go.Proofs.YtgoicalffgehoaaW.PrintWords Go.Proofs.Ytgoicalffgehoaa

theorem counted_some {l0 : List S39} {l1 : List Int} (h : l0.length ≤ 1000) : ∃ r, average_Counted.f l0 l1 = some r := by
  unfold average_Counted.f
  rw [if_pos (by omega)]
  repeat' split
  all_goals exact ⟨_, rfl⟩

theorem countedspec_j0 {l0 : List S39} {l1 : List Int} (h : l0.length ≤ 40) (b : Bool) : sizarlaw15_AverageCountedSpec.j0 1 l0 l1 b = some true := by
  simp only [sizarlaw15_AverageCountedSpec.j0]
  cases b
  · obtain ⟨r, hr⟩ := counted_some (l0 := l0) (l1 := l1) (by omega)
    have hc : sizarref15_CountedC.f l0 l1 = some r := by unfold sizarref15_CountedC.f; rw [if_pos (by omega), hr]
    rw [if_neg Bool.false_ne_true, hr, hc]
    unfold sizarref15_SameC.f
    simp only [Option.bind_some]
    rw [if_pos ((sameB_iff _ _).2 rfl)]
    simp
  · rfl

theorem pure_AverageCountedSpec (l0 : List S39) (l1 : List Int) : ∃ k, sizarlaw15_AverageCountedSpec.f k l0 l1 = some true := by
  refine ⟨1, ?_⟩
  unfold sizarlaw15_AverageCountedSpec.f sizarlaw15_saneC.f sizarref15_Few.f
  simp only [Option.bind_some, if_true]
  by_cases h0 : (l0.length : Int) ≤ 40
  · rw [decide_eq_true h0, if_pos rfl]
    exact countedspec_j0 (by omega) _
  · rw [decide_eq_false h0, if_neg Bool.false_ne_true]
    simp only [sizarlaw15_AverageCountedSpec.j0, if_true]
end Go.Proofs.Ytgoicalffgehoaa.P
