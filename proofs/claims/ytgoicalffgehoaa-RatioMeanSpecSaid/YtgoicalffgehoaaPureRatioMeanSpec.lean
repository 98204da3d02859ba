/- The plain law of RatioMeanSpec: the printed function answers true. No condition. -/
import Derived.Test.YtgoicalffgehoaaP18
namespace Go.Proofs.Ytgoicalffgehoaa.Pure
open Go.RowKit Go.Proofs.Ytgoicalffgehoaa.P Go.Proofs.YtgoicalffgehoaaW.PrintWords Go.Proofs.YtgoicalffgehoaaW.PrintLast

theorem mean_same (l0 l1 : List Int) (h : l0.length ≤ 2000) : sizarlaw05_RatioMeanSpec.j0 1 l0 l1 false = some true := by
  have e : ratio_Mean.f l0 l1 = some (meanN l0 l1, meanD l0 l1, meanE l0 l1) := by unfold ratio_Mean.f; rw [if_pos (by omega)]
  simp only [sizarlaw05_RatioMeanSpec.j0]
  unfold sizarref05_MeanC.f
  simp [e]

theorem RatioMeanSpec : sizarlaw05_RatioMeanSpec.Pure := by
  intro l0 l1 _ _ _ _ _ _
  refine ⟨1, ?_⟩
  unfold sizarlaw05_RatioMeanSpec.f sizarlaw05_saneC.f
  simp only [Option.bind_some, if_true]
  by_cases h0 : (l0.length : Int) > 2000
  · rw [if_pos h0]; rfl
  · rw [if_neg h0]
    by_cases h1 : (l1.length : Int) > 2000
    · rw [decide_eq_true h1]; rfl
    · rw [decide_eq_false h1]
      exact mean_same l0 l1 (by omega)
end Go.Proofs.Ytgoicalffgehoaa.Pure
