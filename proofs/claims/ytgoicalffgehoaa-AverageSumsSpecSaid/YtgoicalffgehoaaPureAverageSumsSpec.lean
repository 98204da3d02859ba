/- The plain law of AverageSumsSpec. No condition. -/
import Derived.Test.YtgoicalffgehoaaP25
namespace Go.Proofs.Ytgoicalffgehoaa.P
open Go.RowKit Go.Proofs.YtgoicalffgehoaaW.PrintWords Go.Proofs.Ytgoicalffgehoaa

theorem pure_AverageSumsSpec (l0 : List S39) : sizarlaw15_AverageSumsSpec.f l0 = some true := by
  unfold sizarlaw15_AverageSumsSpec.f sizarlaw15_saneC.f sizarref15_Few.f average_Sums.f sizarref15_SumsC.f average_MeanC.f sizarref15_MeanC.f average_Earned.f sizarref15_EarnedC.f
  simp only [Option.bind_some, if_true]
  split
  · simp
  · rfl
end Go.Proofs.Ytgoicalffgehoaa.P
