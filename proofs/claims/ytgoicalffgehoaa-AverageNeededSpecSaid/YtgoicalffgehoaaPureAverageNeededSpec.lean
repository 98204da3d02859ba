/- The plain law of AverageNeededSpec. Condition: the numbers are int64s. -/
import Derived.Test.YtgoicalffgehoaaP27
namespace Go.Proofs.Ytgoicalffgehoaa.P
open Go.RowKit Go.Proofs.YtgoicalffgehoaaW.PrintWords Go.Proofs.Ytgoicalffgehoaa

theorem needC_f {l0 : List S39} {a1 a2_0 a2_1 : Int} (h0 : in64 a2_0) (h1 : in64 a2_1) : average_NeededC.f l0 a1 a2_0 a2_1 = some (needA l0 a1 a2_0 a2_1) := by unfold average_NeededC.f; rw [if_pos ⟨h0, h1⟩]
theorem rneedC_f {l0 : List S39} {a1 a2_0 a2_1 : Int} (h0 : in64 a2_0) (h1 : in64 a2_1) : sizarref15_NeededC.f l0 a1 a2_0 a2_1 = some (needA l0 a1 a2_0 a2_1) := by unfold sizarref15_NeededC.f; rw [if_pos ⟨h0, h1⟩]

theorem pure_AverageNeededSpec (l0 : List S39) (a1 a2_0 a2_1 : Int) (_ : in64 a1) (h0 : in64 a2_0) (h1 : in64 a2_1) : sizarlaw15_AverageNeededSpec.f l0 a1 a2_0 a2_1 = some true := by
  unfold sizarlaw15_AverageNeededSpec.f sizarlaw15_saneC.f sizarref15_Few.f
  rw [needC_f h0 h1, rneedC_f h0 h1]
  simp only [Option.bind_some, if_true]
  split
  · simp
  · rfl
end Go.Proofs.Ytgoicalffgehoaa.P
