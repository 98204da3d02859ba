/- The plain law of RatioNewSpec: the printed function answers true. Condition: int64s. -/
import Derived.Test.YtgoicalffgehoaaP16
import Derived.Test.YtgoicalffgehoaaCUse
namespace Go.Proofs.Ytgoicalffgehoaa.P
open Go.RowKit Go.Proofs.YtgoicalffgehoaaW.PrintWords Go.Proofs.Ytgoicalffgehoaa

theorem rnew_f {n d : Int} (h0 : in64 n) (h1 : in64 d) : sizarref05_NewC.f n d = some (newN n d, newD n d, newE n d) := by unfold sizarref05_NewC.f; rw [if_pos ⟨h0, h1⟩]
theorem rcheck_f {n d : Int} (h0 : in64 n) (h1 : in64 d) : sizarref05_CheckC.f n d = some (chkE n d) := by unfold sizarref05_CheckC.f; rw [if_pos ⟨h0, h1⟩]

theorem pure_RatioNewSpec (a0 a1 a2_0 a2_1 : Int) (b0 : in64 a0) (b1 : in64 a1) (b2 : in64 a2_0) (b3 : in64 a2_1) : sizarlaw05_RatioNewSpec.f a0 a1 a2_0 a2_1 = some true := by
  unfold sizarlaw05_RatioNewSpec.f sizarlaw05_saneC.f
  simp [new_f b0 b1, rnew_f b0 b1, check_f b2 b3, rcheck_f b2 b3, check_f (newN_in a0 a1) (newD_in a0 a1), rcheck_f (newN_in a0 a1) (newD_in a0 a1)]
end Go.Proofs.Ytgoicalffgehoaa.P
