/- The plain law of RatioAddSpec: the printed function answers true. Condition: int64s. -/
import Derived.Test.YtgoicalffgehoaaP17
import Derived.Test.YtgoicalffgehoaaCUse
namespace Go.Proofs.Ytgoicalffgehoaa.P
open Go.RowKit Go.Proofs.YtgoicalffgehoaaW.PrintWords Go.Proofs.Ytgoicalffgehoaa

theorem pure_RatioAddSpec (a b c d : Int) (b0 : in64 a) (b1 : in64 b) (b2 : in64 c) (b3 : in64 d) : sizarlaw05_RatioAddSpec.f a b c d = some true := by
  unfold sizarlaw05_RatioAddSpec.f sizarlaw05_saneC.f sizarref05_AddC.f sizarref05_MulC.f sizarref05_CompareC.f
  simp [add_f b0 b1 b2 b3, mul_f b0 b1 b2 b3, cmp_f b0 b1 b2 b3]
end Go.Proofs.Ytgoicalffgehoaa.P
