/- The chapter's examples of layer 15 hold: sane answers true. No condition. -/
import Derived.Test.YtgoicalffgehoaaP12
namespace Go.Proofs.Ytgoicalffgehoaa.P
open Go.RowKit Go.Proofs.YtgoicalffgehoaaW.PrintWords

theorem sane15_eq : sizarlaw15_sane.f 5 = some true := by decide +kernel

def sizarlaw15_saneC.f : Option Bool := some true
theorem sizarlaw15_saneC.calls (r : Bool) (w : World) (h : sizarlaw15_saneC.f = some r) :
    Calls Try.prog 31 #[] w fun e w' => e = .returned (.bool r) ∧ Below w.heap.size w w' := by
  obtain rfl := Option.some.inj h
  exact sizarlaw15_sane.calls 5 true w ⟨rfl⟩ sane15_eq
end Go.Proofs.Ytgoicalffgehoaa.P
