/- The chapter's examples of layer 5 hold: sane answers true. No condition. -/
import Derived.Test.YtgoicalffgehoaaP6
namespace Go.Proofs.Ytgoicalffgehoaa.P
open Go.RowKit Go.Proofs.YtgoicalffgehoaaW.PrintWords

theorem sane05_eq : sizarlaw05_sane.f 5 = some true := by decide +kernel

def sizarlaw05_saneC.f : Option Bool := some true
theorem sizarlaw05_saneC.calls (r : Bool) (w : World) (h : sizarlaw05_saneC.f = some r) :
    Calls Try.prog 18 #[] w fun e w' => e = .returned (.bool r) ∧ Below w.heap.size w w' := by
  obtain rfl := Option.some.inj h
  exact sizarlaw05_sane.calls 5 true w ⟨rfl⟩ sane05_eq
end Go.Proofs.Ytgoicalffgehoaa.P
