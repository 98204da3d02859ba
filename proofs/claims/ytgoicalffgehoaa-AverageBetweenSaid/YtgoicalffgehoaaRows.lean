/-
  No cell of these rows narrows 'for every input' (looked for: loops, veiled, ifaces, maps, wideKeys, modest, calm, conditions, laid).
  DERIVED. THE GIVEN ROWS OF THIS SEAT. 15 by the template 'for every input the law returns true; each argument reads behind the call as it read before'; 0 by the template 'total and deterministic' (their statements: YtgoicalffgehoaaTotals.lean).
  GIVEN WITH THE SEED: the statements are not yours to turn. If you find one false, say at which input.
  Laid BY PROGRAM, IN A SANDBOX (cutbox-rows.mjs): the forced cells as the released guide's own fill.sh prints them over the translation 7a52ea60c0625192… (all of the seat's roots in one cut). By AI agents, Wed Nov 11 2026. No macro, syntax, notation, axiom, sorry.
-/
import Derived.Test.YtgoicalffgehoaaChecked
import GoSem.Claim
import GoSem.ClaimJoined
import GoSem.ClaimMapViews
import Derived.JoinedTies
import Derived.KernelRfl
namespace Go.Proofs.Ytgoicalffgehoaa
/- THE CELL 'sum', in the pinned program and in every row, IS THE sha256 OF THE DUMP (.gsa) THAT YtgoicalffgehoaaProg.lean LOADS. Nothing in Lean hashes anything: it is a label: what it is worth is what the hold of that sum in a sandbox is worth. -/
noncomputable def Try.pinned : Pinned := { name := "ytgoicalffgehoaa", sum := "7a52ea60c0625192ac09daaaf830341464a789af8c41431113ec8778e19d23e6", checked := Try.checked }
namespace Rows
def none {H : Type} : Left H := { results := [], args := [] }

/-- 'sizarlaw05.RatioNewSpec': WHATEVER THE INPUT: true; the input reads as it did. -/
def ratioNewSpecSpec : ChangeSpec := { name := "ratioNewSpec", fn := fun _ => fun
  | [d1, d2, d3] => { results := [.lit (.bool true)], args := [d1, d2, d3] }
  | _ => none }
def ratioNewSpecRow : OpenClaim := { program := "ytgoicalffgehoaa", sum := "7a52ea60c0625192ac09daaaf830341464a789af8c41431113ec8778e19d23e6", func := "sizar/sizarlaw05.RatioNewSpec", spec := "ratioNewSpec", unfollowed := true, recurses := true, apart := false }
def RatioNewSpecSaid : Prop := ratioNewSpecRow.holds Try.pinned (OpenSpec.ofChange ratioNewSpecSpec)

/-- ITS FALSE NEIGHBOUR: 'it returns false'. Refute it at one input. -/
def ratioNewSpecWrong : ChangeSpec := { name := "ratioNewSpec", fn := fun _ => fun
  | [d1, d2, d3] => { results := [.lit (.bool false)], args := [d1, d2, d3] }
  | _ => none }
def RatioNewSpecWrongFalsely : Prop := ratioNewSpecRow.holds Try.pinned (OpenSpec.ofChange ratioNewSpecWrong)

/-- 'sizarlaw05.RatioAddSpec': WHATEVER THE INPUT: true; the input reads as it did. -/
def ratioAddSpecSpec : ChangeSpec := { name := "ratioAddSpec", fn := fun _ => fun
  | [d1, d2] => { results := [.lit (.bool true)], args := [d1, d2] }
  | _ => none }
def ratioAddSpecRow : OpenClaim := { program := "ytgoicalffgehoaa", sum := "7a52ea60c0625192ac09daaaf830341464a789af8c41431113ec8778e19d23e6", func := "sizar/sizarlaw05.RatioAddSpec", spec := "ratioAddSpec", unfollowed := true, recurses := true, apart := false }
def RatioAddSpecSaid : Prop := ratioAddSpecRow.holds Try.pinned (OpenSpec.ofChange ratioAddSpecSpec)

/-- ITS FALSE NEIGHBOUR: 'it returns false'. Refute it at one input. -/
def ratioAddSpecWrong : ChangeSpec := { name := "ratioAddSpec", fn := fun _ => fun
  | [d1, d2] => { results := [.lit (.bool false)], args := [d1, d2] }
  | _ => none }
def RatioAddSpecWrongFalsely : Prop := ratioAddSpecRow.holds Try.pinned (OpenSpec.ofChange ratioAddSpecWrong)

/-- 'sizarlaw05.RatioMeanSpec': WHATEVER THE INPUT: true; the input reads as it did. -/
def ratioMeanSpecSpec : ChangeSpec := { name := "ratioMeanSpec", fn := fun _ => fun
  | [d1, d2] => { results := [.lit (.bool true)], args := [d1, d2] }
  | _ => none }
def ratioMeanSpecRow : OpenClaim := { program := "ytgoicalffgehoaa", sum := "7a52ea60c0625192ac09daaaf830341464a789af8c41431113ec8778e19d23e6", func := "sizar/sizarlaw05.RatioMeanSpec", spec := "ratioMeanSpec", unfollowed := true, recurses := true, apart := false }
def RatioMeanSpecSaid : Prop := ratioMeanSpecRow.holds Try.pinned (OpenSpec.ofChange ratioMeanSpecSpec)

/-- ITS FALSE NEIGHBOUR: 'it returns false'. Refute it at one input. -/
def ratioMeanSpecWrong : ChangeSpec := { name := "ratioMeanSpec", fn := fun _ => fun
  | [d1, d2] => { results := [.lit (.bool false)], args := [d1, d2] }
  | _ => none }
def RatioMeanSpecWrongFalsely : Prop := ratioMeanSpecRow.holds Try.pinned (OpenSpec.ofChange ratioMeanSpecWrong)

/-- 'sizarlaw15.AverageBetween': WHATEVER THE INPUT: true; the input reads as it did. -/
def averageBetweenSpec : ChangeSpec := { name := "averageBetween", fn := fun _ => fun
  | [d1, d2] => { results := [.lit (.bool true)], args := [d1, d2] }
  | _ => none }
def averageBetweenRow : OpenClaim := { program := "ytgoicalffgehoaa", sum := "7a52ea60c0625192ac09daaaf830341464a789af8c41431113ec8778e19d23e6", func := "sizar/sizarlaw15.AverageBetween", spec := "averageBetween", unfollowed := true, recurses := true, apart := false }
def AverageBetweenSaid : Prop := averageBetweenRow.holds Try.pinned (OpenSpec.ofChange averageBetweenSpec)

/-- ITS FALSE NEIGHBOUR: 'it returns false'. Refute it at one input. -/
def averageBetweenWrong : ChangeSpec := { name := "averageBetween", fn := fun _ => fun
  | [d1, d2] => { results := [.lit (.bool false)], args := [d1, d2] }
  | _ => none }
def AverageBetweenWrongFalsely : Prop := averageBetweenRow.holds Try.pinned (OpenSpec.ofChange averageBetweenWrong)

/-- 'sizarlaw15.AverageReached': WHATEVER THE INPUT: true; the input reads as it did. -/
def averageReachedSpec : ChangeSpec := { name := "averageReached", fn := fun _ => fun
  | [d1, d2, d3] => { results := [.lit (.bool true)], args := [d1, d2, d3] }
  | _ => none }
def averageReachedRow : OpenClaim := { program := "ytgoicalffgehoaa", sum := "7a52ea60c0625192ac09daaaf830341464a789af8c41431113ec8778e19d23e6", func := "sizar/sizarlaw15.AverageReached", spec := "averageReached", unfollowed := true, recurses := true, apart := false }
def AverageReachedSaid : Prop := averageReachedRow.holds Try.pinned (OpenSpec.ofChange averageReachedSpec)

/-- ITS FALSE NEIGHBOUR: 'it returns false'. Refute it at one input. -/
def averageReachedWrong : ChangeSpec := { name := "averageReached", fn := fun _ => fun
  | [d1, d2, d3] => { results := [.lit (.bool false)], args := [d1, d2, d3] }
  | _ => none }
def AverageReachedWrongFalsely : Prop := averageReachedRow.holds Try.pinned (OpenSpec.ofChange averageReachedWrong)

/-- 'sizarlaw05.RatioField': WHATEVER THE INPUT: true; the input reads as it did. -/
def ratioFieldSpec : ChangeSpec := { name := "ratioField", fn := fun _ => fun
  | [d1, d2, d3] => { results := [.lit (.bool true)], args := [d1, d2, d3] }
  | _ => none }
def ratioFieldRow : OpenClaim := { program := "ytgoicalffgehoaa", sum := "7a52ea60c0625192ac09daaaf830341464a789af8c41431113ec8778e19d23e6", func := "sizar/sizarlaw05.RatioField", spec := "ratioField", unfollowed := true, recurses := true, apart := false }
def RatioFieldSaid : Prop := ratioFieldRow.holds Try.pinned (OpenSpec.ofChange ratioFieldSpec)

/-- ITS FALSE NEIGHBOUR: 'it returns false'. Refute it at one input. -/
def ratioFieldWrong : ChangeSpec := { name := "ratioField", fn := fun _ => fun
  | [d1, d2, d3] => { results := [.lit (.bool false)], args := [d1, d2, d3] }
  | _ => none }
def RatioFieldWrongFalsely : Prop := ratioFieldRow.holds Try.pinned (OpenSpec.ofChange ratioFieldWrong)

/-- 'sizarlaw05.RatioOrder': WHATEVER THE INPUT: true; the input reads as it did. -/
def ratioOrderSpec : ChangeSpec := { name := "ratioOrder", fn := fun _ => fun
  | [d1, d2, d3] => { results := [.lit (.bool true)], args := [d1, d2, d3] }
  | _ => none }
def ratioOrderRow : OpenClaim := { program := "ytgoicalffgehoaa", sum := "7a52ea60c0625192ac09daaaf830341464a789af8c41431113ec8778e19d23e6", func := "sizar/sizarlaw05.RatioOrder", spec := "ratioOrder", unfollowed := true, recurses := true, apart := false }
def RatioOrderSaid : Prop := ratioOrderRow.holds Try.pinned (OpenSpec.ofChange ratioOrderSpec)

/-- ITS FALSE NEIGHBOUR: 'it returns false'. Refute it at one input. -/
def ratioOrderWrong : ChangeSpec := { name := "ratioOrder", fn := fun _ => fun
  | [d1, d2, d3] => { results := [.lit (.bool false)], args := [d1, d2, d3] }
  | _ => none }
def RatioOrderWrongFalsely : Prop := ratioOrderRow.holds Try.pinned (OpenSpec.ofChange ratioOrderWrong)

/-- 'sizarlaw05.RatioLowest': WHATEVER THE INPUT: true; the input reads as it did. -/
def ratioLowestSpec : ChangeSpec := { name := "ratioLowest", fn := fun _ => fun
  | [d1, d2, d3] => { results := [.lit (.bool true)], args := [d1, d2, d3] }
  | _ => none }
def ratioLowestRow : OpenClaim := { program := "ytgoicalffgehoaa", sum := "7a52ea60c0625192ac09daaaf830341464a789af8c41431113ec8778e19d23e6", func := "sizar/sizarlaw05.RatioLowest", spec := "ratioLowest", unfollowed := true, recurses := true, apart := false }
def RatioLowestSaid : Prop := ratioLowestRow.holds Try.pinned (OpenSpec.ofChange ratioLowestSpec)

/-- ITS FALSE NEIGHBOUR: 'it returns false'. Refute it at one input. -/
def ratioLowestWrong : ChangeSpec := { name := "ratioLowest", fn := fun _ => fun
  | [d1, d2, d3] => { results := [.lit (.bool false)], args := [d1, d2, d3] }
  | _ => none }
def RatioLowestWrongFalsely : Prop := ratioLowestRow.holds Try.pinned (OpenSpec.ofChange ratioLowestWrong)

/-- 'sizarlaw05.RatioBetween': WHATEVER THE INPUT: true; the input reads as it did. -/
def ratioBetweenSpec : ChangeSpec := { name := "ratioBetween", fn := fun _ => fun
  | [d1, d2, d3] => { results := [.lit (.bool true)], args := [d1, d2, d3] }
  | _ => none }
def ratioBetweenRow : OpenClaim := { program := "ytgoicalffgehoaa", sum := "7a52ea60c0625192ac09daaaf830341464a789af8c41431113ec8778e19d23e6", func := "sizar/sizarlaw05.RatioBetween", spec := "ratioBetween", unfollowed := true, recurses := true, apart := false }
def RatioBetweenSaid : Prop := ratioBetweenRow.holds Try.pinned (OpenSpec.ofChange ratioBetweenSpec)

/-- ITS FALSE NEIGHBOUR: 'it returns false'. Refute it at one input. -/
def ratioBetweenWrong : ChangeSpec := { name := "ratioBetween", fn := fun _ => fun
  | [d1, d2, d3] => { results := [.lit (.bool false)], args := [d1, d2, d3] }
  | _ => none }
def RatioBetweenWrongFalsely : Prop := ratioBetweenRow.holds Try.pinned (OpenSpec.ofChange ratioBetweenWrong)

/-- 'sizarlaw05.RatioParts': WHATEVER THE INPUT: true; the input reads as it did. -/
def ratioPartsSpec : ChangeSpec := { name := "ratioParts", fn := fun _ => fun
  | [d1, d2, d3] => { results := [.lit (.bool true)], args := [d1, d2, d3] }
  | _ => none }
def ratioPartsRow : OpenClaim := { program := "ytgoicalffgehoaa", sum := "7a52ea60c0625192ac09daaaf830341464a789af8c41431113ec8778e19d23e6", func := "sizar/sizarlaw05.RatioParts", spec := "ratioParts", unfollowed := true, recurses := true, apart := false }
def RatioPartsSaid : Prop := ratioPartsRow.holds Try.pinned (OpenSpec.ofChange ratioPartsSpec)

/-- ITS FALSE NEIGHBOUR: 'it returns false'. Refute it at one input. -/
def ratioPartsWrong : ChangeSpec := { name := "ratioParts", fn := fun _ => fun
  | [d1, d2, d3] => { results := [.lit (.bool false)], args := [d1, d2, d3] }
  | _ => none }
def RatioPartsWrongFalsely : Prop := ratioPartsRow.holds Try.pinned (OpenSpec.ofChange ratioPartsWrong)

/-- 'sizarlaw15.AverageSumsSpec': WHATEVER THE INPUT: true; the input reads as it did. -/
def averageSumsSpecSpec : ChangeSpec := { name := "averageSumsSpec", fn := fun _ => fun
  | [d] => { results := [.lit (.bool true)], args := [d] }
  | _ => none }
def averageSumsSpecRow : OpenClaim := { program := "ytgoicalffgehoaa", sum := "7a52ea60c0625192ac09daaaf830341464a789af8c41431113ec8778e19d23e6", func := "sizar/sizarlaw15.AverageSumsSpec", spec := "averageSumsSpec", unfollowed := true, recurses := true, apart := false }
def AverageSumsSpecSaid : Prop := averageSumsSpecRow.holds Try.pinned (OpenSpec.ofChange averageSumsSpecSpec)

/-- ITS FALSE NEIGHBOUR: 'it returns false'. Refute it at one input. -/
def averageSumsSpecWrong : ChangeSpec := { name := "averageSumsSpec", fn := fun _ => fun
  | [d] => { results := [.lit (.bool false)], args := [d] }
  | _ => none }
def AverageSumsSpecWrongFalsely : Prop := averageSumsSpecRow.holds Try.pinned (OpenSpec.ofChange averageSumsSpecWrong)

/-- 'sizarlaw15.AverageCountedSpec': WHATEVER THE INPUT: true; the input reads as it did. -/
def averageCountedSpecSpec : ChangeSpec := { name := "averageCountedSpec", fn := fun _ => fun
  | [d1, d2] => { results := [.lit (.bool true)], args := [d1, d2] }
  | _ => none }
def averageCountedSpecRow : OpenClaim := { program := "ytgoicalffgehoaa", sum := "7a52ea60c0625192ac09daaaf830341464a789af8c41431113ec8778e19d23e6", func := "sizar/sizarlaw15.AverageCountedSpec", spec := "averageCountedSpec", unfollowed := true, recurses := true, apart := false }
def AverageCountedSpecSaid : Prop := averageCountedSpecRow.holds Try.pinned (OpenSpec.ofChange averageCountedSpecSpec)

/-- ITS FALSE NEIGHBOUR: 'it returns false'. Refute it at one input. -/
def averageCountedSpecWrong : ChangeSpec := { name := "averageCountedSpec", fn := fun _ => fun
  | [d1, d2] => { results := [.lit (.bool false)], args := [d1, d2] }
  | _ => none }
def AverageCountedSpecWrongFalsely : Prop := averageCountedSpecRow.holds Try.pinned (OpenSpec.ofChange averageCountedSpecWrong)

/-- 'sizarlaw15.AverageNeededSpec': WHATEVER THE INPUT: true; the input reads as it did. -/
def averageNeededSpecSpec : ChangeSpec := { name := "averageNeededSpec", fn := fun _ => fun
  | [d1, d2, d3] => { results := [.lit (.bool true)], args := [d1, d2, d3] }
  | _ => none }
def averageNeededSpecRow : OpenClaim := { program := "ytgoicalffgehoaa", sum := "7a52ea60c0625192ac09daaaf830341464a789af8c41431113ec8778e19d23e6", func := "sizar/sizarlaw15.AverageNeededSpec", spec := "averageNeededSpec", unfollowed := true, recurses := true, apart := false }
def AverageNeededSpecSaid : Prop := averageNeededSpecRow.holds Try.pinned (OpenSpec.ofChange averageNeededSpecSpec)

/-- ITS FALSE NEIGHBOUR: 'it returns false'. Refute it at one input. -/
def averageNeededSpecWrong : ChangeSpec := { name := "averageNeededSpec", fn := fun _ => fun
  | [d1, d2, d3] => { results := [.lit (.bool false)], args := [d1, d2, d3] }
  | _ => none }
def AverageNeededSpecWrongFalsely : Prop := averageNeededSpecRow.holds Try.pinned (OpenSpec.ofChange averageNeededSpecWrong)

/-- 'sizarlaw15.AverageParts': WHATEVER THE INPUT: true; the input reads as it did. -/
def averagePartsSpec : ChangeSpec := { name := "averageParts", fn := fun _ => fun
  | [d1, d2] => { results := [.lit (.bool true)], args := [d1, d2] }
  | _ => none }
def averagePartsRow : OpenClaim := { program := "ytgoicalffgehoaa", sum := "7a52ea60c0625192ac09daaaf830341464a789af8c41431113ec8778e19d23e6", func := "sizar/sizarlaw15.AverageParts", spec := "averageParts", unfollowed := true, recurses := true, apart := false }
def AveragePartsSaid : Prop := averagePartsRow.holds Try.pinned (OpenSpec.ofChange averagePartsSpec)

/-- ITS FALSE NEIGHBOUR: 'it returns false'. Refute it at one input. -/
def averagePartsWrong : ChangeSpec := { name := "averageParts", fn := fun _ => fun
  | [d1, d2] => { results := [.lit (.bool false)], args := [d1, d2] }
  | _ => none }
def AveragePartsWrongFalsely : Prop := averagePartsRow.holds Try.pinned (OpenSpec.ofChange averagePartsWrong)

/-- 'sizarlaw15.AverageCounts': WHATEVER THE INPUT: true; the input reads as it did. -/
def averageCountsSpec : ChangeSpec := { name := "averageCounts", fn := fun _ => fun
  | [d1, d2] => { results := [.lit (.bool true)], args := [d1, d2] }
  | _ => none }
def averageCountsRow : OpenClaim := { program := "ytgoicalffgehoaa", sum := "7a52ea60c0625192ac09daaaf830341464a789af8c41431113ec8778e19d23e6", func := "sizar/sizarlaw15.AverageCounts", spec := "averageCounts", unfollowed := true, recurses := true, apart := false }
def AverageCountsSaid : Prop := averageCountsRow.holds Try.pinned (OpenSpec.ofChange averageCountsSpec)

/-- ITS FALSE NEIGHBOUR: 'it returns false'. Refute it at one input. -/
def averageCountsWrong : ChangeSpec := { name := "averageCounts", fn := fun _ => fun
  | [d1, d2] => { results := [.lit (.bool false)], args := [d1, d2] }
  | _ => none }
def AverageCountsWrongFalsely : Prop := averageCountsRow.holds Try.pinned (OpenSpec.ofChange averageCountsWrong)

/- THE SECOND FORM. 'bulk': how many values and letters a reading holds, each counted each time it is reached (what is shared counts as often as it is met; a slice's spare places count too). A statement '..UptoSaid' is the law's where the arguments, and the package variables that the reading takes, are together of bulk at most 1048576: NARROWER than '..Said'. Prove '..Said' where nothing that the law and all that it calls make is longer than what came in: it says more and counts as full. Else prove '..UptoSaid'. A law counts once. -/
mutual
def uptoBulk {H : Type} : DataW H → Nat
  | .lit (.string bytes) => bytes.length + 1
  | .lit _ => 1
  | .nil => 1
  | .ptr d => uptoBulk d + 1
  | .slice elems spare => uptoBulkAll elems + uptoBulkAll spare + 1
  | .agg parts => uptoBulkAll parts + 1
  | .iface _ d => uptoBulk d + 1
  | .map entries => uptoBulkEntries entries + 1
  | .held _ => 1
def uptoBulkAll {H : Type} : List (DataW H) → Nat
  | [] => 0
  | d :: r => uptoBulk d + uptoBulkAll r
def uptoBulkEntries {H : Type} : List (Lit × DataW H) → Nat
  | [] => 0
  | x :: r => uptoBulkEntry x + uptoBulkEntries r
def uptoBulkEntry {H : Type} : Lit × DataW H → Nat
  | (.string bytes, d) => bytes.length + uptoBulk d + 1
  | (_, d) => uptoBulk d + 1
 end
def uptoSmall : (H : Type) → List (DataW H) → Bool := fun _ ds => decide (uptoBulkAll ds ≤ 1048576)
def OpenSpec.upto (s : _root_.Go.ChangeSpec) : _root_.Go.OpenSpec := { _root_.Go.OpenSpec.ofChange s with cond := some uptoSmall }

/-- 'sizarlaw05.RatioNewSpec', WHERE WHAT IT READS IS OF BULK AT MOST 1048576: true; the input reads as it did. -/
def ratioNewSpecUptoRow : OpenClaim := { program := "ytgoicalffgehoaa", sum := "7a52ea60c0625192ac09daaaf830341464a789af8c41431113ec8778e19d23e6", func := "sizar/sizarlaw05.RatioNewSpec", spec := "ratioNewSpec", unfollowed := true, recurses := true, apart := false, narrowed := true }
def RatioNewSpecUptoSaid : Prop := ratioNewSpecUptoRow.holds Try.pinned (OpenSpec.upto ratioNewSpecSpec)

/-- 'sizarlaw05.RatioAddSpec', WHERE WHAT IT READS IS OF BULK AT MOST 1048576: true; the input reads as it did. -/
def ratioAddSpecUptoRow : OpenClaim := { program := "ytgoicalffgehoaa", sum := "7a52ea60c0625192ac09daaaf830341464a789af8c41431113ec8778e19d23e6", func := "sizar/sizarlaw05.RatioAddSpec", spec := "ratioAddSpec", unfollowed := true, recurses := true, apart := false, narrowed := true }
def RatioAddSpecUptoSaid : Prop := ratioAddSpecUptoRow.holds Try.pinned (OpenSpec.upto ratioAddSpecSpec)

/-- 'sizarlaw05.RatioMeanSpec', WHERE WHAT IT READS IS OF BULK AT MOST 1048576: true; the input reads as it did. -/
def ratioMeanSpecUptoRow : OpenClaim := { program := "ytgoicalffgehoaa", sum := "7a52ea60c0625192ac09daaaf830341464a789af8c41431113ec8778e19d23e6", func := "sizar/sizarlaw05.RatioMeanSpec", spec := "ratioMeanSpec", unfollowed := true, recurses := true, apart := false, narrowed := true }
def RatioMeanSpecUptoSaid : Prop := ratioMeanSpecUptoRow.holds Try.pinned (OpenSpec.upto ratioMeanSpecSpec)

/-- 'sizarlaw15.AverageBetween', WHERE WHAT IT READS IS OF BULK AT MOST 1048576: true; the input reads as it did. -/
def averageBetweenUptoRow : OpenClaim := { program := "ytgoicalffgehoaa", sum := "7a52ea60c0625192ac09daaaf830341464a789af8c41431113ec8778e19d23e6", func := "sizar/sizarlaw15.AverageBetween", spec := "averageBetween", unfollowed := true, recurses := true, apart := false, narrowed := true }
def AverageBetweenUptoSaid : Prop := averageBetweenUptoRow.holds Try.pinned (OpenSpec.upto averageBetweenSpec)

/-- 'sizarlaw15.AverageReached', WHERE WHAT IT READS IS OF BULK AT MOST 1048576: true; the input reads as it did. -/
def averageReachedUptoRow : OpenClaim := { program := "ytgoicalffgehoaa", sum := "7a52ea60c0625192ac09daaaf830341464a789af8c41431113ec8778e19d23e6", func := "sizar/sizarlaw15.AverageReached", spec := "averageReached", unfollowed := true, recurses := true, apart := false, narrowed := true }
def AverageReachedUptoSaid : Prop := averageReachedUptoRow.holds Try.pinned (OpenSpec.upto averageReachedSpec)

/-- 'sizarlaw05.RatioField', WHERE WHAT IT READS IS OF BULK AT MOST 1048576: true; the input reads as it did. -/
def ratioFieldUptoRow : OpenClaim := { program := "ytgoicalffgehoaa", sum := "7a52ea60c0625192ac09daaaf830341464a789af8c41431113ec8778e19d23e6", func := "sizar/sizarlaw05.RatioField", spec := "ratioField", unfollowed := true, recurses := true, apart := false, narrowed := true }
def RatioFieldUptoSaid : Prop := ratioFieldUptoRow.holds Try.pinned (OpenSpec.upto ratioFieldSpec)

/-- 'sizarlaw05.RatioOrder', WHERE WHAT IT READS IS OF BULK AT MOST 1048576: true; the input reads as it did. -/
def ratioOrderUptoRow : OpenClaim := { program := "ytgoicalffgehoaa", sum := "7a52ea60c0625192ac09daaaf830341464a789af8c41431113ec8778e19d23e6", func := "sizar/sizarlaw05.RatioOrder", spec := "ratioOrder", unfollowed := true, recurses := true, apart := false, narrowed := true }
def RatioOrderUptoSaid : Prop := ratioOrderUptoRow.holds Try.pinned (OpenSpec.upto ratioOrderSpec)

/-- 'sizarlaw05.RatioLowest', WHERE WHAT IT READS IS OF BULK AT MOST 1048576: true; the input reads as it did. -/
def ratioLowestUptoRow : OpenClaim := { program := "ytgoicalffgehoaa", sum := "7a52ea60c0625192ac09daaaf830341464a789af8c41431113ec8778e19d23e6", func := "sizar/sizarlaw05.RatioLowest", spec := "ratioLowest", unfollowed := true, recurses := true, apart := false, narrowed := true }
def RatioLowestUptoSaid : Prop := ratioLowestUptoRow.holds Try.pinned (OpenSpec.upto ratioLowestSpec)

/-- 'sizarlaw05.RatioBetween', WHERE WHAT IT READS IS OF BULK AT MOST 1048576: true; the input reads as it did. -/
def ratioBetweenUptoRow : OpenClaim := { program := "ytgoicalffgehoaa", sum := "7a52ea60c0625192ac09daaaf830341464a789af8c41431113ec8778e19d23e6", func := "sizar/sizarlaw05.RatioBetween", spec := "ratioBetween", unfollowed := true, recurses := true, apart := false, narrowed := true }
def RatioBetweenUptoSaid : Prop := ratioBetweenUptoRow.holds Try.pinned (OpenSpec.upto ratioBetweenSpec)

/-- 'sizarlaw05.RatioParts', WHERE WHAT IT READS IS OF BULK AT MOST 1048576: true; the input reads as it did. -/
def ratioPartsUptoRow : OpenClaim := { program := "ytgoicalffgehoaa", sum := "7a52ea60c0625192ac09daaaf830341464a789af8c41431113ec8778e19d23e6", func := "sizar/sizarlaw05.RatioParts", spec := "ratioParts", unfollowed := true, recurses := true, apart := false, narrowed := true }
def RatioPartsUptoSaid : Prop := ratioPartsUptoRow.holds Try.pinned (OpenSpec.upto ratioPartsSpec)

/-- 'sizarlaw15.AverageSumsSpec', WHERE WHAT IT READS IS OF BULK AT MOST 1048576: true; the input reads as it did. -/
def averageSumsSpecUptoRow : OpenClaim := { program := "ytgoicalffgehoaa", sum := "7a52ea60c0625192ac09daaaf830341464a789af8c41431113ec8778e19d23e6", func := "sizar/sizarlaw15.AverageSumsSpec", spec := "averageSumsSpec", unfollowed := true, recurses := true, apart := false, narrowed := true }
def AverageSumsSpecUptoSaid : Prop := averageSumsSpecUptoRow.holds Try.pinned (OpenSpec.upto averageSumsSpecSpec)

/-- 'sizarlaw15.AverageCountedSpec', WHERE WHAT IT READS IS OF BULK AT MOST 1048576: true; the input reads as it did. -/
def averageCountedSpecUptoRow : OpenClaim := { program := "ytgoicalffgehoaa", sum := "7a52ea60c0625192ac09daaaf830341464a789af8c41431113ec8778e19d23e6", func := "sizar/sizarlaw15.AverageCountedSpec", spec := "averageCountedSpec", unfollowed := true, recurses := true, apart := false, narrowed := true }
def AverageCountedSpecUptoSaid : Prop := averageCountedSpecUptoRow.holds Try.pinned (OpenSpec.upto averageCountedSpecSpec)

/-- 'sizarlaw15.AverageNeededSpec', WHERE WHAT IT READS IS OF BULK AT MOST 1048576: true; the input reads as it did. -/
def averageNeededSpecUptoRow : OpenClaim := { program := "ytgoicalffgehoaa", sum := "7a52ea60c0625192ac09daaaf830341464a789af8c41431113ec8778e19d23e6", func := "sizar/sizarlaw15.AverageNeededSpec", spec := "averageNeededSpec", unfollowed := true, recurses := true, apart := false, narrowed := true }
def AverageNeededSpecUptoSaid : Prop := averageNeededSpecUptoRow.holds Try.pinned (OpenSpec.upto averageNeededSpecSpec)

/-- 'sizarlaw15.AverageParts', WHERE WHAT IT READS IS OF BULK AT MOST 1048576: true; the input reads as it did. -/
def averagePartsUptoRow : OpenClaim := { program := "ytgoicalffgehoaa", sum := "7a52ea60c0625192ac09daaaf830341464a789af8c41431113ec8778e19d23e6", func := "sizar/sizarlaw15.AverageParts", spec := "averageParts", unfollowed := true, recurses := true, apart := false, narrowed := true }
def AveragePartsUptoSaid : Prop := averagePartsUptoRow.holds Try.pinned (OpenSpec.upto averagePartsSpec)

/-- 'sizarlaw15.AverageCounts', WHERE WHAT IT READS IS OF BULK AT MOST 1048576: true; the input reads as it did. -/
def averageCountsUptoRow : OpenClaim := { program := "ytgoicalffgehoaa", sum := "7a52ea60c0625192ac09daaaf830341464a789af8c41431113ec8778e19d23e6", func := "sizar/sizarlaw15.AverageCounts", spec := "averageCounts", unfollowed := true, recurses := true, apart := false, narrowed := true }
def AverageCountsUptoSaid : Prop := averageCountsUptoRow.holds Try.pinned (OpenSpec.upto averageCountsSpec)

end Rows
end Go.Proofs.Ytgoicalffgehoaa
