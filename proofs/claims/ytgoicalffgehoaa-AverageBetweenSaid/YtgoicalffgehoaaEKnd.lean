/- The contracts of average.kinds and of its two function values. Conditions: none. -/
import Derived.Test.YtgoicalffgehoaaESum
import Derived.Maps.OwnSet
import Derived.StillTailTactics
namespace Go.Proofs.Ytgoicalffgehoaa.P
open Go.RowKit Go.Shelf Go.Proofs.YtgoicalffgehoaaW.PrintWords
open Go.Proofs.Ytgoicalffgehoaa

def vK : Value := .agg #[.bool true, .func (.func 73) #[] #[], .bool true, .func (.func 74) #[] #[], .bool false, .nilFunc]
def oK : Obj := .cells #[.bool true, .func (.func 73) #[] #[], .bool true, .func (.func 74) #[] #[], .bool false, .nilFunc] 83
theorem res63 (tmps : Array Value) (w : World) (h : tmps[0]?.getD undef = .pointer (some ⟨w.heap.size, 0, none⟩)) : (results Try.f63 tmps).run Try.prog (w.alloc oK) = .ok vK (w.alloc oK) := by
  simp [results, Try.results63, go_sem, h, oK]
  rfl

def better (a b : S39) : Bool := decide (a.f2 > b.f2) || (decide (a.f2 = b.f2) && decide (a.f1 < b.f1))
def later (a b : S39) : Bool := decide (a.f1 ≥ b.f1)

theorem kinds_any (w : World) : Calls Try.prog 63 #[] w fun e w' => e = .returned (.agg #[.bool true, .func (.func 73) #[] #[], .bool true, .func (.func 74) #[] #[], .bool false, .nilFunc]) ∧ Below w.heap.size w w' := by
  go_enter Try.func63, Try.ntmps63
  go_wp2
  refine bodyPost_ret (res63 _ w rfl) rfl ?_
  exact ⟨rfl, below_alloc (Below.refl _ _) _⟩

set_option maxHeartbeats 1000000 in
theorem better_any (a b : S39) (w : World) : Calls Try.prog 73 #[.agg #[.int .i64 a.f0, .int .i64 a.f1, .int .i64 a.f2, .int .i64 a.f3, .int .i64 a.f4], .agg #[.int .i64 b.f0, .int .i64 b.f1, .int .i64 b.f2, .int .i64 b.f3, .int .i64 b.f4]] w fun e w' => e = .returned (.bool (better a b)) ∧ Below w.heap.size w w' := by
  have hu39 := Try.underlying39
  unfold better
  by_cases h1 : a.f2 > b.f2
  · rw [decide_eq_true h1]
    go_enter Try.func73, Try.ntmps73
    go_wp2
    go_ret
    exact ⟨rfl, below_alloc (below_alloc (Below.refl _ _) _) _⟩
  · by_cases h2 : a.f2 = b.f2
    · by_cases h3 : a.f1 < b.f1
      · rw [decide_eq_true h3, decide_eq_false h1, decide_eq_true h2]
        go_enter Try.func73, Try.ntmps73
        go_wp2
        go_ret
        exact ⟨rfl, below_alloc (below_alloc (Below.refl _ _) _) _⟩
      · rw [decide_eq_false h3, decide_eq_false h1, decide_eq_true h2]
        go_enter Try.func73, Try.ntmps73
        go_wp2
        go_ret
        exact ⟨rfl, below_alloc (below_alloc (Below.refl _ _) _) _⟩
    · rw [decide_eq_false h2, decide_eq_false h1]
      go_enter Try.func73, Try.ntmps73
      go_wp2
      go_ret
      exact ⟨rfl, below_alloc (below_alloc (Below.refl _ _) _) _⟩

theorem later_any (a b : S39) (w : World) : Calls Try.prog 74 #[.agg #[.int .i64 a.f0, .int .i64 a.f1, .int .i64 a.f2, .int .i64 a.f3, .int .i64 a.f4], .agg #[.int .i64 b.f0, .int .i64 b.f1, .int .i64 b.f2, .int .i64 b.f3, .int .i64 b.f4]] w fun e w' => e = .returned (.bool (later a b)) ∧ Below w.heap.size w w' := by
  have hu39 := Try.underlying39
  unfold later
  by_cases h1 : a.f1 ≥ b.f1
  · rw [decide_eq_true h1]
    go_enter Try.func74, Try.ntmps74
    go_wp2
    go_ret
    exact ⟨rfl, below_alloc (below_alloc (Below.refl _ _) _) _⟩
  · rw [decide_eq_false h1]
    go_enter Try.func74, Try.ntmps74
    go_wp2
    go_ret
    exact ⟨rfl, below_alloc (below_alloc (Below.refl _ _) _) _⟩
end Go.Proofs.Ytgoicalffgehoaa.P
