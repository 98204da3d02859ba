/- The contract of ratio.common (a closure that calls itself): the greatest common divisor of the absolute values. Condition: both numbers are int64s. -/
import Derived.Test.YtgoicalffgehoaaRat
import Derived.Test.YtgoicalffgehoaaP0
import Derived.Deep.QuietTactic
import Derived.BigQuiet
import Derived.WalkKit

import Derived.Laws.EntriesVeiled
import Derived.Deep.Draws
namespace Go.Proofs.Ytgoicalffgehoaa.P
open Go.RowKit Go.Proofs.YtgoicalffgehoaaW.PrintWords
open Go.Proofs.Ytgoicalffgehoaa (gcdA)

theorem wrap_u64 (x : Int) : IntKind.u64.wrap x = x % 18446744073709551616 := by
  simp [IntKind.wrap, IntKind.signed, IntKind.bits]

theorem ret_u64 {a b : Int} (h : a = b) : Ending.returned (.int .u64 a) = Ending.returned (.int .u64 b) := by rw [h]

theorem size_any (a : Int) (w : World) (h1 : -9223372036854775808 ≤ a) (h2 : a ≤ 9223372036854775807) :
    Calls Try.prog 47 #[.int .i64 a] w fun e w' => e = .returned (.int .u64 ((a.natAbs : Nat) : Int)) ∧ w' = w := by
  by_cases hn : a < 0
  · go_enter Try.func47, Try.ntmps47
    go_wp2
    go_ret
    exact ⟨ret_u64 (by rw [wrap_u64, wrap_u64]; omega), rfl⟩
  · go_enter Try.func47, Try.ntmps47
    go_wp2
    go_ret
    exact ⟨ret_u64 (by omega), rfl⟩

theorem step_any (n : Nat) : ∀ (m : Nat) (w : World) (c : Nat), m < 18446744073709551616 → n < 18446744073709551616 →
    w.cell? ⟨c, 0, none⟩ = some (.func (.func 65) #[] #[.pointer (some ⟨c, 0, none⟩)]) →
    Calls Try.prog 65 #[.int .u64 m, .int .u64 n, .pointer (some ⟨c, 0, none⟩)] w fun e w' => e = .returned (.int .u64 ((Nat.gcd m n : Nat) : Int)) ∧ ∃ j, w' = w.drewN j := by
  induction n using Nat.strongRecOn with
  | _ n ih =>
  intro m w c hm hn hc
  by_cases h0 : n = 0
  · subst h0
    go_enter Try.func65, Try.ntmps65
    go_wp2_with fail
    go_ret
    exact ⟨by simp, 0, rfl⟩
  · have hlt : m % n < n := Nat.mod_lt _ (by omega)
    have ihh := ih (m % n) hlt n
    simp only [Int.natCast_emod] at ihh
    have hz : ((n : Int) == 0) = false := by simpa using h0
    have hz2 : (n : Int) ≠ 0 := by omega
    go_enter Try.func65, Try.ntmps65
    go_wp2_with fail
    go_quiet ((go_at_call 65; refine Calls.quiet_of (ihh _ c (by omega) (by omega) ?_); exact hc))
    go_wp2_with fail
    go_ret
    exact ⟨ret_u64 (by rw [Nat.gcd_comm m n, Nat.gcd_rec n m, Nat.gcd_comm]), _, rfl⟩

def ratio_common.f (a0 a1 : Int) : Option Int :=
  if -9223372036854775808 ≤ a0 ∧ a0 ≤ 9223372036854775807 ∧ -9223372036854775808 ≤ a1 ∧ a1 ≤ 9223372036854775807 then some (gcdA a0 a1 : Nat) else none

theorem ratio_common.calls (a0 : Int) (a1 : Int) (r : Int) (w : World) (h : ratio_common.f a0 a1 = some r) :
    Calls Try.prog 46 #[.int .i64 a0, .int .i64 a1] w fun e w' => e = .returned (.int .u64 r) ∧ Below w.heap.size w w' := by
  unfold ratio_common.f at h
  split at h
  · rename_i hr
    obtain ⟨h1, h2, h3, h4⟩ := hr
    obtain rfl := Option.some.inj h
    clear h
    have b0 : a0.natAbs < 18446744073709551616 := by omega
    have b1 : a1.natAbs < 18446744073709551616 := by omega
    have hmf : ∀ (fn : Fn) (first cap : Array Value) (w : World), (Instr.makeFunc fn first cap).run Try.prog w = .ok (.func fn first cap) w := fun _ _ _ _ => rfl
    have hst := step_any a1.natAbs a0.natAbs
    go_enter Try.func46, Try.ntmps46
    go_wp2_with fail
    go_quiet (first
      | (go_at_call 47; exact Calls.quiet_of_same (size_any _ _ (by omega) (by omega)))
      | (go_at_call 65; refine Calls.quiet_of (hst _ _ (by omega) (by omega) ?_); go_simp))
    go_wp2_with fail
    go_ret
    exact ⟨rfl, pw_below_drewN (below_alloc (Below.refl _ _) _) _⟩
  · cases h
end Go.Proofs.Ytgoicalffgehoaa.P
