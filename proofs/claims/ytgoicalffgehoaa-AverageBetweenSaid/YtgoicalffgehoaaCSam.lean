/- The reference's Same in closed form. No condition. -/
import Derived.Test.YtgoicalffgehoaaP11
import Derived.Test.YtgoicalffgehoaaERat
namespace Go.Proofs.Ytgoicalffgehoaa.P
open Go.RowKit Go.Proofs.YtgoicalffgehoaaW.PrintWords Go.Proofs.Ytgoicalffgehoaa

theorem same_cell (x y : S39) : (!(x.f0 == y.f0) || (!(x.f1 == y.f1) || (!(x.f2 == y.f2) || (!(x.f3 == y.f3) || (!(x.f4 == y.f4)))))) = true ↔ x ≠ y := by
  obtain ⟨x0, x1, x2, x3, x4⟩ := x
  obtain ⟨y0, y1, y2, y3, y4⟩ := y
  simp only [Bool.or_eq_true, Bool.not_eq_true', beq_eq_false_iff_ne, ne_eq, S39.mk.injEq, Classical.not_and_iff_not_or_not]

theorem drop_S39 {l : List S39} {i : Nat} (h : i < l.length) : l.drop i = rd_T39 l (i : Int) :: l.drop (i + 1) := by
  rw [List.drop_eq_getElem_cons h]
  simp [rd_T39, h]

open Classical in
theorem same_l0 {l m : List S39} (hl : l.length = m.length) (hm : l.length ≤ 9223372036854775807) : ∀ (d i k : Nat), i + d = l.length → d < k → sizarref15_Same.l0 k l m (i : Int) = some (decide (l.drop i = m.drop i)) := by
  intro d
  induction d with
  | zero =>
    intro i k hi hk
    obtain ⟨k, rfl⟩ : ∃ m, k = m + 1 := ⟨k - 1, by omega⟩
    simp only [sizarref15_Same.l0]
    obtain rfl : i = l.length := by omega
    rw [if_neg (by omega), List.drop_length, List.drop_eq_nil_of_le (by omega), decide_eq_true rfl]
  | succ d ih =>
    intro i k hi hk
    obtain ⟨k, rfl⟩ : ∃ m, k = m + 1 := ⟨k - 1, by omega⟩
    simp only [sizarref15_Same.l0]
    have e : wrap64 ((i : Int) + 1) = ((i + 1 : Nat) : Int) := wrap64_id (by omega) (by omega)
    have h1 := drop_S39 (l := l) (i := i) (by omega)
    have h2 := drop_S39 (l := m) (i := i) (by omega)
    have h3 := ih (i + 1) k (by omega) (by omega)
    rw [if_pos (by omega), if_pos (by omega), if_pos (by omega), e, h3, h1, h2]
    by_cases hx : rd_T39 l (i : Int) = rd_T39 m (i : Int)
    · rw [if_neg (fun h => (same_cell _ _).1 h hx), hx]
      congr 1
      exact decide_eq_decide.2 ⟨fun h => by rw [h], fun h => by injection h⟩
    · rw [if_pos ((same_cell _ _).2 hx), decide_eq_false (fun h => hx (by injection h))]

open Classical in
theorem same_eq {l m : List S39} (hm : l.length ≤ 9223372036854775807) : sizarref15_Same.f (l.length + 1) l m = some (decide (l = m)) := by
  unfold sizarref15_Same.f
  by_cases hl : l.length = m.length
  · rw [if_pos (by omega)]
    have := same_l0 hl hm l.length 0 (l.length + 1) (by omega) (by omega)
    rw [List.drop_zero, List.drop_zero] at this
    exact this
  · rw [if_neg (by omega), decide_eq_false (fun h => hl (by rw [h]))]

def sameB : List S39 → List S39 → Bool
  | [], [] => true
  | x :: l, y :: m => x.f0 == y.f0 && x.f1 == y.f1 && x.f2 == y.f2 && x.f3 == y.f3 && x.f4 == y.f4 && sameB l m
  | _, _ => false
theorem sameB_iff : ∀ (l m : List S39), sameB l m = true ↔ l = m
  | [], [] => by simp [sameB]
  | [], y :: m => by simp [sameB]
  | x :: l, [] => by simp [sameB]
  | x :: l, y :: m => by
    have := sameB_iff l m
    obtain ⟨x0, x1, x2, x3, x4⟩ := x
    obtain ⟨y0, y1, y2, y3, y4⟩ := y
    simp only [sameB, Bool.and_eq_true, beq_iff_eq, this, List.cons.injEq, S39.mk.injEq, and_assoc]

open Classical in
theorem sameB_eq (l m : List S39) : decide (l = m) = sameB l m := by
  rcases h : sameB l m with _ | _
  · exact decide_eq_false (fun e => by rw [(sameB_iff l m).2 e] at h; cases h)
  · exact decide_eq_true ((sameB_iff l m).1 h)

def sizarref15_SameC.f (l0 l1 : List S39) : Option Bool := some (sameB l0 l1)
theorem sizarref15_SameC.calls (A0 : Option Addr) (c0 : Nat) (l0 : List (S39)) (A1 : Option Addr) (c1 : Nat) (l1 : List (S39)) (r : Bool) (w : World) (hr0 : Kd.C k39 w A0 l0.length l0) (hc0 : l0.length ≤ c0) (hr1 : Kd.C k39 w A1 l1.length l1) (hc1 : l1.length ≤ c1) (h : sizarref15_SameC.f l0 l1 = some r) :
    Calls Try.prog 44 #[.slice A0 l0.length c0, .slice A1 l1.length c1] w fun e w' => e = .returned (.bool r) ∧ Drawn0 w w' :=
  sizarref15_Same.calls _ A0 c0 l0 A1 c1 l1 r w hr0 hc0 hr1 hc1 ((same_eq hr0.2.1).trans ((congrArg some (sameB_eq l0 l1)).trans h))
end Go.Proofs.Ytgoicalffgehoaa.P
