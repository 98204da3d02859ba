/- Contracts of Go functions and the plain Lean functions that they compute, laid by this session's own program (wip/printall.sh). Conditions: as each theorem states them. -/
import Derived.Test.YtgoicalffgehoaaP0
import Derived.Test.YtgoicalffgehoaaP2
import Derived.Test.YtgoicalffgehoaaP11
import Derived.Test.YtgoicalffgehoaaCSam
import Derived.Test.YtgoicalffgehoaaCSen
import Derived.Test.YtgoicalffgehoaaECnt
namespace Go.Proofs.Ytgoicalffgehoaa.P
open Go.RowKit Go.Proofs.YtgoicalffgehoaaW.PrintWords Go.Proofs.YtgoicalffgehoaaW.PrintLast Go.Proofs.YtgoicalffgehoaaW.PrintMore
attribute [local go_sem] max2_int min2_int max_two min_two max_three min_three max_four min_four   -- for this text's walks alone
set_option linter.unusedVariables false
set_option linter.unusedSimpArgs false

attribute [local go_sem high] eqA39
/-! ### sizarlaw15_AverageCounts: function 17 -/
mutual
def sizarlaw15_AverageCounts.j0 : Nat → List (S39) → List Int → Bool → Option (Bool)
  | 0, _, _, _ => none
  | k + 1, x0, x1, x28 => if x28 = true then (some true) else ((average_Counted.f x0 x1).bind fun bt768 => (if bt768.2 = 0 then (if (x1.length : Int) = (x0.length : Int) then (sizarlaw15_AverageCounts.l0 k x0 x1 bt768.1 (([] : List Int)) 0) else (some false)) else (some ((bt768.1.length : Int) == 0))))
def sizarlaw15_AverageCounts.l0 : Nat → List (S39) → List Int → List (S39) → List Int → Int → Option (Bool)
  | 0, _, _, _, _, _ => none
  | k + 1, x0, x1, x5, x7, x8 => if x8 < (x5.length : Int) then (sizarlaw15_AverageCounts.l1 k x0 x1 x5 x7 x8 (-1) 0) else (sizarlaw15_AverageCounts.l3 k x0 x1 x5 x7 0)
def sizarlaw15_AverageCounts.l1 : Nat → List (S39) → List Int → List (S39) → List Int → Int → Int → Int → Option (Bool)
  | 0, _, _, _, _, _, _, _ => none
  | k + 1, x0, x1, x5, x7, x8, x9, x10 => if x10 < (x0.length : Int) then (if 0 ≤ x10 then (if 0 ≤ x8 then (if x8 < (x5.length : Int) then (if (((rd_T39 x0 x10).f0) == ((rd_T39 x5 x8).f0) && (((rd_T39 x0 x10).f1) == ((rd_T39 x5 x8).f1) && (((rd_T39 x0 x10).f2) == ((rd_T39 x5 x8).f2) && (((rd_T39 x0 x10).f3) == ((rd_T39 x5 x8).f3) && (((rd_T39 x0 x10).f4) == ((rd_T39 x5 x8).f4)))))) = true then (if x10 < (x1.length : Int) then (sizarlaw15_AverageCounts.l1 k x0 x1 x5 x7 x8 (rd x1 x10) (wrap64 (x10 + 1))) else (none)) else (sizarlaw15_AverageCounts.l1 k x0 x1 x5 x7 x8 x9 (wrap64 (x10 + 1)))) else (none)) else (none)) else (none)) else (if x7.length < 17592186044416 then (if x9 < 0 then (some false) else (sizarlaw15_AverageCounts.l2 k x0 x1 x5 (x7 ++ [x9]) x8 x9 0)) else (none))
def sizarlaw15_AverageCounts.l2 : Nat → List (S39) → List Int → List (S39) → List Int → Int → Int → Int → Option (Bool)
  | 0, _, _, _, _, _, _, _ => none
  | k + 1, x0, x1, x5, x7, x8, x9, x11 => if x11 < (x0.length : Int) then (if 0 ≤ x11 then (if 0 ≤ x8 then (if x8 < (x5.length : Int) then (if ((rd_T39 x0 x11).f0) = ((rd_T39 x5 x8).f0) then (if x9 = 0 then (if ((rd_T39 x0 x11).f2) > ((rd_T39 x5 x8).f2) then (some false) else (if ((rd_T39 x0 x11).f2) = ((rd_T39 x5 x8).f2) then (if ((rd_T39 x0 x11).f1) < ((rd_T39 x5 x8).f1) then (some false) else (if x9 = 1 then (if ((rd_T39 x0 x11).f1) > ((rd_T39 x5 x8).f1) then (some false) else (sizarlaw15_AverageCounts.l2 k x0 x1 x5 x7 x8 x9 (wrap64 (x11 + 1)))) else (sizarlaw15_AverageCounts.l2 k x0 x1 x5 x7 x8 x9 (wrap64 (x11 + 1))))) else (if x9 = 1 then (if ((rd_T39 x0 x11).f1) > ((rd_T39 x5 x8).f1) then (some false) else (sizarlaw15_AverageCounts.l2 k x0 x1 x5 x7 x8 x9 (wrap64 (x11 + 1)))) else (sizarlaw15_AverageCounts.l2 k x0 x1 x5 x7 x8 x9 (wrap64 (x11 + 1)))))) else (if x9 = 1 then (if ((rd_T39 x0 x11).f1) > ((rd_T39 x5 x8).f1) then (some false) else (sizarlaw15_AverageCounts.l2 k x0 x1 x5 x7 x8 x9 (wrap64 (x11 + 1)))) else (sizarlaw15_AverageCounts.l2 k x0 x1 x5 x7 x8 x9 (wrap64 (x11 + 1))))) else (sizarlaw15_AverageCounts.l2 k x0 x1 x5 x7 x8 x9 (wrap64 (x11 + 1)))) else (none)) else (none)) else (none)) else (sizarlaw15_AverageCounts.l0 k x0 x1 x5 x7 (wrap64 (x8 + 1)))
def sizarlaw15_AverageCounts.l3 : Nat → List (S39) → List Int → List (S39) → List Int → Int → Option (Bool)
  | 0, _, _, _, _, _ => none
  | k + 1, x0, x1, x5, x7, x12 => if x12 < (x0.length : Int) then (sizarlaw15_AverageCounts.l4 k x0 x1 x5 x7 x12 0 0 0) else ((average_Counted.f x5 x7).bind fun bt795 => (if bt795.2 = 0 then ((sizarref15_SameC.f x5 bt795.1).bind fun t799 => (some t799)) else (some false)))
def sizarlaw15_AverageCounts.l4 : Nat → List (S39) → List Int → List (S39) → List Int → Int → Int → Int → Int → Option (Bool)
  | 0, _, _, _, _, _, _, _, _ => none
  | k + 1, x0, x1, x5, x7, x12, x13, x14, x15 => if x15 < (x5.length : Int) then (if 0 ≤ x15 then (if 0 ≤ x12 then (if x12 < (x0.length : Int) then (if ((rd_T39 x5 x15).f0) = ((rd_T39 x0 x12).f0) then (sizarlaw15_AverageCounts.l4 k x0 x1 x5 x7 x12 (wrap64 (x13 + 1)) x14 (wrap64 (x15 + 1))) else (sizarlaw15_AverageCounts.l4 k x0 x1 x5 x7 x12 x13 x14 (wrap64 (x15 + 1)))) else (none)) else (none)) else (none)) else (sizarlaw15_AverageCounts.l5 k x0 x1 x5 x7 x12 x13 x14 0)
def sizarlaw15_AverageCounts.l5 : Nat → List (S39) → List Int → List (S39) → List Int → Int → Int → Int → Int → Option (Bool)
  | 0, _, _, _, _, _, _, _, _ => none
  | k + 1, x0, x1, x5, x7, x12, x13, x14, x16 => if x16 < (x0.length : Int) then (if 0 ≤ x16 then (if 0 ≤ x12 then (if x12 < (x0.length : Int) then (if ((rd_T39 x0 x16).f0) = ((rd_T39 x0 x12).f0) then (sizarlaw15_AverageCounts.l5 k x0 x1 x5 x7 x12 x13 (wrap64 (x14 + 1)) (wrap64 (x16 + 1))) else (sizarlaw15_AverageCounts.l5 k x0 x1 x5 x7 x12 x13 x14 (wrap64 (x16 + 1)))) else (none)) else (none)) else (none)) else (if 0 ≤ x12 then (if x12 < (x1.length : Int) then (if (rd x1 x12) = 2 then (if x13 = x14 then (sizarlaw15_AverageCounts.l3 k x0 x1 x5 x7 (wrap64 (x12 + 1))) else (some false)) else (if x13 = 1 then (sizarlaw15_AverageCounts.l3 k x0 x1 x5 x7 (wrap64 (x12 + 1))) else (some false))) else (none)) else (none))
end
def sizarlaw15_AverageCounts.f (k : Nat) (l0 : List (S39)) (l1 : List Int) : Option (Bool) := (sizarlaw15_saneC.f).bind fun t766 => (if t766 = true then ((sizarref15_Few.f l0).bind fun t767 => (if t767 = true then (sizarlaw15_AverageCounts.j0 k l0 l1 (decide ((l1.length : Int) > 60))) else (sizarlaw15_AverageCounts.j0 k l0 l1 true))) else (some false))
theorem sizarlaw15_AverageCounts.mono_l : ∀ k, (∀ y0 y1 y2, LeO (sizarlaw15_AverageCounts.j0 k y0 y1 y2) (sizarlaw15_AverageCounts.j0 (k + 1) y0 y1 y2)) ∧ (∀ y0 y1 y2 y3 y4, LeO (sizarlaw15_AverageCounts.l0 k y0 y1 y2 y3 y4) (sizarlaw15_AverageCounts.l0 (k + 1) y0 y1 y2 y3 y4)) ∧ (∀ y0 y1 y2 y3 y4 y5 y6, LeO (sizarlaw15_AverageCounts.l1 k y0 y1 y2 y3 y4 y5 y6) (sizarlaw15_AverageCounts.l1 (k + 1) y0 y1 y2 y3 y4 y5 y6)) ∧ (∀ y0 y1 y2 y3 y4 y5 y6, LeO (sizarlaw15_AverageCounts.l2 k y0 y1 y2 y3 y4 y5 y6) (sizarlaw15_AverageCounts.l2 (k + 1) y0 y1 y2 y3 y4 y5 y6)) ∧ (∀ y0 y1 y2 y3 y4, LeO (sizarlaw15_AverageCounts.l3 k y0 y1 y2 y3 y4) (sizarlaw15_AverageCounts.l3 (k + 1) y0 y1 y2 y3 y4)) ∧ (∀ y0 y1 y2 y3 y4 y5 y6 y7, LeO (sizarlaw15_AverageCounts.l4 k y0 y1 y2 y3 y4 y5 y6 y7) (sizarlaw15_AverageCounts.l4 (k + 1) y0 y1 y2 y3 y4 y5 y6 y7)) ∧ (∀ y0 y1 y2 y3 y4 y5 y6 y7, LeO (sizarlaw15_AverageCounts.l5 k y0 y1 y2 y3 y4 y5 y6 y7) (sizarlaw15_AverageCounts.l5 (k + 1) y0 y1 y2 y3 y4 y5 y6 y7))
  | 0 => ⟨fun _ _ _ r h => by simp [sizarlaw15_AverageCounts.j0] at h, fun _ _ _ _ _ r h => by simp [sizarlaw15_AverageCounts.l0] at h, fun _ _ _ _ _ _ _ r h => by simp [sizarlaw15_AverageCounts.l1] at h, fun _ _ _ _ _ _ _ r h => by simp [sizarlaw15_AverageCounts.l2] at h, fun _ _ _ _ _ r h => by simp [sizarlaw15_AverageCounts.l3] at h, fun _ _ _ _ _ _ _ _ r h => by simp [sizarlaw15_AverageCounts.l4] at h, fun _ _ _ _ _ _ _ _ r h => by simp [sizarlaw15_AverageCounts.l5] at h⟩
  | k + 1 => by
    obtain ⟨ih0, ih1, ih2, ih3, ih4, ih5, ih6⟩ := sizarlaw15_AverageCounts.mono_l k
    refine ⟨?_, ?_, ?_, ?_, ?_, ?_, ?_⟩
    · intro y0 y1 y2
      unfold sizarlaw15_AverageCounts.j0
      repeat' first
      | (with_reducible exact ih0 _ _ _)
      | (with_reducible exact ih1 _ _ _ _ _)
      | (with_reducible exact ih2 _ _ _ _ _ _ _)
      | (with_reducible exact ih3 _ _ _ _ _ _ _)
      | (with_reducible exact ih4 _ _ _ _ _)
      | (with_reducible exact ih5 _ _ _ _ _ _ _ _)
      | (with_reducible exact ih6 _ _ _ _ _ _ _ _)
      | (with_reducible exact LeO.refl _)
      | (with_reducible exact LeO.none _)
      | (with_reducible refine LeO.ite ?_ ?_)
      | (with_reducible refine LeO.bind ?_ (fun _ => ?_))
      | exact ih0 _ _ _
      | exact ih1 _ _ _ _ _
      | exact ih2 _ _ _ _ _ _ _
      | exact ih3 _ _ _ _ _ _ _
      | exact ih4 _ _ _ _ _
      | exact ih5 _ _ _ _ _ _ _ _
      | exact ih6 _ _ _ _ _ _ _ _
      | exact LeO.none _
      | refine LeO.ite ?_ ?_
      | refine LeO.bind ?_ (fun _ => ?_)
    · intro y0 y1 y2 y3 y4
      unfold sizarlaw15_AverageCounts.l0
      repeat' first
      | (with_reducible exact ih0 _ _ _)
      | (with_reducible exact ih1 _ _ _ _ _)
      | (with_reducible exact ih2 _ _ _ _ _ _ _)
      | (with_reducible exact ih3 _ _ _ _ _ _ _)
      | (with_reducible exact ih4 _ _ _ _ _)
      | (with_reducible exact ih5 _ _ _ _ _ _ _ _)
      | (with_reducible exact ih6 _ _ _ _ _ _ _ _)
      | (with_reducible exact LeO.refl _)
      | (with_reducible exact LeO.none _)
      | (with_reducible refine LeO.ite ?_ ?_)
      | (with_reducible refine LeO.bind ?_ (fun _ => ?_))
      | exact ih0 _ _ _
      | exact ih1 _ _ _ _ _
      | exact ih2 _ _ _ _ _ _ _
      | exact ih3 _ _ _ _ _ _ _
      | exact ih4 _ _ _ _ _
      | exact ih5 _ _ _ _ _ _ _ _
      | exact ih6 _ _ _ _ _ _ _ _
      | exact LeO.none _
      | refine LeO.ite ?_ ?_
      | refine LeO.bind ?_ (fun _ => ?_)
    · intro y0 y1 y2 y3 y4 y5 y6
      unfold sizarlaw15_AverageCounts.l1
      repeat' first
      | (with_reducible exact ih0 _ _ _)
      | (with_reducible exact ih1 _ _ _ _ _)
      | (with_reducible exact ih2 _ _ _ _ _ _ _)
      | (with_reducible exact ih3 _ _ _ _ _ _ _)
      | (with_reducible exact ih4 _ _ _ _ _)
      | (with_reducible exact ih5 _ _ _ _ _ _ _ _)
      | (with_reducible exact ih6 _ _ _ _ _ _ _ _)
      | (with_reducible exact LeO.refl _)
      | (with_reducible exact LeO.none _)
      | (with_reducible refine LeO.ite ?_ ?_)
      | (with_reducible refine LeO.bind ?_ (fun _ => ?_))
      | exact ih0 _ _ _
      | exact ih1 _ _ _ _ _
      | exact ih2 _ _ _ _ _ _ _
      | exact ih3 _ _ _ _ _ _ _
      | exact ih4 _ _ _ _ _
      | exact ih5 _ _ _ _ _ _ _ _
      | exact ih6 _ _ _ _ _ _ _ _
      | exact LeO.none _
      | refine LeO.ite ?_ ?_
      | refine LeO.bind ?_ (fun _ => ?_)
    · intro y0 y1 y2 y3 y4 y5 y6
      unfold sizarlaw15_AverageCounts.l2
      repeat' first
      | (with_reducible exact ih0 _ _ _)
      | (with_reducible exact ih1 _ _ _ _ _)
      | (with_reducible exact ih2 _ _ _ _ _ _ _)
      | (with_reducible exact ih3 _ _ _ _ _ _ _)
      | (with_reducible exact ih4 _ _ _ _ _)
      | (with_reducible exact ih5 _ _ _ _ _ _ _ _)
      | (with_reducible exact ih6 _ _ _ _ _ _ _ _)
      | (with_reducible exact LeO.refl _)
      | (with_reducible exact LeO.none _)
      | (with_reducible refine LeO.ite ?_ ?_)
      | (with_reducible refine LeO.bind ?_ (fun _ => ?_))
      | exact ih0 _ _ _
      | exact ih1 _ _ _ _ _
      | exact ih2 _ _ _ _ _ _ _
      | exact ih3 _ _ _ _ _ _ _
      | exact ih4 _ _ _ _ _
      | exact ih5 _ _ _ _ _ _ _ _
      | exact ih6 _ _ _ _ _ _ _ _
      | exact LeO.none _
      | refine LeO.ite ?_ ?_
      | refine LeO.bind ?_ (fun _ => ?_)
    · intro y0 y1 y2 y3 y4
      unfold sizarlaw15_AverageCounts.l3
      repeat' first
      | (with_reducible exact ih0 _ _ _)
      | (with_reducible exact ih1 _ _ _ _ _)
      | (with_reducible exact ih2 _ _ _ _ _ _ _)
      | (with_reducible exact ih3 _ _ _ _ _ _ _)
      | (with_reducible exact ih4 _ _ _ _ _)
      | (with_reducible exact ih5 _ _ _ _ _ _ _ _)
      | (with_reducible exact ih6 _ _ _ _ _ _ _ _)
      | (with_reducible exact LeO.refl _)
      | (with_reducible exact LeO.none _)
      | (with_reducible refine LeO.ite ?_ ?_)
      | (with_reducible refine LeO.bind ?_ (fun _ => ?_))
      | exact ih0 _ _ _
      | exact ih1 _ _ _ _ _
      | exact ih2 _ _ _ _ _ _ _
      | exact ih3 _ _ _ _ _ _ _
      | exact ih4 _ _ _ _ _
      | exact ih5 _ _ _ _ _ _ _ _
      | exact ih6 _ _ _ _ _ _ _ _
      | exact LeO.none _
      | refine LeO.ite ?_ ?_
      | refine LeO.bind ?_ (fun _ => ?_)
    · intro y0 y1 y2 y3 y4 y5 y6 y7
      unfold sizarlaw15_AverageCounts.l4
      repeat' first
      | (with_reducible exact ih0 _ _ _)
      | (with_reducible exact ih1 _ _ _ _ _)
      | (with_reducible exact ih2 _ _ _ _ _ _ _)
      | (with_reducible exact ih3 _ _ _ _ _ _ _)
      | (with_reducible exact ih4 _ _ _ _ _)
      | (with_reducible exact ih5 _ _ _ _ _ _ _ _)
      | (with_reducible exact ih6 _ _ _ _ _ _ _ _)
      | (with_reducible exact LeO.refl _)
      | (with_reducible exact LeO.none _)
      | (with_reducible refine LeO.ite ?_ ?_)
      | (with_reducible refine LeO.bind ?_ (fun _ => ?_))
      | exact ih0 _ _ _
      | exact ih1 _ _ _ _ _
      | exact ih2 _ _ _ _ _ _ _
      | exact ih3 _ _ _ _ _ _ _
      | exact ih4 _ _ _ _ _
      | exact ih5 _ _ _ _ _ _ _ _
      | exact ih6 _ _ _ _ _ _ _ _
      | exact LeO.none _
      | refine LeO.ite ?_ ?_
      | refine LeO.bind ?_ (fun _ => ?_)
    · intro y0 y1 y2 y3 y4 y5 y6 y7
      unfold sizarlaw15_AverageCounts.l5
      repeat' first
      | (with_reducible exact ih0 _ _ _)
      | (with_reducible exact ih1 _ _ _ _ _)
      | (with_reducible exact ih2 _ _ _ _ _ _ _)
      | (with_reducible exact ih3 _ _ _ _ _ _ _)
      | (with_reducible exact ih4 _ _ _ _ _)
      | (with_reducible exact ih5 _ _ _ _ _ _ _ _)
      | (with_reducible exact ih6 _ _ _ _ _ _ _ _)
      | (with_reducible exact LeO.refl _)
      | (with_reducible exact LeO.none _)
      | (with_reducible refine LeO.ite ?_ ?_)
      | (with_reducible refine LeO.bind ?_ (fun _ => ?_))
      | exact ih0 _ _ _
      | exact ih1 _ _ _ _ _
      | exact ih2 _ _ _ _ _ _ _
      | exact ih3 _ _ _ _ _ _ _
      | exact ih4 _ _ _ _ _
      | exact ih5 _ _ _ _ _ _ _ _
      | exact ih6 _ _ _ _ _ _ _ _
      | exact LeO.none _
      | refine LeO.ite ?_ ?_
      | refine LeO.bind ?_ (fun _ => ?_)
theorem sizarlaw15_AverageCounts.mono : ∀ a0 a1 k, LeO (sizarlaw15_AverageCounts.f k a0 a1) (sizarlaw15_AverageCounts.f (k + 1) a0 a1) := by
  intro a0 a1 k
  obtain ⟨ih0, ih1, ih2, ih3, ih4, ih5, ih6⟩ := sizarlaw15_AverageCounts.mono_l k
  unfold sizarlaw15_AverageCounts.f
  repeat' first
      | (with_reducible exact ih0 _ _ _)
      | (with_reducible exact ih1 _ _ _ _ _)
      | (with_reducible exact ih2 _ _ _ _ _ _ _)
      | (with_reducible exact ih3 _ _ _ _ _ _ _)
      | (with_reducible exact ih4 _ _ _ _ _)
      | (with_reducible exact ih5 _ _ _ _ _ _ _ _)
      | (with_reducible exact ih6 _ _ _ _ _ _ _ _)
      | (with_reducible exact LeO.refl _)
      | (with_reducible exact LeO.none _)
      | (with_reducible refine LeO.ite ?_ ?_)
      | (with_reducible refine LeO.bind ?_ (fun _ => ?_))
      | exact ih0 _ _ _
      | exact ih1 _ _ _ _ _
      | exact ih2 _ _ _ _ _ _ _
      | exact ih3 _ _ _ _ _ _ _
      | exact ih4 _ _ _ _ _
      | exact ih5 _ _ _ _ _ _ _ _
      | exact ih6 _ _ _ _ _ _ _ _
      | exact LeO.none _
      | refine LeO.ite ?_ ?_
      | refine LeO.bind ?_ (fun _ => ?_)
set_option maxHeartbeats 8000000 in
set_option maxRecDepth 100000 in
theorem sizarlaw15_AverageCounts.calls (k : Nat) (A0 : Option Addr) (c0 : Nat) (l0 : List (S39)) (A1 : Option Addr) (c1 : Nat) (l1 : List Int) (r : Bool) (w : World) (hr0 : Kd.C k39 w A0 l0.length l0) (hc0 : l0.length ≤ c0) (hr1 : Kd.C (Kd.int .i64) w A1 l1.length l1) (hc1 : l1.length ≤ c1) (hrt : Aside0 (r = true)) (h : sizarlaw15_AverageCounts.f k l0 l1 = some r) :
    Calls Try.prog 17 #[.slice A0 l0.length c0, .slice A1 l1.length c1] w fun e w' => e = .returned (.bool r) ∧ Below w.heap.size w w' := by
  have hu39 := Try.underlying39
  have HR0 := Aside0.mk hr0
  have HC0 := Aside0.mk hc0
  clear hr0 hc0
  have HR1 := Aside0.mk hr1
  have HC1 := Aside0.mk hc1
  clear hr1 hc1
  have HB := Aside0.mk (Below.refl w.heap.size w)
  have H : ((sizarlaw15_saneC.f).bind fun t766 => (if t766 = true then ((sizarref15_Few.f l0).bind fun t767 => (if t767 = true then (sizarlaw15_AverageCounts.j0 k l0 l1 (decide ((l1.length : Int) > 60))) else (sizarlaw15_AverageCounts.j0 k l0 l1 true))) else (some false))) = some r := h
  clear h
  replace H := Option.bind_eq_some_iff.mp H
  obtain ⟨t766, A30, H⟩ := H
  replace H : (if t766 = true then ((sizarref15_Few.f l0).bind fun t767 => (if t767 = true then (sizarlaw15_AverageCounts.j0 k l0 l1 (decide ((l1.length : Int) > 60))) else (sizarlaw15_AverageCounts.j0 k l0 l1 true))) else (some false)) = some r := H
  have A3 := Aside0.mk A30
  clear A30
  by_cases c4 : t766 = true
  · subst c4
    have H1 : ((sizarref15_Few.f l0).bind fun t767 => (if t767 = true then (sizarlaw15_AverageCounts.j0 k l0 l1 (decide ((l1.length : Int) > 60))) else (sizarlaw15_AverageCounts.j0 k l0 l1 true))) = some r := by rw [if_pos rfl] at H; exact H
    clear H
    have H := H1
    clear H1
    have HC5 := Aside0.mk H
    clear H
    go_enter Try.func17, Try.ntmps17
    go_upto_region 3 with (first | (go_at_call 31; (with_reducible refine (sizarlaw15_saneC.calls  true _ A3.out).mono ?_); rintro e w6 ⟨rfl, hb⟩; have n0_ := Aside0.mk (below_step (by repeat (first | (with_reducible first | exact HB.out | apply below_alloc | apply pw_below_drewN | apply below_drew1) | exact HB.out)) hb); clear HB; have HB := n0_; clear n0_; (try clear hb); (try clear hb2); (try clear hk); (try clear hi)))
    repeat (go_quiet (first | (go_at_call 31; (with_reducible refine (sizarlaw15_saneC.calls  true _ A3.out).mono ?_); rintro e w6 ⟨rfl, hb⟩; have n0_ := Aside0.mk (below_step (by repeat (first | (with_reducible first | exact HB.out | apply below_alloc | apply pw_below_drewN | apply below_drew1) | exact HB.out)) hb); clear HB; have HB := n0_; clear n0_; (try clear hb); (try clear hb2); (try clear hk); (try clear hi))); go_upto_region 3 with (first | (go_at_call 31; (with_reducible refine (sizarlaw15_saneC.calls  true _ A3.out).mono ?_); rintro e w6 ⟨rfl, hb⟩; have n0_ := Aside0.mk (below_step (by repeat (first | (with_reducible first | exact HB.out | apply below_alloc | apply pw_below_drewN | apply below_drew1) | exact HB.out)) hb); clear HB; have HB := n0_; clear n0_; (try clear hb); (try clear hb2); (try clear hk); (try clear hi))))
    (try simp only [Act.put, List.setIfInBounds_toArray, List.set_cons_zero, List.set_cons_succ])
    go_cut [28] (fun v28 wc => ∃ (kq : Nat) (x28_4 : Bool), v28 = .bool x28_4 ∧ Aside0 (sizarlaw15_AverageCounts.j0 kq l0 l1 x28_4 = some r) ∧ Aside0 (kq ≤ k) ∧ Aside0 (Below w.heap.size w wc))
    case first =>
      as_aux_lemma =>
      have H := HC5.out
      clear HC5
      replace H := Option.bind_eq_some_iff.mp H
      obtain ⟨t767, A70, H⟩ := H
      replace H : (if t767 = true then (sizarlaw15_AverageCounts.j0 k l0 l1 (decide ((l1.length : Int) > 60))) else (sizarlaw15_AverageCounts.j0 k l0 l1 true)) = some r := H
      have A7 := Aside0.mk A70
      clear A70
      by_cases c8 : t767 = true
      · subst c8
        have H1 : (sizarlaw15_AverageCounts.j0 k l0 l1 (decide ((l1.length : Int) > 60))) = some r := by rw [if_pos rfl] at H; exact H
        clear H
        have H := H1
        clear H1
        have H' := Aside0.mk H
        clear H
        go_wp2_with (first | (go_at_call 32; (with_reducible refine (sizarref15_Few.calls _ _ l0 true _ ?side1 ?side2 A7.out).mono ?_); (case side1 => repeat (first | exact (Kd.C_below HR0.out HB.out) | (with_reducible refine Kd.C_alloc ?_ _) | (with_reducible refine Kd.C_drewN ?_ _) | (with_reducible refine Kd.C_drew ?_))); (case side2 => exact HC0.out); rintro e w' ⟨rfl, ⟨nd, rfl⟩⟩; (try first | exact ⟨rfl, _, World.drewN_drewN _ _ _⟩ | exact ⟨rfl, _, Eq.trans (World.drewN_drewN _ _ _) (congrArg (World.drewN _) (Nat.add_assoc _ _ _))⟩)))
        repeat (go_quiet (first | (go_at_call 32; (with_reducible refine (sizarref15_Few.calls _ _ l0 true _ ?side1 ?side2 A7.out).mono ?_); (case side1 => repeat (first | exact (Kd.C_below HR0.out HB.out) | (with_reducible refine Kd.C_alloc ?_ _) | (with_reducible refine Kd.C_drewN ?_ _) | (with_reducible refine Kd.C_drew ?_))); (case side2 => exact HC0.out); rintro e w' ⟨rfl, ⟨nd, rfl⟩⟩; (try first | exact ⟨rfl, _, World.drewN_drewN _ _ _⟩ | exact ⟨rfl, _, Eq.trans (World.drewN_drewN _ _ _) (congrArg (World.drewN _) (Nat.add_assoc _ _ _))⟩))); try go_wp2_with (first | (go_at_call 32; (with_reducible refine (sizarref15_Few.calls _ _ l0 true _ ?side1 ?side2 A7.out).mono ?_); (case side1 => repeat (first | exact (Kd.C_below HR0.out HB.out) | (with_reducible refine Kd.C_alloc ?_ _) | (with_reducible refine Kd.C_drewN ?_ _) | (with_reducible refine Kd.C_drew ?_))); (case side2 => exact HC0.out); rintro e w' ⟨rfl, ⟨nd, rfl⟩⟩; (try first | exact ⟨rfl, _, World.drewN_drewN _ _ _⟩ | exact ⟨rfl, _, Eq.trans (World.drewN_drewN _ _ _) (congrArg (World.drewN _) (Nat.add_assoc _ _ _))⟩))))
        go_meet
        case rel => exact ⟨_, (decide ((l1.length : Int) > 60)), (by first | rfl | (simp; done) | (simp [*]; done)), H', ⟨by first | omega | exact Nat.le_refl _⟩, ⟨by repeat (first | (with_reducible first | exact HB.out | apply below_alloc | apply pw_below_drewN | apply below_drew1) | exact HB.out)⟩⟩
      · replace c8 := Bool.eq_false_iff.mpr c8
        subst c8
        have H1 : (sizarlaw15_AverageCounts.j0 k l0 l1 true) = some r := by rw [if_neg (show ¬ (false = true) by decide)] at H; exact H
        clear H
        have H := H1
        clear H1
        have H' := Aside0.mk H
        clear H
        go_wp2_with (first | (go_at_call 32; (with_reducible refine (sizarref15_Few.calls _ _ l0 false _ ?side1 ?side2 A7.out).mono ?_); (case side1 => repeat (first | exact (Kd.C_below HR0.out HB.out) | (with_reducible refine Kd.C_alloc ?_ _) | (with_reducible refine Kd.C_drewN ?_ _) | (with_reducible refine Kd.C_drew ?_))); (case side2 => exact HC0.out); rintro e w' ⟨rfl, ⟨nd, rfl⟩⟩; (try first | exact ⟨rfl, _, World.drewN_drewN _ _ _⟩ | exact ⟨rfl, _, Eq.trans (World.drewN_drewN _ _ _) (congrArg (World.drewN _) (Nat.add_assoc _ _ _))⟩)))
        repeat (go_quiet (first | (go_at_call 32; (with_reducible refine (sizarref15_Few.calls _ _ l0 false _ ?side1 ?side2 A7.out).mono ?_); (case side1 => repeat (first | exact (Kd.C_below HR0.out HB.out) | (with_reducible refine Kd.C_alloc ?_ _) | (with_reducible refine Kd.C_drewN ?_ _) | (with_reducible refine Kd.C_drew ?_))); (case side2 => exact HC0.out); rintro e w' ⟨rfl, ⟨nd, rfl⟩⟩; (try first | exact ⟨rfl, _, World.drewN_drewN _ _ _⟩ | exact ⟨rfl, _, Eq.trans (World.drewN_drewN _ _ _) (congrArg (World.drewN _) (Nat.add_assoc _ _ _))⟩))); try go_wp2_with (first | (go_at_call 32; (with_reducible refine (sizarref15_Few.calls _ _ l0 false _ ?side1 ?side2 A7.out).mono ?_); (case side1 => repeat (first | exact (Kd.C_below HR0.out HB.out) | (with_reducible refine Kd.C_alloc ?_ _) | (with_reducible refine Kd.C_drewN ?_ _) | (with_reducible refine Kd.C_drew ?_))); (case side2 => exact HC0.out); rintro e w' ⟨rfl, ⟨nd, rfl⟩⟩; (try first | exact ⟨rfl, _, World.drewN_drewN _ _ _⟩ | exact ⟨rfl, _, Eq.trans (World.drewN_drewN _ _ _) (congrArg (World.drewN _) (Nat.add_assoc _ _ _))⟩))))
        go_meet
        case rel => exact ⟨_, (true), (by first | rfl | (simp; done) | (simp [*]; done)), H', ⟨by first | omega | exact Nat.le_refl _⟩, ⟨by repeat (first | (with_reducible first | exact HB.out | apply below_alloc | apply pw_below_drewN | apply below_drew1) | exact HB.out)⟩⟩
    case rest =>
      as_aux_lemma =>
      clear HC5
      try clear c1
      try clear p2
      try clear c4
      try clear c8
      obtain ⟨kq, x28_4, rfl, HA, HJ4, HB⟩ := hcut
      cases kq with
      | zero => exact absurd HA.out (by simp [sizarlaw15_AverageCounts.j0])
      | succ kj4 =>
        have H := HA.out
        clear HA
        simp only [sizarlaw15_AverageCounts.j0] at H
        by_cases c9 : x28_4 = true
        · subst c9
          have H1 : (some true) = some r := by rw [if_pos rfl] at H; exact H
          clear H
          have H := H1
          clear H1
          obtain rfl := Option.some.inj H
          go_wp2
          repeat (go_quiet (fail); try go_wp2)
          go_ret
          exact ⟨by first | rfl | (simp [errW_none, errW_some] <;> rfl) | (simp [*, errW_none, errW_some] <;> rfl), by repeat (first | (with_reducible first | exact HB.out | apply below_alloc | apply pw_below_drewN | apply below_drew1) | exact HB.out)⟩
        · replace c9 := Bool.eq_false_iff.mpr c9
          subst c9
          have H1 : ((average_Counted.f l0 l1).bind fun bt768 => (if bt768.2 = 0 then (if (l1.length : Int) = (l0.length : Int) then (sizarlaw15_AverageCounts.l0 kj4 l0 l1 bt768.1 (([] : List Int)) 0) else (some false)) else (some ((bt768.1.length : Int) == 0)))) = some r := by rw [if_neg (show ¬ (false = true) by decide)] at H; exact H
          clear H
          have H := H1
          clear H1
          replace H := Option.bind_eq_some_iff.mp H
          obtain ⟨⟨t768, t769⟩, A100, H⟩ := H
          replace H : (if t769 = 0 then (if (l1.length : Int) = (l0.length : Int) then (sizarlaw15_AverageCounts.l0 kj4 l0 l1 t768 (([] : List Int)) 0) else (some false)) else (some ((t768.length : Int) == 0))) = some r := H
          have A10 := Aside0.mk A100
          clear A100
          by_cases c11 : t769 = 0
          · rw [if_pos c11] at H
            have c11b0 : (t769 == 0) = true := beq_iff_eq.mpr c11
            have c11b1 : (t769 != 0) = false := bne_eq_false_iff_eq.mpr c11
            clear c11
            by_cases c12 : (l1.length : Int) = (l0.length : Int)
            · rw [if_pos c12] at H
              have c12b0 : ((l1.length : Int) == (l0.length : Int)) = true := beq_iff_eq.mpr c12
              have c12b1 : ((l1.length : Int) != (l0.length : Int)) = false := bne_eq_false_iff_eq.mpr c12
              have c12b2 : (l1.length == l0.length) = true := by first | simpa using c12 | (simp at c12 ⊢; omega)
              clear c12
              obtain ⟨y772, hy772⟩ : ∃ y_ : List Int, y_ = (([] : List Int)) := ⟨_, rfl⟩
              replace H : (sizarlaw15_AverageCounts.l0 kj4 l0 l1 t768 y772 0) = some r := by first | (rw [hy772]; with_reducible exact H) | (have H2_ := (Option.bind_some _ _).symm.trans H; rw [hy772]; with_reducible exact H2_) | (have H2_ := (Option.bind_some _ _).symm.trans H; with_reducible exact H2_) | with_reducible exact H | (rw [hy772]; exact H) | exact H
              have Ny772 := Aside0.mk hy772
              clear hy772
              have H' := Aside0.mk H
              clear H
              go_wp2_with (first | (go_at_call 42; (with_reducible refine (average_Counted.calls _ _ l0 _ _ l1 t768 t769 _ ?side1 ?side2 ?side3 ?side4 A10.out).mono ?_); (case side1 => repeat (first | exact (Kd.C_below HR0.out HB.out) | (with_reducible refine Kd.C_alloc ?_ _) | (with_reducible refine Kd.C_drewN ?_ _) | (with_reducible refine Kd.C_drew ?_))); (case side2 => exact HC0.out); (case side3 => repeat (first | exact (Kd.C_below HR1.out HB.out) | (with_reducible refine Kd.C_alloc ?_ _) | (with_reducible refine Kd.C_drewN ?_ _) | (with_reducible refine Kd.C_drew ?_))); (case side4 => exact HC1.out); rintro e w13 ⟨v770, rfl, ho0, hb⟩; have n0_ := Aside0.mk (Kd.R_lower ho0 (below_size (by repeat (first | (with_reducible first | exact HB.out | apply below_alloc | apply pw_below_drewN | apply below_drew1) | exact HB.out)))); have n1_ := Aside0.mk (below_step (by repeat (first | (with_reducible first | exact HB.out | apply below_alloc | apply pw_below_drewN | apply below_drew1) | exact HB.out)) hb); clear HB; have HO771 := n0_; have HB := n1_; clear n0_ n1_; (try clear hb); (try clear hb2); (try clear hk); (try clear hi); (try clear ho0)) | ((with_reducible refine gate_dst (N := 45) rfl ?_); (try (refine gate_guard (by rfl) ?_; dsimp only)); refine Kd.R_lit (Kd.int .i64) _ 3 ?hg (N := 45) ?hd (xs := ([] : List Int)) (inner := []) (ok := fun _ => True) (okp := fun _ => True) ?hr ?hp (fun _ hk => hk) trivial (Below.refl _ _) (Nat.le_refl _) (by simp) ?_; (case hd => rfl); (case hg => rfl); (case hr => first | (go_simp; done) | (go_simp; rfl)); (case hp => exact (Reps.none _ _)); intro v773 w14 ho15 hb hg_ hnew_; clear hg_ hnew_; (first | rw [← Ny772.out] at ho15 | (simp only [Int.reduceToNat] at ho15; rw [← Ny772.out] at ho15)); have n0_ := Aside0.mk (Kd.R_below (by (with_reducible repeat (first | apply Kd.R_alloc | apply Kd.R_drewN | apply Kd.R_drew)); exact HO771.out) hb); have n1_ := Aside0.mk (Kd.R_lower ho15 (below_size (by repeat (first | (with_reducible first | exact HB.out | apply below_alloc | apply pw_below_drewN | apply below_drew1) | exact HB.out)))); have n2_ := Aside0.mk (below_step (by repeat (first | (with_reducible first | exact HB.out | apply below_alloc | apply pw_below_drewN | apply below_drew1) | exact HB.out)) hb); clear HO771; clear HB; have HO771 := n0_; have HO774 := n1_; have HB := n2_; clear n0_ n1_ n2_; clear hb ho15))
              repeat (go_quiet (first | (go_at_call 42; (with_reducible refine (average_Counted.calls _ _ l0 _ _ l1 t768 t769 _ ?side1 ?side2 ?side3 ?side4 A10.out).mono ?_); (case side1 => repeat (first | exact (Kd.C_below HR0.out HB.out) | (with_reducible refine Kd.C_alloc ?_ _) | (with_reducible refine Kd.C_drewN ?_ _) | (with_reducible refine Kd.C_drew ?_))); (case side2 => exact HC0.out); (case side3 => repeat (first | exact (Kd.C_below HR1.out HB.out) | (with_reducible refine Kd.C_alloc ?_ _) | (with_reducible refine Kd.C_drewN ?_ _) | (with_reducible refine Kd.C_drew ?_))); (case side4 => exact HC1.out); rintro e w13 ⟨v770, rfl, ho0, hb⟩; have n0_ := Aside0.mk (Kd.R_lower ho0 (below_size (by repeat (first | (with_reducible first | exact HB.out | apply below_alloc | apply pw_below_drewN | apply below_drew1) | exact HB.out)))); have n1_ := Aside0.mk (below_step (by repeat (first | (with_reducible first | exact HB.out | apply below_alloc | apply pw_below_drewN | apply below_drew1) | exact HB.out)) hb); clear HB; have HO771 := n0_; have HB := n1_; clear n0_ n1_; (try clear hb); (try clear hb2); (try clear hk); (try clear hi); (try clear ho0)) | ((with_reducible refine gate_dst (N := 45) rfl ?_); (try (refine gate_guard (by rfl) ?_; dsimp only)); refine Kd.R_lit (Kd.int .i64) _ 3 ?hg (N := 45) ?hd (xs := ([] : List Int)) (inner := []) (ok := fun _ => True) (okp := fun _ => True) ?hr ?hp (fun _ hk => hk) trivial (Below.refl _ _) (Nat.le_refl _) (by simp) ?_; (case hd => rfl); (case hg => rfl); (case hr => first | (go_simp; done) | (go_simp; rfl)); (case hp => exact (Reps.none _ _)); intro v773 w14 ho15 hb hg_ hnew_; clear hg_ hnew_; (first | rw [← Ny772.out] at ho15 | (simp only [Int.reduceToNat] at ho15; rw [← Ny772.out] at ho15)); have n0_ := Aside0.mk (Kd.R_below (by (with_reducible repeat (first | apply Kd.R_alloc | apply Kd.R_drewN | apply Kd.R_drew)); exact HO771.out) hb); have n1_ := Aside0.mk (Kd.R_lower ho15 (below_size (by repeat (first | (with_reducible first | exact HB.out | apply below_alloc | apply pw_below_drewN | apply below_drew1) | exact HB.out)))); have n2_ := Aside0.mk (below_step (by repeat (first | (with_reducible first | exact HB.out | apply below_alloc | apply pw_below_drewN | apply below_drew1) | exact HB.out)) hb); clear HO771; clear HB; have HO771 := n0_; have HO774 := n1_; have HB := n2_; clear n0_ n1_ n2_; clear hb ho15)); try go_wp2_with (first | (go_at_call 42; (with_reducible refine (average_Counted.calls _ _ l0 _ _ l1 t768 t769 _ ?side1 ?side2 ?side3 ?side4 A10.out).mono ?_); (case side1 => repeat (first | exact (Kd.C_below HR0.out HB.out) | (with_reducible refine Kd.C_alloc ?_ _) | (with_reducible refine Kd.C_drewN ?_ _) | (with_reducible refine Kd.C_drew ?_))); (case side2 => exact HC0.out); (case side3 => repeat (first | exact (Kd.C_below HR1.out HB.out) | (with_reducible refine Kd.C_alloc ?_ _) | (with_reducible refine Kd.C_drewN ?_ _) | (with_reducible refine Kd.C_drew ?_))); (case side4 => exact HC1.out); rintro e w13 ⟨v770, rfl, ho0, hb⟩; have n0_ := Aside0.mk (Kd.R_lower ho0 (below_size (by repeat (first | (with_reducible first | exact HB.out | apply below_alloc | apply pw_below_drewN | apply below_drew1) | exact HB.out)))); have n1_ := Aside0.mk (below_step (by repeat (first | (with_reducible first | exact HB.out | apply below_alloc | apply pw_below_drewN | apply below_drew1) | exact HB.out)) hb); clear HB; have HO771 := n0_; have HB := n1_; clear n0_ n1_; (try clear hb); (try clear hb2); (try clear hk); (try clear hi); (try clear ho0)) | ((with_reducible refine gate_dst (N := 45) rfl ?_); (try (refine gate_guard (by rfl) ?_; dsimp only)); refine Kd.R_lit (Kd.int .i64) _ 3 ?hg (N := 45) ?hd (xs := ([] : List Int)) (inner := []) (ok := fun _ => True) (okp := fun _ => True) ?hr ?hp (fun _ hk => hk) trivial (Below.refl _ _) (Nat.le_refl _) (by simp) ?_; (case hd => rfl); (case hg => rfl); (case hr => first | (go_simp; done) | (go_simp; rfl)); (case hp => exact (Reps.none _ _)); intro v773 w14 ho15 hb hg_ hnew_; clear hg_ hnew_; (first | rw [← Ny772.out] at ho15 | (simp only [Int.reduceToNat] at ho15; rw [← Ny772.out] at ho15)); have n0_ := Aside0.mk (Kd.R_below (by (with_reducible repeat (first | apply Kd.R_alloc | apply Kd.R_drewN | apply Kd.R_drew)); exact HO771.out) hb); have n1_ := Aside0.mk (Kd.R_lower ho15 (below_size (by repeat (first | (with_reducible first | exact HB.out | apply below_alloc | apply pw_below_drewN | apply below_drew1) | exact HB.out)))); have n2_ := Aside0.mk (below_step (by repeat (first | (with_reducible first | exact HB.out | apply below_alloc | apply pw_below_drewN | apply below_drew1) | exact HB.out)) hb); clear HO771; clear HB; have HO771 := n0_; have HO774 := n1_; have HB := n2_; clear n0_ n1_ n2_; clear hb ho15)))
              go_loopg [7, 8] kj4 (fun kq v7 v8 w' => ∃ (x7_2 : List Int) (x8_2 : Int), v8 = .int .i64 x8_2 ∧ Aside0 (sizarlaw15_AverageCounts.l0 kq l0 l1 t768 x7_2 x8_2 = some r) ∧ Aside0 (kq ≤ kj4) ∧ Aside0 (Kd.R k39 39 w' w.heap.size (fun _ => True) v770 t768) ∧ Aside0 (Kd.R (Kd.int .i64) 3 w' w.heap.size (fun _ => True) v7 x7_2) ∧ Aside0 (Below w.heap.size w w'))
              case atStart => exact ⟨(y772), (0), (by first | rfl | (simp; done) | (simp [*]; done)), H', ⟨Nat.le_refl _⟩, ⟨by (with_reducible repeat (first | apply Kd.R_alloc | apply Kd.R_drewN | apply Kd.R_drew)); exact HO771.out⟩, ⟨by (with_reducible repeat (first | apply Kd.R_alloc | apply Kd.R_drewN | apply Kd.R_drew)); exact HO774.out⟩, ⟨by repeat (first | (with_reducible first | exact HB.out | apply below_alloc | apply pw_below_drewN | apply below_drew1) | exact HB.out)⟩⟩
              case round =>
                as_aux_lemma =>
                clear H'
                try clear c1
                try clear p2
                try clear c4
                try clear c8
                try clear c9
                try clear c11
                try clear c11b0
                try clear c11b1
                try clear c12
                try clear c12b0
                try clear c12b1
                try clear c12b2
                try clear p2
                obtain ⟨x7_2, x8_2, rfl, HA, HK2, HO_5, HO_7, HB⟩ := hrel
                cases gk with
                | zero => exact absurd HA.out (by simp [sizarlaw15_AverageCounts.l0])
                | succ k2 =>
                  have H := HA.out
                  clear HA
                  simp only [sizarlaw15_AverageCounts.l0] at H
                  by_cases c16 : x8_2 < (t768.length : Int)
                  · rw [if_pos c16] at H
                    have c16b0 : decide (x8_2 < (t768.length : Int)) = true := decide_eq_true c16
                    clear c16
                    have H' := Aside0.mk H
                    clear H
                    obtain ⟨Ao17, co17, eo17⟩ := Kd.R_slice HO_5.out
                    subst eo17
                    go_wp2
                    repeat (go_quiet (fail); try go_wp2)
                    go_loopg [9, 10] k2 (fun kq v9 v10 w' => ∃ (x9_3 : Int) (x10_3 : Int), v9 = .int .i64 x9_3 ∧ v10 = .int .i64 x10_3 ∧ Aside0 (sizarlaw15_AverageCounts.l1 kq l0 l1 t768 x7_2 x8_2 x9_3 x10_3 = some r) ∧ Aside0 (kq ≤ k2) ∧ Aside0 (Kd.R k39 39 w' w.heap.size (fun _ => True) (.slice Ao17 t768.length co17) t768) ∧ Aside0 (Kd.R (Kd.int .i64) 3 w' w.heap.size (fun _ => True) u7 x7_2) ∧ Aside0 (Below w.heap.size w w'))
                    case atStart => exact ⟨((-1)), (0), (by first | rfl | (simp; done) | (simp [*]; done)), (by first | rfl | (simp; done) | (simp [*]; done)), H', ⟨Nat.le_refl _⟩, ⟨by (with_reducible repeat (first | apply Kd.R_alloc | apply Kd.R_drewN | apply Kd.R_drew)); exact HO_5.out⟩, ⟨by (with_reducible repeat (first | apply Kd.R_alloc | apply Kd.R_drewN | apply Kd.R_drew)); exact HO_7.out⟩, ⟨by repeat (first | (with_reducible first | exact HB.out | apply below_alloc | apply pw_below_drewN | apply below_drew1) | exact HB.out)⟩⟩
                    case round =>
                      as_aux_lemma =>
                      clear H'
                      try clear c1
                      try clear p2
                      try clear c4
                      try clear c8
                      try clear c9
                      try clear c11
                      try clear c11b0
                      try clear c11b1
                      try clear c12
                      try clear c12b0
                      try clear c12b1
                      try clear c12b2
                      try clear c16
                      try clear c16b0
                      try clear c17
                      try clear p2
                      obtain ⟨x9_3, x10_3, rfl, rfl, HA, HK3, HO_5, HO_7, HB⟩ := hrel
                      cases gk with
                      | zero => exact absurd HA.out (by simp [sizarlaw15_AverageCounts.l1])
                      | succ k3 =>
                        have H := HA.out
                        clear HA
                        simp only [sizarlaw15_AverageCounts.l1] at H
                        by_cases c18 : x10_3 < (l0.length : Int)
                        · rw [if_pos c18] at H
                          have c18b0 : decide (x10_3 < (l0.length : Int)) = true := decide_eq_true c18
                          clear c18
                          by_cases c19 : 0 ≤ x10_3
                          · rw [if_pos c19] at H
                            have c19b0 : decide (0 ≤ x10_3) = true := decide_eq_true c19
                            clear c19
                            by_cases c20 : 0 ≤ x8_2
                            · rw [if_pos c20] at H
                              have c20b0 : decide (0 ≤ x8_2) = true := decide_eq_true c20
                              clear c20
                              by_cases c21 : x8_2 < (t768.length : Int)
                              · rw [if_pos c21] at H
                                have c21b0 : decide (x8_2 < (t768.length : Int)) = true := decide_eq_true c21
                                clear c21
                                by_cases c22 : (((rd_T39 l0 x10_3).f0) == ((rd_T39 t768 x8_2).f0) && (((rd_T39 l0 x10_3).f1) == ((rd_T39 t768 x8_2).f1) && (((rd_T39 l0 x10_3).f2) == ((rd_T39 t768 x8_2).f2) && (((rd_T39 l0 x10_3).f3) == ((rd_T39 t768 x8_2).f3) && (((rd_T39 l0 x10_3).f4) == ((rd_T39 t768 x8_2).f4)))))) = true
                                · rw [if_pos c22] at H
                                  have c22b0 : (((rd_T39 l0 x10_3).f0) == ((rd_T39 t768 x8_2).f0) && (((rd_T39 l0 x10_3).f1) == ((rd_T39 t768 x8_2).f1) && (((rd_T39 l0 x10_3).f2) == ((rd_T39 t768 x8_2).f2) && (((rd_T39 l0 x10_3).f3) == ((rd_T39 t768 x8_2).f3) && (((rd_T39 l0 x10_3).f4) == ((rd_T39 t768 x8_2).f4)))))) = true := c22
                                  (try (have c22b1 : decide (((rd_T39 l0 x10_3).f0) = ((rd_T39 t768 x8_2).f0) && (((rd_T39 l0 x10_3).f1) == ((rd_T39 t768 x8_2).f1) && (((rd_T39 l0 x10_3).f2) == ((rd_T39 t768 x8_2).f2) && (((rd_T39 l0 x10_3).f3) == ((rd_T39 t768 x8_2).f3) && (((rd_T39 l0 x10_3).f4) == ((rd_T39 t768 x8_2).f4)))))) = true := by simpa using c22))
                                  (try (have c22b2 : (((rd_T39 l0 x10_3).f0) == ((rd_T39 t768 x8_2).f0) && (((rd_T39 l0 x10_3).f1) == ((rd_T39 t768 x8_2).f1) && (((rd_T39 l0 x10_3).f2) == ((rd_T39 t768 x8_2).f2) && (((rd_T39 l0 x10_3).f3) == ((rd_T39 t768 x8_2).f3) && (((rd_T39 l0 x10_3).f4) == ((rd_T39 t768 x8_2).f4)))))) = true := by simpa using c22))
                                  clear c22
                                  by_cases c23 : x10_3 < (l1.length : Int)
                                  · rw [if_pos c23] at H
                                    have c23b0 : decide (x10_3 < (l1.length : Int)) = true := decide_eq_true c23
                                    clear c23
                                    have H' := Aside0.mk H
                                    clear H
                                    have p775 : 0 ≤ (x10_3 : Int) := of_decide_eq_true (by first | (with_reducible assumption) | assumption)
                                    have q775 : x10_3 < (l0.length : Int) := of_decide_eq_true (by first | (with_reducible assumption) | assumption)
                                    obtain ⟨ad775, e775, hx775_0, hx775_1, hx775_2, hx775_3, hx775_4⟩ := at_T39 HR0.out x10_3 p775 q775
                                    cases e775
                                    replace hx775_0 := (HB.out.cell (World.block_lt_of_cell? w _ hx775_0)).trans hx775_0
                                    replace hx775_1 := (HB.out.cell (World.block_lt_of_cell? w _ hx775_1)).trans hx775_1
                                    replace hx775_2 := (HB.out.cell (World.block_lt_of_cell? w _ hx775_2)).trans hx775_2
                                    replace hx775_3 := (HB.out.cell (World.block_lt_of_cell? w _ hx775_3)).trans hx775_3
                                    replace hx775_4 := (HB.out.cell (World.block_lt_of_cell? w _ hx775_4)).trans hx775_4
                                    replace p775 := eq_true p775
                                    replace q775 := eq_true q775
                                    have p776 : 0 ≤ (x8_2 : Int) := of_decide_eq_true (by first | (with_reducible assumption) | assumption)
                                    have q776 : x8_2 < (t768.length : Int) := of_decide_eq_true (by first | (with_reducible assumption) | assumption)
                                    obtain ⟨ad776, e776, hx776_0, hx776_1, hx776_2, hx776_3, hx776_4⟩ := at_T39 (Kd.R_reads' HO_5.out).2.2 x8_2 p776 q776
                                    cases e776
                                    replace p776 := eq_true p776
                                    replace q776 := eq_true q776
                                    have p777 : 0 ≤ (x10_3 : Int) := of_decide_eq_true (by first | (with_reducible assumption) | assumption)
                                    have q777 : x10_3 < (l1.length : Int) := of_decide_eq_true (by first | (with_reducible assumption) | assumption)
                                    obtain ⟨ad777, e777, hx777_0⟩ := Kd.at_int HR1.out x10_3 p777 q777
                                    cases e777
                                    replace hx777_0 := (HB.out.cell (World.block_lt_of_cell? w _ hx777_0)).trans hx777_0
                                    replace p777 := eq_true p777
                                    replace q777 := eq_true q777
                                    go_wp2
                                    repeat (go_quiet (fail); try go_wp2)
                                    go_roundg k3
                                    case measure => have := HJ4.out; have := HK2.out; have := HK3.out; omega
                                    case rel => exact ⟨(rd l1 x10_3), (wrap64 (x10_3 + 1)), (by first | rfl | (simp; done) | (simp [*]; done)), (by first | rfl | (simp; done) | (simp [*]; done)), H', ⟨by have := HJ4.out; have := HK2.out; have := HK3.out; omega⟩, ⟨by (with_reducible repeat (first | apply Kd.R_alloc | apply Kd.R_drewN | apply Kd.R_drew)); exact HO_5.out⟩, ⟨by (with_reducible repeat (first | apply Kd.R_alloc | apply Kd.R_drewN | apply Kd.R_drew)); exact HO_7.out⟩, ⟨by repeat (first | (with_reducible first | exact HB.out | apply below_alloc | apply pw_below_drewN | apply below_drew1) | exact HB.out)⟩⟩
                                  · rw [if_neg c23] at H
                                    exact absurd H (by simp)
                                · rw [if_neg c22] at H
                                  have c22b0 : (((rd_T39 l0 x10_3).f0) == ((rd_T39 t768 x8_2).f0) && (((rd_T39 l0 x10_3).f1) == ((rd_T39 t768 x8_2).f1) && (((rd_T39 l0 x10_3).f2) == ((rd_T39 t768 x8_2).f2) && (((rd_T39 l0 x10_3).f3) == ((rd_T39 t768 x8_2).f3) && (((rd_T39 l0 x10_3).f4) == ((rd_T39 t768 x8_2).f4)))))) = false := by simpa using c22
                                  (try (have c22b1 : decide (((rd_T39 l0 x10_3).f0) = ((rd_T39 t768 x8_2).f0) && (((rd_T39 l0 x10_3).f1) == ((rd_T39 t768 x8_2).f1) && (((rd_T39 l0 x10_3).f2) == ((rd_T39 t768 x8_2).f2) && (((rd_T39 l0 x10_3).f3) == ((rd_T39 t768 x8_2).f3) && (((rd_T39 l0 x10_3).f4) == ((rd_T39 t768 x8_2).f4)))))) = false := by simpa using c22))
                                  (try (have c22b2 : (((rd_T39 l0 x10_3).f0) == ((rd_T39 t768 x8_2).f0) && (((rd_T39 l0 x10_3).f1) == ((rd_T39 t768 x8_2).f1) && (((rd_T39 l0 x10_3).f2) == ((rd_T39 t768 x8_2).f2) && (((rd_T39 l0 x10_3).f3) == ((rd_T39 t768 x8_2).f3) && (((rd_T39 l0 x10_3).f4) == ((rd_T39 t768 x8_2).f4)))))) = false := by simpa using c22))
                                  (try (have c22b3 : ¬ (((rd_T39 l0 x10_3).f0) = ((rd_T39 t768 x8_2).f0) && (((rd_T39 l0 x10_3).f1) == ((rd_T39 t768 x8_2).f1) && (((rd_T39 l0 x10_3).f2) == ((rd_T39 t768 x8_2).f2) && (((rd_T39 l0 x10_3).f3) == ((rd_T39 t768 x8_2).f3) && (((rd_T39 l0 x10_3).f4) == ((rd_T39 t768 x8_2).f4)))))) := by simpa using c22))
                                  clear c22
                                  have H' := Aside0.mk H
                                  clear H
                                  have p775 : 0 ≤ (x10_3 : Int) := of_decide_eq_true (by first | (with_reducible assumption) | assumption)
                                  have q775 : x10_3 < (l0.length : Int) := of_decide_eq_true (by first | (with_reducible assumption) | assumption)
                                  obtain ⟨ad775, e775, hx775_0, hx775_1, hx775_2, hx775_3, hx775_4⟩ := at_T39 HR0.out x10_3 p775 q775
                                  cases e775
                                  replace hx775_0 := (HB.out.cell (World.block_lt_of_cell? w _ hx775_0)).trans hx775_0
                                  replace hx775_1 := (HB.out.cell (World.block_lt_of_cell? w _ hx775_1)).trans hx775_1
                                  replace hx775_2 := (HB.out.cell (World.block_lt_of_cell? w _ hx775_2)).trans hx775_2
                                  replace hx775_3 := (HB.out.cell (World.block_lt_of_cell? w _ hx775_3)).trans hx775_3
                                  replace hx775_4 := (HB.out.cell (World.block_lt_of_cell? w _ hx775_4)).trans hx775_4
                                  replace p775 := eq_true p775
                                  replace q775 := eq_true q775
                                  have p776 : 0 ≤ (x8_2 : Int) := of_decide_eq_true (by first | (with_reducible assumption) | assumption)
                                  have q776 : x8_2 < (t768.length : Int) := of_decide_eq_true (by first | (with_reducible assumption) | assumption)
                                  obtain ⟨ad776, e776, hx776_0, hx776_1, hx776_2, hx776_3, hx776_4⟩ := at_T39 (Kd.R_reads' HO_5.out).2.2 x8_2 p776 q776
                                  cases e776
                                  replace p776 := eq_true p776
                                  replace q776 := eq_true q776
                                  go_wp2
                                  repeat (go_quiet (fail); try go_wp2)
                                  go_roundg k3
                                  case measure => have := HJ4.out; have := HK2.out; have := HK3.out; omega
                                  case rel => exact ⟨(x9_3), (wrap64 (x10_3 + 1)), (by first | rfl | (simp; done) | (simp [*]; done)), (by first | rfl | (simp; done) | (simp [*]; done)), H', ⟨by have := HJ4.out; have := HK2.out; have := HK3.out; omega⟩, ⟨by (with_reducible repeat (first | apply Kd.R_alloc | apply Kd.R_drewN | apply Kd.R_drew)); exact HO_5.out⟩, ⟨by (with_reducible repeat (first | apply Kd.R_alloc | apply Kd.R_drewN | apply Kd.R_drew)); exact HO_7.out⟩, ⟨by repeat (first | (with_reducible first | exact HB.out | apply below_alloc | apply pw_below_drewN | apply below_drew1) | exact HB.out)⟩⟩
                              · rw [if_neg c21] at H
                                exact absurd H (by simp)
                            · rw [if_neg c20] at H
                              exact absurd H (by simp)
                          · rw [if_neg c19] at H
                            exact absurd H (by simp)
                        · rw [if_neg c18] at H
                          have c18b0 : decide (x10_3 < (l0.length : Int)) = false := decide_eq_false c18
                          clear c18
                          by_cases c24 : x7_2.length < 17592186044416
                          · rw [if_pos c24] at H
                            have LMc24 := Aside0.mk c24
                            clear c24
                            obtain ⟨y778, hy778⟩ : ∃ y_ : List Int, y_ = (x7_2 ++ [x9_3]) := ⟨_, rfl⟩
                            replace H : (if x9_3 < 0 then (some false) else (sizarlaw15_AverageCounts.l2 k3 l0 l1 t768 y778 x8_2 x9_3 0)) = some r := by first | (rw [hy778]; with_reducible exact H) | (have H2_ := (Option.bind_some _ _).symm.trans H; rw [hy778]; with_reducible exact H2_) | (have H2_ := (Option.bind_some _ _).symm.trans H; with_reducible exact H2_) | with_reducible exact H | (rw [hy778]; exact H) | exact H
                            have Ny778 := Aside0.mk hy778
                            clear hy778
                            by_cases c25 : x9_3 < 0
                            · rw [if_pos c25] at H
                              have c25b0 : decide (x9_3 < 0) = true := decide_eq_true c25
                              clear c25
                              exact absurd ((Option.some.inj H).trans hrt.out) (by decide)
                            · rw [if_neg c25] at H
                              have c25b0 : decide (x9_3 < 0) = false := decide_eq_false c25
                              clear c25
                              have H' := Aside0.mk H
                              clear H
                              go_wp2_with (first | ((with_reducible refine gate_builtin (b := .append) (xs := #[.tmp 71, .tmp 73]) rfl ?_); (try (refine gate_guard (by rfl) ?_; dsimp only)); at_builtin; refine Kd.R_append (Kd.int .i64) (w0 := w) w.heap.size rfl (.tmp 71) (.tmp 73) 34 3 (.int .i64 0) 8 rfl Try.underlying34 info3 rfl (by decide) (by omega) u7 x7_2 x9_3 [.int .i64 x9_3] (fun _ => True) (fun _ => False) rfl rfl ?aP (fun _ hk => hk.elim) ?aF ?aO ?aB ?aS ?aL ?_; (case aP => exact rfl); (case aB => exact (by repeat (first | (with_reducible first | exact HB.out | apply below_alloc | apply pw_below_drewN | apply below_drew1) | exact HB.out))); (case aF => exact (fun _ _ => trivial)); (case aO => exact (by (with_reducible repeat (first | apply Kd.R_alloc | apply Kd.R_drewN | apply Kd.R_drew)); exact HO_7.out)); (case aS => exact (below_size (by repeat (first | (with_reducible first | exact HB.out | apply below_alloc | apply pw_below_drewN | apply below_drew1) | exact HB.out)))); (case aL => have := LMc24.out; omega); intro v779 w26 ho hb hg hat; rw [← Ny778.out] at ho; have n0_ := Aside0.mk (Kd.R_over' (by (with_reducible repeat (first | apply Kd.R_alloc | apply Kd.R_drewN | apply Kd.R_drew)); exact HO_5.out) (Kd.R_typed (by (with_reducible repeat (first | apply Kd.R_alloc | apply Kd.R_drewN | apply Kd.R_drew)); exact HO_7.out)) (by decide) hg); have n1_ := Aside0.mk (hb); have n2_ := Aside0.mk (ho); clear HO_5; clear HB; clear HO_7; have HO_5 := n0_; have HB := n1_; have HO780 := n2_; clear n0_ n1_ n2_; clear ho hb hg hat))
                              repeat (go_quiet (first | ((with_reducible refine gate_builtin (b := .append) (xs := #[.tmp 71, .tmp 73]) rfl ?_); (try (refine gate_guard (by rfl) ?_; dsimp only)); at_builtin; refine Kd.R_append (Kd.int .i64) (w0 := w) w.heap.size rfl (.tmp 71) (.tmp 73) 34 3 (.int .i64 0) 8 rfl Try.underlying34 info3 rfl (by decide) (by omega) u7 x7_2 x9_3 [.int .i64 x9_3] (fun _ => True) (fun _ => False) rfl rfl ?aP (fun _ hk => hk.elim) ?aF ?aO ?aB ?aS ?aL ?_; (case aP => exact rfl); (case aB => exact (by repeat (first | (with_reducible first | exact HB.out | apply below_alloc | apply pw_below_drewN | apply below_drew1) | exact HB.out))); (case aF => exact (fun _ _ => trivial)); (case aO => exact (by (with_reducible repeat (first | apply Kd.R_alloc | apply Kd.R_drewN | apply Kd.R_drew)); exact HO_7.out)); (case aS => exact (below_size (by repeat (first | (with_reducible first | exact HB.out | apply below_alloc | apply pw_below_drewN | apply below_drew1) | exact HB.out)))); (case aL => have := LMc24.out; omega); intro v779 w26 ho hb hg hat; rw [← Ny778.out] at ho; have n0_ := Aside0.mk (Kd.R_over' (by (with_reducible repeat (first | apply Kd.R_alloc | apply Kd.R_drewN | apply Kd.R_drew)); exact HO_5.out) (Kd.R_typed (by (with_reducible repeat (first | apply Kd.R_alloc | apply Kd.R_drewN | apply Kd.R_drew)); exact HO_7.out)) (by decide) hg); have n1_ := Aside0.mk (hb); have n2_ := Aside0.mk (ho); clear HO_5; clear HB; clear HO_7; have HO_5 := n0_; have HB := n1_; have HO780 := n2_; clear n0_ n1_ n2_; clear ho hb hg hat)); try go_wp2_with (first | ((with_reducible refine gate_builtin (b := .append) (xs := #[.tmp 71, .tmp 73]) rfl ?_); (try (refine gate_guard (by rfl) ?_; dsimp only)); at_builtin; refine Kd.R_append (Kd.int .i64) (w0 := w) w.heap.size rfl (.tmp 71) (.tmp 73) 34 3 (.int .i64 0) 8 rfl Try.underlying34 info3 rfl (by decide) (by omega) u7 x7_2 x9_3 [.int .i64 x9_3] (fun _ => True) (fun _ => False) rfl rfl ?aP (fun _ hk => hk.elim) ?aF ?aO ?aB ?aS ?aL ?_; (case aP => exact rfl); (case aB => exact (by repeat (first | (with_reducible first | exact HB.out | apply below_alloc | apply pw_below_drewN | apply below_drew1) | exact HB.out))); (case aF => exact (fun _ _ => trivial)); (case aO => exact (by (with_reducible repeat (first | apply Kd.R_alloc | apply Kd.R_drewN | apply Kd.R_drew)); exact HO_7.out)); (case aS => exact (below_size (by repeat (first | (with_reducible first | exact HB.out | apply below_alloc | apply pw_below_drewN | apply below_drew1) | exact HB.out)))); (case aL => have := LMc24.out; omega); intro v779 w26 ho hb hg hat; rw [← Ny778.out] at ho; have n0_ := Aside0.mk (Kd.R_over' (by (with_reducible repeat (first | apply Kd.R_alloc | apply Kd.R_drewN | apply Kd.R_drew)); exact HO_5.out) (Kd.R_typed (by (with_reducible repeat (first | apply Kd.R_alloc | apply Kd.R_drewN | apply Kd.R_drew)); exact HO_7.out)) (by decide) hg); have n1_ := Aside0.mk (hb); have n2_ := Aside0.mk (ho); clear HO_5; clear HB; clear HO_7; have HO_5 := n0_; have HB := n1_; have HO780 := n2_; clear n0_ n1_ n2_; clear ho hb hg hat)))
                              go_loopg [11] k3 (fun kq v11 w' => ∃ (x11_4 : Int), v11 = .int .i64 x11_4 ∧ Aside0 (sizarlaw15_AverageCounts.l2 kq l0 l1 t768 y778 x8_2 x9_3 x11_4 = some r) ∧ Aside0 (kq ≤ k3) ∧ Aside0 (Kd.R k39 39 w' w.heap.size (fun _ => True) (.slice Ao17 t768.length co17) t768) ∧ Aside0 (Kd.R (Kd.int .i64) 3 w' w.heap.size (fun _ => True) v779 y778) ∧ Aside0 (Below w.heap.size w w'))
                              case atStart => exact ⟨(0), (by first | rfl | (simp; done) | (simp [*]; done)), H', ⟨Nat.le_refl _⟩, ⟨by (with_reducible repeat (first | apply Kd.R_alloc | apply Kd.R_drewN | apply Kd.R_drew)); exact HO_5.out⟩, ⟨by (with_reducible repeat (first | apply Kd.R_alloc | apply Kd.R_drewN | apply Kd.R_drew)); exact HO780.out⟩, ⟨by repeat (first | (with_reducible first | exact HB.out | apply below_alloc | apply pw_below_drewN | apply below_drew1) | exact HB.out)⟩⟩
                              case round =>
                                as_aux_lemma =>
                                clear H'
                                try clear c1
                                try clear c2
                                try clear p2
                                try clear c4
                                try clear p6
                                try clear p7
                                try clear q7
                                try clear hx7
                                try clear c8
                                try clear c9
                                try clear c11
                                try clear c11b0
                                try clear c11b1
                                try clear c12
                                try clear c12b0
                                try clear c12b1
                                try clear c12b2
                                try clear c16
                                try clear c16b0
                                try clear c17
                                try clear c18
                                try clear c18b0
                                try clear c19
                                try clear c19b0
                                try clear c20
                                try clear c20b0
                                try clear c21
                                try clear c21b0
                                try clear c22
                                try clear c22b0
                                try clear c22b1
                                try clear c22b2
                                try clear c23
                                try clear c23b0
                                try clear c24
                                try clear c25
                                try clear c25b0
                                try clear hx775_0
                                try clear hx775_1
                                try clear hx775_2
                                try clear hx775_3
                                try clear hx775_4
                                try clear hx776_0
                                try clear hx776_1
                                try clear hx776_2
                                try clear hx776_3
                                try clear hx776_4
                                try clear hx777_0
                                try clear p2
                                try clear p775
                                try clear p776
                                try clear p777
                                try clear q775
                                try clear q776
                                try clear q777
                                obtain ⟨x11_4, rfl, HA, HK4, HO_5, HO_7, HB⟩ := hrel
                                cases gk with
                                | zero => exact absurd HA.out (by simp [sizarlaw15_AverageCounts.l2])
                                | succ k4 =>
                                  have H := HA.out
                                  clear HA
                                  simp only [sizarlaw15_AverageCounts.l2] at H
                                  by_cases c27 : x11_4 < (l0.length : Int)
                                  · rw [if_pos c27] at H
                                    have c27b0 : decide (x11_4 < (l0.length : Int)) = true := decide_eq_true c27
                                    clear c27
                                    by_cases c28 : 0 ≤ x11_4
                                    · rw [if_pos c28] at H
                                      have c28b0 : decide (0 ≤ x11_4) = true := decide_eq_true c28
                                      clear c28
                                      by_cases c29 : 0 ≤ x8_2
                                      · rw [if_pos c29] at H
                                        have c29b0 : decide (0 ≤ x8_2) = true := decide_eq_true c29
                                        clear c29
                                        by_cases c30 : x8_2 < (t768.length : Int)
                                        · rw [if_pos c30] at H
                                          have c30b0 : decide (x8_2 < (t768.length : Int)) = true := decide_eq_true c30
                                          clear c30
                                          by_cases c31 : ((rd_T39 l0 x11_4).f0) = ((rd_T39 t768 x8_2).f0)
                                          · rw [if_pos c31] at H
                                            have c31b0 : (((rd_T39 l0 x11_4).f0) == ((rd_T39 t768 x8_2).f0)) = true := beq_iff_eq.mpr c31
                                            have c31b1 : (((rd_T39 l0 x11_4).f0) != ((rd_T39 t768 x8_2).f0)) = false := bne_eq_false_iff_eq.mpr c31
                                            clear c31
                                            by_cases c32 : x9_3 = 0
                                            · rw [if_pos c32] at H
                                              have c32b0 : (x9_3 == 0) = true := beq_iff_eq.mpr c32
                                              have c32b1 : (x9_3 != 0) = false := bne_eq_false_iff_eq.mpr c32
                                              clear c32
                                              by_cases c33 : ((rd_T39 l0 x11_4).f2) > ((rd_T39 t768 x8_2).f2)
                                              · rw [if_pos c33] at H
                                                have c33b0 : decide (((rd_T39 t768 x8_2).f2) < ((rd_T39 l0 x11_4).f2)) = true := decide_eq_true c33
                                                clear c33
                                                exact absurd ((Option.some.inj H).trans hrt.out) (by decide)
                                              · rw [if_neg c33] at H
                                                have c33b0 : decide (((rd_T39 t768 x8_2).f2) < ((rd_T39 l0 x11_4).f2)) = false := decide_eq_false c33
                                                clear c33
                                                by_cases c34 : ((rd_T39 l0 x11_4).f2) = ((rd_T39 t768 x8_2).f2)
                                                · rw [if_pos c34] at H
                                                  have c34b0 : (((rd_T39 l0 x11_4).f2) == ((rd_T39 t768 x8_2).f2)) = true := beq_iff_eq.mpr c34
                                                  have c34b1 : (((rd_T39 l0 x11_4).f2) != ((rd_T39 t768 x8_2).f2)) = false := bne_eq_false_iff_eq.mpr c34
                                                  clear c34
                                                  by_cases c35 : ((rd_T39 l0 x11_4).f1) < ((rd_T39 t768 x8_2).f1)
                                                  · rw [if_pos c35] at H
                                                    have c35b0 : decide (((rd_T39 l0 x11_4).f1) < ((rd_T39 t768 x8_2).f1)) = true := decide_eq_true c35
                                                    clear c35
                                                    exact absurd ((Option.some.inj H).trans hrt.out) (by decide)
                                                  · rw [if_neg c35] at H
                                                    have c35b0 : decide (((rd_T39 l0 x11_4).f1) < ((rd_T39 t768 x8_2).f1)) = false := decide_eq_false c35
                                                    clear c35
                                                    by_cases c36 : x9_3 = 1
                                                    · rw [if_pos c36] at H
                                                      have c36b0 : (x9_3 == 1) = true := beq_iff_eq.mpr c36
                                                      have c36b1 : (x9_3 != 1) = false := bne_eq_false_iff_eq.mpr c36
                                                      clear c36
                                                      by_cases c37 : ((rd_T39 l0 x11_4).f1) > ((rd_T39 t768 x8_2).f1)
                                                      · rw [if_pos c37] at H
                                                        have c37b0 : decide (((rd_T39 t768 x8_2).f1) < ((rd_T39 l0 x11_4).f1)) = true := decide_eq_true c37
                                                        clear c37
                                                        exact absurd ((Option.some.inj H).trans hrt.out) (by decide)
                                                      · rw [if_neg c37] at H
                                                        have c37b0 : decide (((rd_T39 t768 x8_2).f1) < ((rd_T39 l0 x11_4).f1)) = false := decide_eq_false c37
                                                        clear c37
                                                        have H' := Aside0.mk H
                                                        clear H
                                                        have p781 : 0 ≤ (x11_4 : Int) := of_decide_eq_true (by first | (with_reducible assumption) | assumption)
                                                        have q781 : x11_4 < (l0.length : Int) := of_decide_eq_true (by first | (with_reducible assumption) | assumption)
                                                        obtain ⟨ad781, e781, hx781_0, hx781_1, hx781_2, hx781_3, hx781_4⟩ := at_T39 HR0.out x11_4 p781 q781
                                                        cases e781
                                                        replace hx781_0 := (HB.out.cell (World.block_lt_of_cell? w _ hx781_0)).trans hx781_0
                                                        replace hx781_1 := (HB.out.cell (World.block_lt_of_cell? w _ hx781_1)).trans hx781_1
                                                        replace hx781_2 := (HB.out.cell (World.block_lt_of_cell? w _ hx781_2)).trans hx781_2
                                                        replace hx781_3 := (HB.out.cell (World.block_lt_of_cell? w _ hx781_3)).trans hx781_3
                                                        replace hx781_4 := (HB.out.cell (World.block_lt_of_cell? w _ hx781_4)).trans hx781_4
                                                        replace p781 := eq_true p781
                                                        replace q781 := eq_true q781
                                                        have p782 : 0 ≤ (x8_2 : Int) := of_decide_eq_true (by first | (with_reducible assumption) | assumption)
                                                        have q782 : x8_2 < (t768.length : Int) := of_decide_eq_true (by first | (with_reducible assumption) | assumption)
                                                        obtain ⟨ad782, e782, hx782_0, hx782_1, hx782_2, hx782_3, hx782_4⟩ := at_T39 (Kd.R_reads' HO_5.out).2.2 x8_2 p782 q782
                                                        cases e782
                                                        replace p782 := eq_true p782
                                                        replace q782 := eq_true q782
                                                        have p783 : 0 ≤ (x11_4 : Int) := of_decide_eq_true (by first | (with_reducible assumption) | assumption)
                                                        have q783 : x11_4 < (l0.length : Int) := of_decide_eq_true (by first | (with_reducible assumption) | assumption)
                                                        obtain ⟨ad783, e783, hx783_0, hx783_1, hx783_2, hx783_3, hx783_4⟩ := at_T39 HR0.out x11_4 p783 q783
                                                        obtain rfl : ad781 = ad783 := (by injection e783)
                                                        replace hx783_0 := (HB.out.cell (World.block_lt_of_cell? w _ hx783_0)).trans hx783_0
                                                        replace hx783_1 := (HB.out.cell (World.block_lt_of_cell? w _ hx783_1)).trans hx783_1
                                                        replace hx783_2 := (HB.out.cell (World.block_lt_of_cell? w _ hx783_2)).trans hx783_2
                                                        replace hx783_3 := (HB.out.cell (World.block_lt_of_cell? w _ hx783_3)).trans hx783_3
                                                        replace hx783_4 := (HB.out.cell (World.block_lt_of_cell? w _ hx783_4)).trans hx783_4
                                                        replace p783 := eq_true p783
                                                        replace q783 := eq_true q783
                                                        have p784 : 0 ≤ (x8_2 : Int) := of_decide_eq_true (by first | (with_reducible assumption) | assumption)
                                                        have q784 : x8_2 < (t768.length : Int) := of_decide_eq_true (by first | (with_reducible assumption) | assumption)
                                                        obtain ⟨ad784, e784, hx784_0, hx784_1, hx784_2, hx784_3, hx784_4⟩ := at_T39 (Kd.R_reads' HO_5.out).2.2 x8_2 p784 q784
                                                        obtain rfl : ad782 = ad784 := (by injection e784)
                                                        replace p784 := eq_true p784
                                                        replace q784 := eq_true q784
                                                        have p785 : 0 ≤ (x11_4 : Int) := of_decide_eq_true (by first | (with_reducible assumption) | assumption)
                                                        have q785 : x11_4 < (l0.length : Int) := of_decide_eq_true (by first | (with_reducible assumption) | assumption)
                                                        obtain ⟨ad785, e785, hx785_0, hx785_1, hx785_2, hx785_3, hx785_4⟩ := at_T39 HR0.out x11_4 p785 q785
                                                        obtain rfl : ad781 = ad785 := (by injection e785)
                                                        replace hx785_0 := (HB.out.cell (World.block_lt_of_cell? w _ hx785_0)).trans hx785_0
                                                        replace hx785_1 := (HB.out.cell (World.block_lt_of_cell? w _ hx785_1)).trans hx785_1
                                                        replace hx785_2 := (HB.out.cell (World.block_lt_of_cell? w _ hx785_2)).trans hx785_2
                                                        replace hx785_3 := (HB.out.cell (World.block_lt_of_cell? w _ hx785_3)).trans hx785_3
                                                        replace hx785_4 := (HB.out.cell (World.block_lt_of_cell? w _ hx785_4)).trans hx785_4
                                                        replace p785 := eq_true p785
                                                        replace q785 := eq_true q785
                                                        have p786 : 0 ≤ (x8_2 : Int) := of_decide_eq_true (by first | (with_reducible assumption) | assumption)
                                                        have q786 : x8_2 < (t768.length : Int) := of_decide_eq_true (by first | (with_reducible assumption) | assumption)
                                                        obtain ⟨ad786, e786, hx786_0, hx786_1, hx786_2, hx786_3, hx786_4⟩ := at_T39 (Kd.R_reads' HO_5.out).2.2 x8_2 p786 q786
                                                        obtain rfl : ad782 = ad786 := (by injection e786)
                                                        replace p786 := eq_true p786
                                                        replace q786 := eq_true q786
                                                        have p787 : 0 ≤ (x11_4 : Int) := of_decide_eq_true (by first | (with_reducible assumption) | assumption)
                                                        have q787 : x11_4 < (l0.length : Int) := of_decide_eq_true (by first | (with_reducible assumption) | assumption)
                                                        obtain ⟨ad787, e787, hx787_0, hx787_1, hx787_2, hx787_3, hx787_4⟩ := at_T39 HR0.out x11_4 p787 q787
                                                        obtain rfl : ad781 = ad787 := (by injection e787)
                                                        replace hx787_0 := (HB.out.cell (World.block_lt_of_cell? w _ hx787_0)).trans hx787_0
                                                        replace hx787_1 := (HB.out.cell (World.block_lt_of_cell? w _ hx787_1)).trans hx787_1
                                                        replace hx787_2 := (HB.out.cell (World.block_lt_of_cell? w _ hx787_2)).trans hx787_2
                                                        replace hx787_3 := (HB.out.cell (World.block_lt_of_cell? w _ hx787_3)).trans hx787_3
                                                        replace hx787_4 := (HB.out.cell (World.block_lt_of_cell? w _ hx787_4)).trans hx787_4
                                                        replace p787 := eq_true p787
                                                        replace q787 := eq_true q787
                                                        have p788 : 0 ≤ (x8_2 : Int) := of_decide_eq_true (by first | (with_reducible assumption) | assumption)
                                                        have q788 : x8_2 < (t768.length : Int) := of_decide_eq_true (by first | (with_reducible assumption) | assumption)
                                                        obtain ⟨ad788, e788, hx788_0, hx788_1, hx788_2, hx788_3, hx788_4⟩ := at_T39 (Kd.R_reads' HO_5.out).2.2 x8_2 p788 q788
                                                        obtain rfl : ad782 = ad788 := (by injection e788)
                                                        replace p788 := eq_true p788
                                                        replace q788 := eq_true q788
                                                        have p789 : 0 ≤ (x11_4 : Int) := of_decide_eq_true (by first | (with_reducible assumption) | assumption)
                                                        have q789 : x11_4 < (l0.length : Int) := of_decide_eq_true (by first | (with_reducible assumption) | assumption)
                                                        obtain ⟨ad789, e789, hx789_0, hx789_1, hx789_2, hx789_3, hx789_4⟩ := at_T39 HR0.out x11_4 p789 q789
                                                        obtain rfl : ad781 = ad789 := (by injection e789)
                                                        replace hx789_0 := (HB.out.cell (World.block_lt_of_cell? w _ hx789_0)).trans hx789_0
                                                        replace hx789_1 := (HB.out.cell (World.block_lt_of_cell? w _ hx789_1)).trans hx789_1
                                                        replace hx789_2 := (HB.out.cell (World.block_lt_of_cell? w _ hx789_2)).trans hx789_2
                                                        replace hx789_3 := (HB.out.cell (World.block_lt_of_cell? w _ hx789_3)).trans hx789_3
                                                        replace hx789_4 := (HB.out.cell (World.block_lt_of_cell? w _ hx789_4)).trans hx789_4
                                                        replace p789 := eq_true p789
                                                        replace q789 := eq_true q789
                                                        have p790 : 0 ≤ (x8_2 : Int) := of_decide_eq_true (by first | (with_reducible assumption) | assumption)
                                                        have q790 : x8_2 < (t768.length : Int) := of_decide_eq_true (by first | (with_reducible assumption) | assumption)
                                                        obtain ⟨ad790, e790, hx790_0, hx790_1, hx790_2, hx790_3, hx790_4⟩ := at_T39 (Kd.R_reads' HO_5.out).2.2 x8_2 p790 q790
                                                        obtain rfl : ad782 = ad790 := (by injection e790)
                                                        replace p790 := eq_true p790
                                                        replace q790 := eq_true q790
                                                        go_wp2
                                                        repeat (go_quiet (fail); try go_wp2)
                                                        go_roundg k4
                                                        case measure => have := HJ4.out; have := HK2.out; have := HK3.out; have := HK4.out; omega
                                                        case rel => exact ⟨(wrap64 (x11_4 + 1)), (by first | rfl | (simp; done) | (simp [*]; done)), H', ⟨by have := HJ4.out; have := HK2.out; have := HK3.out; have := HK4.out; omega⟩, ⟨by (with_reducible repeat (first | apply Kd.R_alloc | apply Kd.R_drewN | apply Kd.R_drew)); exact HO_5.out⟩, ⟨by (with_reducible repeat (first | apply Kd.R_alloc | apply Kd.R_drewN | apply Kd.R_drew)); exact HO_7.out⟩, ⟨by repeat (first | (with_reducible first | exact HB.out | apply below_alloc | apply pw_below_drewN | apply below_drew1) | exact HB.out)⟩⟩
                                                    · rw [if_neg c36] at H
                                                      have c36b0 : (x9_3 == 1) = false := beq_eq_false_iff_ne.mpr c36
                                                      have c36b1 : (x9_3 != 1) = true := bne_iff_ne.mpr c36
                                                      have H' := Aside0.mk H
                                                      clear H
                                                      have p781 : 0 ≤ (x11_4 : Int) := of_decide_eq_true (by first | (with_reducible assumption) | assumption)
                                                      have q781 : x11_4 < (l0.length : Int) := of_decide_eq_true (by first | (with_reducible assumption) | assumption)
                                                      obtain ⟨ad781, e781, hx781_0, hx781_1, hx781_2, hx781_3, hx781_4⟩ := at_T39 HR0.out x11_4 p781 q781
                                                      cases e781
                                                      replace hx781_0 := (HB.out.cell (World.block_lt_of_cell? w _ hx781_0)).trans hx781_0
                                                      replace hx781_1 := (HB.out.cell (World.block_lt_of_cell? w _ hx781_1)).trans hx781_1
                                                      replace hx781_2 := (HB.out.cell (World.block_lt_of_cell? w _ hx781_2)).trans hx781_2
                                                      replace hx781_3 := (HB.out.cell (World.block_lt_of_cell? w _ hx781_3)).trans hx781_3
                                                      replace hx781_4 := (HB.out.cell (World.block_lt_of_cell? w _ hx781_4)).trans hx781_4
                                                      replace p781 := eq_true p781
                                                      replace q781 := eq_true q781
                                                      have p782 : 0 ≤ (x8_2 : Int) := of_decide_eq_true (by first | (with_reducible assumption) | assumption)
                                                      have q782 : x8_2 < (t768.length : Int) := of_decide_eq_true (by first | (with_reducible assumption) | assumption)
                                                      obtain ⟨ad782, e782, hx782_0, hx782_1, hx782_2, hx782_3, hx782_4⟩ := at_T39 (Kd.R_reads' HO_5.out).2.2 x8_2 p782 q782
                                                      cases e782
                                                      replace p782 := eq_true p782
                                                      replace q782 := eq_true q782
                                                      have p783 : 0 ≤ (x11_4 : Int) := of_decide_eq_true (by first | (with_reducible assumption) | assumption)
                                                      have q783 : x11_4 < (l0.length : Int) := of_decide_eq_true (by first | (with_reducible assumption) | assumption)
                                                      obtain ⟨ad783, e783, hx783_0, hx783_1, hx783_2, hx783_3, hx783_4⟩ := at_T39 HR0.out x11_4 p783 q783
                                                      obtain rfl : ad781 = ad783 := (by injection e783)
                                                      replace hx783_0 := (HB.out.cell (World.block_lt_of_cell? w _ hx783_0)).trans hx783_0
                                                      replace hx783_1 := (HB.out.cell (World.block_lt_of_cell? w _ hx783_1)).trans hx783_1
                                                      replace hx783_2 := (HB.out.cell (World.block_lt_of_cell? w _ hx783_2)).trans hx783_2
                                                      replace hx783_3 := (HB.out.cell (World.block_lt_of_cell? w _ hx783_3)).trans hx783_3
                                                      replace hx783_4 := (HB.out.cell (World.block_lt_of_cell? w _ hx783_4)).trans hx783_4
                                                      replace p783 := eq_true p783
                                                      replace q783 := eq_true q783
                                                      have p784 : 0 ≤ (x8_2 : Int) := of_decide_eq_true (by first | (with_reducible assumption) | assumption)
                                                      have q784 : x8_2 < (t768.length : Int) := of_decide_eq_true (by first | (with_reducible assumption) | assumption)
                                                      obtain ⟨ad784, e784, hx784_0, hx784_1, hx784_2, hx784_3, hx784_4⟩ := at_T39 (Kd.R_reads' HO_5.out).2.2 x8_2 p784 q784
                                                      obtain rfl : ad782 = ad784 := (by injection e784)
                                                      replace p784 := eq_true p784
                                                      replace q784 := eq_true q784
                                                      have p785 : 0 ≤ (x11_4 : Int) := of_decide_eq_true (by first | (with_reducible assumption) | assumption)
                                                      have q785 : x11_4 < (l0.length : Int) := of_decide_eq_true (by first | (with_reducible assumption) | assumption)
                                                      obtain ⟨ad785, e785, hx785_0, hx785_1, hx785_2, hx785_3, hx785_4⟩ := at_T39 HR0.out x11_4 p785 q785
                                                      obtain rfl : ad781 = ad785 := (by injection e785)
                                                      replace hx785_0 := (HB.out.cell (World.block_lt_of_cell? w _ hx785_0)).trans hx785_0
                                                      replace hx785_1 := (HB.out.cell (World.block_lt_of_cell? w _ hx785_1)).trans hx785_1
                                                      replace hx785_2 := (HB.out.cell (World.block_lt_of_cell? w _ hx785_2)).trans hx785_2
                                                      replace hx785_3 := (HB.out.cell (World.block_lt_of_cell? w _ hx785_3)).trans hx785_3
                                                      replace hx785_4 := (HB.out.cell (World.block_lt_of_cell? w _ hx785_4)).trans hx785_4
                                                      replace p785 := eq_true p785
                                                      replace q785 := eq_true q785
                                                      have p786 : 0 ≤ (x8_2 : Int) := of_decide_eq_true (by first | (with_reducible assumption) | assumption)
                                                      have q786 : x8_2 < (t768.length : Int) := of_decide_eq_true (by first | (with_reducible assumption) | assumption)
                                                      obtain ⟨ad786, e786, hx786_0, hx786_1, hx786_2, hx786_3, hx786_4⟩ := at_T39 (Kd.R_reads' HO_5.out).2.2 x8_2 p786 q786
                                                      obtain rfl : ad782 = ad786 := (by injection e786)
                                                      replace p786 := eq_true p786
                                                      replace q786 := eq_true q786
                                                      have p787 : 0 ≤ (x11_4 : Int) := of_decide_eq_true (by first | (with_reducible assumption) | assumption)
                                                      have q787 : x11_4 < (l0.length : Int) := of_decide_eq_true (by first | (with_reducible assumption) | assumption)
                                                      obtain ⟨ad787, e787, hx787_0, hx787_1, hx787_2, hx787_3, hx787_4⟩ := at_T39 HR0.out x11_4 p787 q787
                                                      obtain rfl : ad781 = ad787 := (by injection e787)
                                                      replace hx787_0 := (HB.out.cell (World.block_lt_of_cell? w _ hx787_0)).trans hx787_0
                                                      replace hx787_1 := (HB.out.cell (World.block_lt_of_cell? w _ hx787_1)).trans hx787_1
                                                      replace hx787_2 := (HB.out.cell (World.block_lt_of_cell? w _ hx787_2)).trans hx787_2
                                                      replace hx787_3 := (HB.out.cell (World.block_lt_of_cell? w _ hx787_3)).trans hx787_3
                                                      replace hx787_4 := (HB.out.cell (World.block_lt_of_cell? w _ hx787_4)).trans hx787_4
                                                      replace p787 := eq_true p787
                                                      replace q787 := eq_true q787
                                                      have p788 : 0 ≤ (x8_2 : Int) := of_decide_eq_true (by first | (with_reducible assumption) | assumption)
                                                      have q788 : x8_2 < (t768.length : Int) := of_decide_eq_true (by first | (with_reducible assumption) | assumption)
                                                      obtain ⟨ad788, e788, hx788_0, hx788_1, hx788_2, hx788_3, hx788_4⟩ := at_T39 (Kd.R_reads' HO_5.out).2.2 x8_2 p788 q788
                                                      obtain rfl : ad782 = ad788 := (by injection e788)
                                                      replace p788 := eq_true p788
                                                      replace q788 := eq_true q788
                                                      go_wp2
                                                      repeat (go_quiet (fail); try go_wp2)
                                                      go_roundg k4
                                                      case measure => have := HJ4.out; have := HK2.out; have := HK3.out; have := HK4.out; omega
                                                      case rel => exact ⟨(wrap64 (x11_4 + 1)), (by first | rfl | (simp; done) | (simp [*]; done)), H', ⟨by have := HJ4.out; have := HK2.out; have := HK3.out; have := HK4.out; omega⟩, ⟨by (with_reducible repeat (first | apply Kd.R_alloc | apply Kd.R_drewN | apply Kd.R_drew)); exact HO_5.out⟩, ⟨by (with_reducible repeat (first | apply Kd.R_alloc | apply Kd.R_drewN | apply Kd.R_drew)); exact HO_7.out⟩, ⟨by repeat (first | (with_reducible first | exact HB.out | apply below_alloc | apply pw_below_drewN | apply below_drew1) | exact HB.out)⟩⟩
                                                · rw [if_neg c34] at H
                                                  have c34b0 : (((rd_T39 l0 x11_4).f2) == ((rd_T39 t768 x8_2).f2)) = false := beq_eq_false_iff_ne.mpr c34
                                                  have c34b1 : (((rd_T39 l0 x11_4).f2) != ((rd_T39 t768 x8_2).f2)) = true := bne_iff_ne.mpr c34
                                                  by_cases c38 : x9_3 = 1
                                                  · rw [if_pos c38] at H
                                                    have c38b0 : (x9_3 == 1) = true := beq_iff_eq.mpr c38
                                                    have c38b1 : (x9_3 != 1) = false := bne_eq_false_iff_eq.mpr c38
                                                    clear c38
                                                    by_cases c39 : ((rd_T39 l0 x11_4).f1) > ((rd_T39 t768 x8_2).f1)
                                                    · rw [if_pos c39] at H
                                                      have c39b0 : decide (((rd_T39 t768 x8_2).f1) < ((rd_T39 l0 x11_4).f1)) = true := decide_eq_true c39
                                                      clear c39
                                                      exact absurd ((Option.some.inj H).trans hrt.out) (by decide)
                                                    · rw [if_neg c39] at H
                                                      have c39b0 : decide (((rd_T39 t768 x8_2).f1) < ((rd_T39 l0 x11_4).f1)) = false := decide_eq_false c39
                                                      clear c39
                                                      have H' := Aside0.mk H
                                                      clear H
                                                      have p781 : 0 ≤ (x11_4 : Int) := of_decide_eq_true (by first | (with_reducible assumption) | assumption)
                                                      have q781 : x11_4 < (l0.length : Int) := of_decide_eq_true (by first | (with_reducible assumption) | assumption)
                                                      obtain ⟨ad781, e781, hx781_0, hx781_1, hx781_2, hx781_3, hx781_4⟩ := at_T39 HR0.out x11_4 p781 q781
                                                      cases e781
                                                      replace hx781_0 := (HB.out.cell (World.block_lt_of_cell? w _ hx781_0)).trans hx781_0
                                                      replace hx781_1 := (HB.out.cell (World.block_lt_of_cell? w _ hx781_1)).trans hx781_1
                                                      replace hx781_2 := (HB.out.cell (World.block_lt_of_cell? w _ hx781_2)).trans hx781_2
                                                      replace hx781_3 := (HB.out.cell (World.block_lt_of_cell? w _ hx781_3)).trans hx781_3
                                                      replace hx781_4 := (HB.out.cell (World.block_lt_of_cell? w _ hx781_4)).trans hx781_4
                                                      replace p781 := eq_true p781
                                                      replace q781 := eq_true q781
                                                      have p782 : 0 ≤ (x8_2 : Int) := of_decide_eq_true (by first | (with_reducible assumption) | assumption)
                                                      have q782 : x8_2 < (t768.length : Int) := of_decide_eq_true (by first | (with_reducible assumption) | assumption)
                                                      obtain ⟨ad782, e782, hx782_0, hx782_1, hx782_2, hx782_3, hx782_4⟩ := at_T39 (Kd.R_reads' HO_5.out).2.2 x8_2 p782 q782
                                                      cases e782
                                                      replace p782 := eq_true p782
                                                      replace q782 := eq_true q782
                                                      have p783 : 0 ≤ (x11_4 : Int) := of_decide_eq_true (by first | (with_reducible assumption) | assumption)
                                                      have q783 : x11_4 < (l0.length : Int) := of_decide_eq_true (by first | (with_reducible assumption) | assumption)
                                                      obtain ⟨ad783, e783, hx783_0, hx783_1, hx783_2, hx783_3, hx783_4⟩ := at_T39 HR0.out x11_4 p783 q783
                                                      obtain rfl : ad781 = ad783 := (by injection e783)
                                                      replace hx783_0 := (HB.out.cell (World.block_lt_of_cell? w _ hx783_0)).trans hx783_0
                                                      replace hx783_1 := (HB.out.cell (World.block_lt_of_cell? w _ hx783_1)).trans hx783_1
                                                      replace hx783_2 := (HB.out.cell (World.block_lt_of_cell? w _ hx783_2)).trans hx783_2
                                                      replace hx783_3 := (HB.out.cell (World.block_lt_of_cell? w _ hx783_3)).trans hx783_3
                                                      replace hx783_4 := (HB.out.cell (World.block_lt_of_cell? w _ hx783_4)).trans hx783_4
                                                      replace p783 := eq_true p783
                                                      replace q783 := eq_true q783
                                                      have p784 : 0 ≤ (x8_2 : Int) := of_decide_eq_true (by first | (with_reducible assumption) | assumption)
                                                      have q784 : x8_2 < (t768.length : Int) := of_decide_eq_true (by first | (with_reducible assumption) | assumption)
                                                      obtain ⟨ad784, e784, hx784_0, hx784_1, hx784_2, hx784_3, hx784_4⟩ := at_T39 (Kd.R_reads' HO_5.out).2.2 x8_2 p784 q784
                                                      obtain rfl : ad782 = ad784 := (by injection e784)
                                                      replace p784 := eq_true p784
                                                      replace q784 := eq_true q784
                                                      have p785 : 0 ≤ (x11_4 : Int) := of_decide_eq_true (by first | (with_reducible assumption) | assumption)
                                                      have q785 : x11_4 < (l0.length : Int) := of_decide_eq_true (by first | (with_reducible assumption) | assumption)
                                                      obtain ⟨ad785, e785, hx785_0, hx785_1, hx785_2, hx785_3, hx785_4⟩ := at_T39 HR0.out x11_4 p785 q785
                                                      obtain rfl : ad781 = ad785 := (by injection e785)
                                                      replace hx785_0 := (HB.out.cell (World.block_lt_of_cell? w _ hx785_0)).trans hx785_0
                                                      replace hx785_1 := (HB.out.cell (World.block_lt_of_cell? w _ hx785_1)).trans hx785_1
                                                      replace hx785_2 := (HB.out.cell (World.block_lt_of_cell? w _ hx785_2)).trans hx785_2
                                                      replace hx785_3 := (HB.out.cell (World.block_lt_of_cell? w _ hx785_3)).trans hx785_3
                                                      replace hx785_4 := (HB.out.cell (World.block_lt_of_cell? w _ hx785_4)).trans hx785_4
                                                      replace p785 := eq_true p785
                                                      replace q785 := eq_true q785
                                                      have p786 : 0 ≤ (x8_2 : Int) := of_decide_eq_true (by first | (with_reducible assumption) | assumption)
                                                      have q786 : x8_2 < (t768.length : Int) := of_decide_eq_true (by first | (with_reducible assumption) | assumption)
                                                      obtain ⟨ad786, e786, hx786_0, hx786_1, hx786_2, hx786_3, hx786_4⟩ := at_T39 (Kd.R_reads' HO_5.out).2.2 x8_2 p786 q786
                                                      obtain rfl : ad782 = ad786 := (by injection e786)
                                                      replace p786 := eq_true p786
                                                      replace q786 := eq_true q786
                                                      have p791 : 0 ≤ (x11_4 : Int) := of_decide_eq_true (by first | (with_reducible assumption) | assumption)
                                                      have q791 : x11_4 < (l0.length : Int) := of_decide_eq_true (by first | (with_reducible assumption) | assumption)
                                                      obtain ⟨ad791, e791, hx791_0, hx791_1, hx791_2, hx791_3, hx791_4⟩ := at_T39 HR0.out x11_4 p791 q791
                                                      obtain rfl : ad781 = ad791 := (by injection e791)
                                                      replace hx791_0 := (HB.out.cell (World.block_lt_of_cell? w _ hx791_0)).trans hx791_0
                                                      replace hx791_1 := (HB.out.cell (World.block_lt_of_cell? w _ hx791_1)).trans hx791_1
                                                      replace hx791_2 := (HB.out.cell (World.block_lt_of_cell? w _ hx791_2)).trans hx791_2
                                                      replace hx791_3 := (HB.out.cell (World.block_lt_of_cell? w _ hx791_3)).trans hx791_3
                                                      replace hx791_4 := (HB.out.cell (World.block_lt_of_cell? w _ hx791_4)).trans hx791_4
                                                      replace p791 := eq_true p791
                                                      replace q791 := eq_true q791
                                                      have p792 : 0 ≤ (x8_2 : Int) := of_decide_eq_true (by first | (with_reducible assumption) | assumption)
                                                      have q792 : x8_2 < (t768.length : Int) := of_decide_eq_true (by first | (with_reducible assumption) | assumption)
                                                      obtain ⟨ad792, e792, hx792_0, hx792_1, hx792_2, hx792_3, hx792_4⟩ := at_T39 (Kd.R_reads' HO_5.out).2.2 x8_2 p792 q792
                                                      obtain rfl : ad782 = ad792 := (by injection e792)
                                                      replace p792 := eq_true p792
                                                      replace q792 := eq_true q792
                                                      go_wp2
                                                      repeat (go_quiet (fail); try go_wp2)
                                                      go_roundg k4
                                                      case measure => have := HJ4.out; have := HK2.out; have := HK3.out; have := HK4.out; omega
                                                      case rel => exact ⟨(wrap64 (x11_4 + 1)), (by first | rfl | (simp; done) | (simp [*]; done)), H', ⟨by have := HJ4.out; have := HK2.out; have := HK3.out; have := HK4.out; omega⟩, ⟨by (with_reducible repeat (first | apply Kd.R_alloc | apply Kd.R_drewN | apply Kd.R_drew)); exact HO_5.out⟩, ⟨by (with_reducible repeat (first | apply Kd.R_alloc | apply Kd.R_drewN | apply Kd.R_drew)); exact HO_7.out⟩, ⟨by repeat (first | (with_reducible first | exact HB.out | apply below_alloc | apply pw_below_drewN | apply below_drew1) | exact HB.out)⟩⟩
                                                  · rw [if_neg c38] at H
                                                    have c38b0 : (x9_3 == 1) = false := beq_eq_false_iff_ne.mpr c38
                                                    have c38b1 : (x9_3 != 1) = true := bne_iff_ne.mpr c38
                                                    have H' := Aside0.mk H
                                                    clear H
                                                    have p781 : 0 ≤ (x11_4 : Int) := of_decide_eq_true (by first | (with_reducible assumption) | assumption)
                                                    have q781 : x11_4 < (l0.length : Int) := of_decide_eq_true (by first | (with_reducible assumption) | assumption)
                                                    obtain ⟨ad781, e781, hx781_0, hx781_1, hx781_2, hx781_3, hx781_4⟩ := at_T39 HR0.out x11_4 p781 q781
                                                    cases e781
                                                    replace hx781_0 := (HB.out.cell (World.block_lt_of_cell? w _ hx781_0)).trans hx781_0
                                                    replace hx781_1 := (HB.out.cell (World.block_lt_of_cell? w _ hx781_1)).trans hx781_1
                                                    replace hx781_2 := (HB.out.cell (World.block_lt_of_cell? w _ hx781_2)).trans hx781_2
                                                    replace hx781_3 := (HB.out.cell (World.block_lt_of_cell? w _ hx781_3)).trans hx781_3
                                                    replace hx781_4 := (HB.out.cell (World.block_lt_of_cell? w _ hx781_4)).trans hx781_4
                                                    replace p781 := eq_true p781
                                                    replace q781 := eq_true q781
                                                    have p782 : 0 ≤ (x8_2 : Int) := of_decide_eq_true (by first | (with_reducible assumption) | assumption)
                                                    have q782 : x8_2 < (t768.length : Int) := of_decide_eq_true (by first | (with_reducible assumption) | assumption)
                                                    obtain ⟨ad782, e782, hx782_0, hx782_1, hx782_2, hx782_3, hx782_4⟩ := at_T39 (Kd.R_reads' HO_5.out).2.2 x8_2 p782 q782
                                                    cases e782
                                                    replace p782 := eq_true p782
                                                    replace q782 := eq_true q782
                                                    have p783 : 0 ≤ (x11_4 : Int) := of_decide_eq_true (by first | (with_reducible assumption) | assumption)
                                                    have q783 : x11_4 < (l0.length : Int) := of_decide_eq_true (by first | (with_reducible assumption) | assumption)
                                                    obtain ⟨ad783, e783, hx783_0, hx783_1, hx783_2, hx783_3, hx783_4⟩ := at_T39 HR0.out x11_4 p783 q783
                                                    obtain rfl : ad781 = ad783 := (by injection e783)
                                                    replace hx783_0 := (HB.out.cell (World.block_lt_of_cell? w _ hx783_0)).trans hx783_0
                                                    replace hx783_1 := (HB.out.cell (World.block_lt_of_cell? w _ hx783_1)).trans hx783_1
                                                    replace hx783_2 := (HB.out.cell (World.block_lt_of_cell? w _ hx783_2)).trans hx783_2
                                                    replace hx783_3 := (HB.out.cell (World.block_lt_of_cell? w _ hx783_3)).trans hx783_3
                                                    replace hx783_4 := (HB.out.cell (World.block_lt_of_cell? w _ hx783_4)).trans hx783_4
                                                    replace p783 := eq_true p783
                                                    replace q783 := eq_true q783
                                                    have p784 : 0 ≤ (x8_2 : Int) := of_decide_eq_true (by first | (with_reducible assumption) | assumption)
                                                    have q784 : x8_2 < (t768.length : Int) := of_decide_eq_true (by first | (with_reducible assumption) | assumption)
                                                    obtain ⟨ad784, e784, hx784_0, hx784_1, hx784_2, hx784_3, hx784_4⟩ := at_T39 (Kd.R_reads' HO_5.out).2.2 x8_2 p784 q784
                                                    obtain rfl : ad782 = ad784 := (by injection e784)
                                                    replace p784 := eq_true p784
                                                    replace q784 := eq_true q784
                                                    have p785 : 0 ≤ (x11_4 : Int) := of_decide_eq_true (by first | (with_reducible assumption) | assumption)
                                                    have q785 : x11_4 < (l0.length : Int) := of_decide_eq_true (by first | (with_reducible assumption) | assumption)
                                                    obtain ⟨ad785, e785, hx785_0, hx785_1, hx785_2, hx785_3, hx785_4⟩ := at_T39 HR0.out x11_4 p785 q785
                                                    obtain rfl : ad781 = ad785 := (by injection e785)
                                                    replace hx785_0 := (HB.out.cell (World.block_lt_of_cell? w _ hx785_0)).trans hx785_0
                                                    replace hx785_1 := (HB.out.cell (World.block_lt_of_cell? w _ hx785_1)).trans hx785_1
                                                    replace hx785_2 := (HB.out.cell (World.block_lt_of_cell? w _ hx785_2)).trans hx785_2
                                                    replace hx785_3 := (HB.out.cell (World.block_lt_of_cell? w _ hx785_3)).trans hx785_3
                                                    replace hx785_4 := (HB.out.cell (World.block_lt_of_cell? w _ hx785_4)).trans hx785_4
                                                    replace p785 := eq_true p785
                                                    replace q785 := eq_true q785
                                                    have p786 : 0 ≤ (x8_2 : Int) := of_decide_eq_true (by first | (with_reducible assumption) | assumption)
                                                    have q786 : x8_2 < (t768.length : Int) := of_decide_eq_true (by first | (with_reducible assumption) | assumption)
                                                    obtain ⟨ad786, e786, hx786_0, hx786_1, hx786_2, hx786_3, hx786_4⟩ := at_T39 (Kd.R_reads' HO_5.out).2.2 x8_2 p786 q786
                                                    obtain rfl : ad782 = ad786 := (by injection e786)
                                                    replace p786 := eq_true p786
                                                    replace q786 := eq_true q786
                                                    go_wp2
                                                    repeat (go_quiet (fail); try go_wp2)
                                                    go_roundg k4
                                                    case measure => have := HJ4.out; have := HK2.out; have := HK3.out; have := HK4.out; omega
                                                    case rel => exact ⟨(wrap64 (x11_4 + 1)), (by first | rfl | (simp; done) | (simp [*]; done)), H', ⟨by have := HJ4.out; have := HK2.out; have := HK3.out; have := HK4.out; omega⟩, ⟨by (with_reducible repeat (first | apply Kd.R_alloc | apply Kd.R_drewN | apply Kd.R_drew)); exact HO_5.out⟩, ⟨by (with_reducible repeat (first | apply Kd.R_alloc | apply Kd.R_drewN | apply Kd.R_drew)); exact HO_7.out⟩, ⟨by repeat (first | (with_reducible first | exact HB.out | apply below_alloc | apply pw_below_drewN | apply below_drew1) | exact HB.out)⟩⟩
                                            · rw [if_neg c32] at H
                                              have c32b0 : (x9_3 == 0) = false := beq_eq_false_iff_ne.mpr c32
                                              have c32b1 : (x9_3 != 0) = true := bne_iff_ne.mpr c32
                                              by_cases c40 : x9_3 = 1
                                              · rw [if_pos c40] at H
                                                have c40b0 : (x9_3 == 1) = true := beq_iff_eq.mpr c40
                                                have c40b1 : (x9_3 != 1) = false := bne_eq_false_iff_eq.mpr c40
                                                clear c40
                                                by_cases c41 : ((rd_T39 l0 x11_4).f1) > ((rd_T39 t768 x8_2).f1)
                                                · rw [if_pos c41] at H
                                                  have c41b0 : decide (((rd_T39 t768 x8_2).f1) < ((rd_T39 l0 x11_4).f1)) = true := decide_eq_true c41
                                                  clear c41
                                                  exact absurd ((Option.some.inj H).trans hrt.out) (by decide)
                                                · rw [if_neg c41] at H
                                                  have c41b0 : decide (((rd_T39 t768 x8_2).f1) < ((rd_T39 l0 x11_4).f1)) = false := decide_eq_false c41
                                                  clear c41
                                                  have H' := Aside0.mk H
                                                  clear H
                                                  have p781 : 0 ≤ (x11_4 : Int) := of_decide_eq_true (by first | (with_reducible assumption) | assumption)
                                                  have q781 : x11_4 < (l0.length : Int) := of_decide_eq_true (by first | (with_reducible assumption) | assumption)
                                                  obtain ⟨ad781, e781, hx781_0, hx781_1, hx781_2, hx781_3, hx781_4⟩ := at_T39 HR0.out x11_4 p781 q781
                                                  cases e781
                                                  replace hx781_0 := (HB.out.cell (World.block_lt_of_cell? w _ hx781_0)).trans hx781_0
                                                  replace hx781_1 := (HB.out.cell (World.block_lt_of_cell? w _ hx781_1)).trans hx781_1
                                                  replace hx781_2 := (HB.out.cell (World.block_lt_of_cell? w _ hx781_2)).trans hx781_2
                                                  replace hx781_3 := (HB.out.cell (World.block_lt_of_cell? w _ hx781_3)).trans hx781_3
                                                  replace hx781_4 := (HB.out.cell (World.block_lt_of_cell? w _ hx781_4)).trans hx781_4
                                                  replace p781 := eq_true p781
                                                  replace q781 := eq_true q781
                                                  have p782 : 0 ≤ (x8_2 : Int) := of_decide_eq_true (by first | (with_reducible assumption) | assumption)
                                                  have q782 : x8_2 < (t768.length : Int) := of_decide_eq_true (by first | (with_reducible assumption) | assumption)
                                                  obtain ⟨ad782, e782, hx782_0, hx782_1, hx782_2, hx782_3, hx782_4⟩ := at_T39 (Kd.R_reads' HO_5.out).2.2 x8_2 p782 q782
                                                  cases e782
                                                  replace p782 := eq_true p782
                                                  replace q782 := eq_true q782
                                                  have p793 : 0 ≤ (x11_4 : Int) := of_decide_eq_true (by first | (with_reducible assumption) | assumption)
                                                  have q793 : x11_4 < (l0.length : Int) := of_decide_eq_true (by first | (with_reducible assumption) | assumption)
                                                  obtain ⟨ad793, e793, hx793_0, hx793_1, hx793_2, hx793_3, hx793_4⟩ := at_T39 HR0.out x11_4 p793 q793
                                                  obtain rfl : ad781 = ad793 := (by injection e793)
                                                  replace hx793_0 := (HB.out.cell (World.block_lt_of_cell? w _ hx793_0)).trans hx793_0
                                                  replace hx793_1 := (HB.out.cell (World.block_lt_of_cell? w _ hx793_1)).trans hx793_1
                                                  replace hx793_2 := (HB.out.cell (World.block_lt_of_cell? w _ hx793_2)).trans hx793_2
                                                  replace hx793_3 := (HB.out.cell (World.block_lt_of_cell? w _ hx793_3)).trans hx793_3
                                                  replace hx793_4 := (HB.out.cell (World.block_lt_of_cell? w _ hx793_4)).trans hx793_4
                                                  replace p793 := eq_true p793
                                                  replace q793 := eq_true q793
                                                  have p794 : 0 ≤ (x8_2 : Int) := of_decide_eq_true (by first | (with_reducible assumption) | assumption)
                                                  have q794 : x8_2 < (t768.length : Int) := of_decide_eq_true (by first | (with_reducible assumption) | assumption)
                                                  obtain ⟨ad794, e794, hx794_0, hx794_1, hx794_2, hx794_3, hx794_4⟩ := at_T39 (Kd.R_reads' HO_5.out).2.2 x8_2 p794 q794
                                                  obtain rfl : ad782 = ad794 := (by injection e794)
                                                  replace p794 := eq_true p794
                                                  replace q794 := eq_true q794
                                                  go_wp2
                                                  repeat (go_quiet (fail); try go_wp2)
                                                  go_roundg k4
                                                  case measure => have := HJ4.out; have := HK2.out; have := HK3.out; have := HK4.out; omega
                                                  case rel => exact ⟨(wrap64 (x11_4 + 1)), (by first | rfl | (simp; done) | (simp [*]; done)), H', ⟨by have := HJ4.out; have := HK2.out; have := HK3.out; have := HK4.out; omega⟩, ⟨by (with_reducible repeat (first | apply Kd.R_alloc | apply Kd.R_drewN | apply Kd.R_drew)); exact HO_5.out⟩, ⟨by (with_reducible repeat (first | apply Kd.R_alloc | apply Kd.R_drewN | apply Kd.R_drew)); exact HO_7.out⟩, ⟨by repeat (first | (with_reducible first | exact HB.out | apply below_alloc | apply pw_below_drewN | apply below_drew1) | exact HB.out)⟩⟩
                                              · rw [if_neg c40] at H
                                                have c40b0 : (x9_3 == 1) = false := beq_eq_false_iff_ne.mpr c40
                                                have c40b1 : (x9_3 != 1) = true := bne_iff_ne.mpr c40
                                                have H' := Aside0.mk H
                                                clear H
                                                have p781 : 0 ≤ (x11_4 : Int) := of_decide_eq_true (by first | (with_reducible assumption) | assumption)
                                                have q781 : x11_4 < (l0.length : Int) := of_decide_eq_true (by first | (with_reducible assumption) | assumption)
                                                obtain ⟨ad781, e781, hx781_0, hx781_1, hx781_2, hx781_3, hx781_4⟩ := at_T39 HR0.out x11_4 p781 q781
                                                cases e781
                                                replace hx781_0 := (HB.out.cell (World.block_lt_of_cell? w _ hx781_0)).trans hx781_0
                                                replace hx781_1 := (HB.out.cell (World.block_lt_of_cell? w _ hx781_1)).trans hx781_1
                                                replace hx781_2 := (HB.out.cell (World.block_lt_of_cell? w _ hx781_2)).trans hx781_2
                                                replace hx781_3 := (HB.out.cell (World.block_lt_of_cell? w _ hx781_3)).trans hx781_3
                                                replace hx781_4 := (HB.out.cell (World.block_lt_of_cell? w _ hx781_4)).trans hx781_4
                                                replace p781 := eq_true p781
                                                replace q781 := eq_true q781
                                                have p782 : 0 ≤ (x8_2 : Int) := of_decide_eq_true (by first | (with_reducible assumption) | assumption)
                                                have q782 : x8_2 < (t768.length : Int) := of_decide_eq_true (by first | (with_reducible assumption) | assumption)
                                                obtain ⟨ad782, e782, hx782_0, hx782_1, hx782_2, hx782_3, hx782_4⟩ := at_T39 (Kd.R_reads' HO_5.out).2.2 x8_2 p782 q782
                                                cases e782
                                                replace p782 := eq_true p782
                                                replace q782 := eq_true q782
                                                go_wp2
                                                repeat (go_quiet (fail); try go_wp2)
                                                go_roundg k4
                                                case measure => have := HJ4.out; have := HK2.out; have := HK3.out; have := HK4.out; omega
                                                case rel => exact ⟨(wrap64 (x11_4 + 1)), (by first | rfl | (simp; done) | (simp [*]; done)), H', ⟨by have := HJ4.out; have := HK2.out; have := HK3.out; have := HK4.out; omega⟩, ⟨by (with_reducible repeat (first | apply Kd.R_alloc | apply Kd.R_drewN | apply Kd.R_drew)); exact HO_5.out⟩, ⟨by (with_reducible repeat (first | apply Kd.R_alloc | apply Kd.R_drewN | apply Kd.R_drew)); exact HO_7.out⟩, ⟨by repeat (first | (with_reducible first | exact HB.out | apply below_alloc | apply pw_below_drewN | apply below_drew1) | exact HB.out)⟩⟩
                                          · rw [if_neg c31] at H
                                            have c31b0 : (((rd_T39 l0 x11_4).f0) == ((rd_T39 t768 x8_2).f0)) = false := beq_eq_false_iff_ne.mpr c31
                                            have c31b1 : (((rd_T39 l0 x11_4).f0) != ((rd_T39 t768 x8_2).f0)) = true := bne_iff_ne.mpr c31
                                            have H' := Aside0.mk H
                                            clear H
                                            have p781 : 0 ≤ (x11_4 : Int) := of_decide_eq_true (by first | (with_reducible assumption) | assumption)
                                            have q781 : x11_4 < (l0.length : Int) := of_decide_eq_true (by first | (with_reducible assumption) | assumption)
                                            obtain ⟨ad781, e781, hx781_0, hx781_1, hx781_2, hx781_3, hx781_4⟩ := at_T39 HR0.out x11_4 p781 q781
                                            cases e781
                                            replace hx781_0 := (HB.out.cell (World.block_lt_of_cell? w _ hx781_0)).trans hx781_0
                                            replace hx781_1 := (HB.out.cell (World.block_lt_of_cell? w _ hx781_1)).trans hx781_1
                                            replace hx781_2 := (HB.out.cell (World.block_lt_of_cell? w _ hx781_2)).trans hx781_2
                                            replace hx781_3 := (HB.out.cell (World.block_lt_of_cell? w _ hx781_3)).trans hx781_3
                                            replace hx781_4 := (HB.out.cell (World.block_lt_of_cell? w _ hx781_4)).trans hx781_4
                                            replace p781 := eq_true p781
                                            replace q781 := eq_true q781
                                            have p782 : 0 ≤ (x8_2 : Int) := of_decide_eq_true (by first | (with_reducible assumption) | assumption)
                                            have q782 : x8_2 < (t768.length : Int) := of_decide_eq_true (by first | (with_reducible assumption) | assumption)
                                            obtain ⟨ad782, e782, hx782_0, hx782_1, hx782_2, hx782_3, hx782_4⟩ := at_T39 (Kd.R_reads' HO_5.out).2.2 x8_2 p782 q782
                                            cases e782
                                            replace p782 := eq_true p782
                                            replace q782 := eq_true q782
                                            go_wp2
                                            repeat (go_quiet (fail); try go_wp2)
                                            go_roundg k4
                                            case measure => have := HJ4.out; have := HK2.out; have := HK3.out; have := HK4.out; omega
                                            case rel => exact ⟨(wrap64 (x11_4 + 1)), (by first | rfl | (simp; done) | (simp [*]; done)), H', ⟨by have := HJ4.out; have := HK2.out; have := HK3.out; have := HK4.out; omega⟩, ⟨by (with_reducible repeat (first | apply Kd.R_alloc | apply Kd.R_drewN | apply Kd.R_drew)); exact HO_5.out⟩, ⟨by (with_reducible repeat (first | apply Kd.R_alloc | apply Kd.R_drewN | apply Kd.R_drew)); exact HO_7.out⟩, ⟨by repeat (first | (with_reducible first | exact HB.out | apply below_alloc | apply pw_below_drewN | apply below_drew1) | exact HB.out)⟩⟩
                                        · rw [if_neg c30] at H
                                          exact absurd H (by simp)
                                      · rw [if_neg c29] at H
                                        exact absurd H (by simp)
                                    · rw [if_neg c28] at H
                                      exact absurd H (by simp)
                                  · rw [if_neg c27] at H
                                    have c27b0 : decide (x11_4 < (l0.length : Int)) = false := decide_eq_false c27
                                    clear c27
                                    have H' := Aside0.mk H
                                    clear H
                                    go_wp2
                                    repeat (go_quiet (fail); try go_wp2)
                                    go_roundg k4
                                    case measure => have := HJ4.out; have := HK2.out; have := HK3.out; have := HK4.out; omega
                                    case rel => exact ⟨(y778), (wrap64 (x8_2 + 1)), (by first | rfl | (simp; done) | (simp [*]; done)), H', ⟨by have := HJ4.out; have := HK2.out; have := HK3.out; have := HK4.out; omega⟩, ⟨by (with_reducible repeat (first | apply Kd.R_alloc | apply Kd.R_drewN | apply Kd.R_drew)); exact HO_5.out⟩, ⟨by (with_reducible repeat (first | apply Kd.R_alloc | apply Kd.R_drewN | apply Kd.R_drew)); exact HO_7.out⟩, ⟨by repeat (first | (with_reducible first | exact HB.out | apply below_alloc | apply pw_below_drewN | apply below_drew1) | exact HB.out)⟩⟩
                          · rw [if_neg c24] at H
                            exact absurd H (by simp)
                  · rw [if_neg c16] at H
                    have c16b0 : decide (x8_2 < (t768.length : Int)) = false := decide_eq_false c16
                    clear c16
                    have H' := Aside0.mk H
                    clear H
                    obtain ⟨Ao42, co42, eo42⟩ := Kd.R_slice HO_5.out
                    subst eo42
                    go_wp2
                    repeat (go_quiet (fail); try go_wp2)
                    go_loopg [12] k2 (fun kq v12 w' => ∃ (x12_3 : Int), v12 = .int .i64 x12_3 ∧ Aside0 (sizarlaw15_AverageCounts.l3 kq l0 l1 t768 x7_2 x12_3 = some r) ∧ Aside0 (kq ≤ k2) ∧ Aside0 (Kd.R k39 39 w' w.heap.size (fun _ => True) (.slice Ao42 t768.length co42) t768) ∧ Aside0 (Kd.R (Kd.int .i64) 3 w' w.heap.size (fun _ => True) u7 x7_2) ∧ Aside0 (Below w.heap.size w w'))
                    case atStart => exact ⟨(0), (by first | rfl | (simp; done) | (simp [*]; done)), H', ⟨Nat.le_refl _⟩, ⟨by (with_reducible repeat (first | apply Kd.R_alloc | apply Kd.R_drewN | apply Kd.R_drew)); exact HO_5.out⟩, ⟨by (with_reducible repeat (first | apply Kd.R_alloc | apply Kd.R_drewN | apply Kd.R_drew)); exact HO_7.out⟩, ⟨by repeat (first | (with_reducible first | exact HB.out | apply below_alloc | apply pw_below_drewN | apply below_drew1) | exact HB.out)⟩⟩
                    case round =>
                      as_aux_lemma =>
                      clear H'
                      try clear c1
                      try clear c2
                      try clear p2
                      try clear c3
                      try clear c4
                      try clear p6
                      try clear p7
                      try clear q7
                      try clear hx7
                      try clear c8
                      try clear c9
                      try clear c11
                      try clear c11b0
                      try clear c11b1
                      try clear c12
                      try clear c12b0
                      try clear c12b1
                      try clear c12b2
                      try clear c16
                      try clear c16b0
                      try clear c17
                      try clear c18
                      try clear c18b0
                      try clear c19
                      try clear c19b0
                      try clear c20
                      try clear c20b0
                      try clear c21
                      try clear c21b0
                      try clear c22
                      try clear c22b0
                      try clear c22b1
                      try clear c22b2
                      try clear c23
                      try clear c23b0
                      try clear c24
                      try clear c25
                      try clear c25b0
                      try clear c27
                      try clear c27b0
                      try clear c28
                      try clear c28b0
                      try clear c29
                      try clear c29b0
                      try clear c30
                      try clear c30b0
                      try clear c31
                      try clear c31b0
                      try clear c31b1
                      try clear c32
                      try clear c32b0
                      try clear c32b1
                      try clear c33
                      try clear c33b0
                      try clear c34
                      try clear c34b0
                      try clear c34b1
                      try clear c35
                      try clear c35b0
                      try clear c36
                      try clear c36b0
                      try clear c36b1
                      try clear c37
                      try clear c37b0
                      try clear c38
                      try clear c38b0
                      try clear c38b1
                      try clear c39
                      try clear c39b0
                      try clear c40
                      try clear c40b0
                      try clear c40b1
                      try clear c41
                      try clear c41b0
                      try clear hx775_0
                      try clear hx775_1
                      try clear hx775_2
                      try clear hx775_3
                      try clear hx775_4
                      try clear hx776_0
                      try clear hx776_1
                      try clear hx776_2
                      try clear hx776_3
                      try clear hx776_4
                      try clear hx777_0
                      try clear hx781_0
                      try clear hx781_1
                      try clear hx781_2
                      try clear hx781_3
                      try clear hx781_4
                      try clear hx782_0
                      try clear hx782_1
                      try clear hx782_2
                      try clear hx782_3
                      try clear hx782_4
                      try clear hx783_0
                      try clear hx783_1
                      try clear hx783_2
                      try clear hx783_3
                      try clear hx783_4
                      try clear hx784_0
                      try clear hx784_1
                      try clear hx784_2
                      try clear hx784_3
                      try clear hx784_4
                      try clear hx785_0
                      try clear hx785_1
                      try clear hx785_2
                      try clear hx785_3
                      try clear hx785_4
                      try clear hx786_0
                      try clear hx786_1
                      try clear hx786_2
                      try clear hx786_3
                      try clear hx786_4
                      try clear hx787_0
                      try clear hx787_1
                      try clear hx787_2
                      try clear hx787_3
                      try clear hx787_4
                      try clear hx788_0
                      try clear hx788_1
                      try clear hx788_2
                      try clear hx788_3
                      try clear hx788_4
                      try clear hx789_0
                      try clear hx789_1
                      try clear hx789_2
                      try clear hx789_3
                      try clear hx789_4
                      try clear hx790_0
                      try clear hx790_1
                      try clear hx790_2
                      try clear hx790_3
                      try clear hx790_4
                      try clear hx791_0
                      try clear hx791_1
                      try clear hx791_2
                      try clear hx791_3
                      try clear hx791_4
                      try clear hx792_0
                      try clear hx792_1
                      try clear hx792_2
                      try clear hx792_3
                      try clear hx792_4
                      try clear hx793_0
                      try clear hx793_1
                      try clear hx793_2
                      try clear hx793_3
                      try clear hx793_4
                      try clear hx794_0
                      try clear hx794_1
                      try clear hx794_2
                      try clear hx794_3
                      try clear hx794_4
                      try clear p2
                      try clear p6
                      try clear p7
                      try clear p775
                      try clear p776
                      try clear p777
                      try clear p781
                      try clear p782
                      try clear p783
                      try clear p784
                      try clear p785
                      try clear p786
                      try clear p787
                      try clear p788
                      try clear p789
                      try clear p790
                      try clear p791
                      try clear p792
                      try clear p793
                      try clear p794
                      try clear q7
                      try clear q775
                      try clear q776
                      try clear q777
                      try clear q781
                      try clear q782
                      try clear q783
                      try clear q784
                      try clear q785
                      try clear q786
                      try clear q787
                      try clear q788
                      try clear q789
                      try clear q790
                      try clear q791
                      try clear q792
                      try clear q793
                      try clear q794
                      obtain ⟨x12_3, rfl, HA, HK3, HO_5, HO_7, HB⟩ := hrel
                      cases gk with
                      | zero => exact absurd HA.out (by simp [sizarlaw15_AverageCounts.l3])
                      | succ k3 =>
                        have H := HA.out
                        clear HA
                        simp only [sizarlaw15_AverageCounts.l3] at H
                        by_cases c43 : x12_3 < (l0.length : Int)
                        · rw [if_pos c43] at H
                          have c43b0 : decide (x12_3 < (l0.length : Int)) = true := decide_eq_true c43
                          clear c43
                          have H' := Aside0.mk H
                          clear H
                          go_wp2
                          repeat (go_quiet (fail); try go_wp2)
                          go_loopg [13, 15] k3 (fun kq v13 v15 w' => ∃ (x13_4 : Int) (x15_4 : Int), v13 = .int .i64 x13_4 ∧ v15 = .int .i64 x15_4 ∧ Aside0 (sizarlaw15_AverageCounts.l4 kq l0 l1 t768 x7_2 x12_3 x13_4 0 x15_4 = some r) ∧ Aside0 (kq ≤ k3) ∧ Aside0 (Kd.R k39 39 w' w.heap.size (fun _ => True) (.slice Ao42 t768.length co42) t768) ∧ Aside0 (Kd.R (Kd.int .i64) 3 w' w.heap.size (fun _ => True) u7 x7_2) ∧ Aside0 (Below w.heap.size w w'))
                          case atStart => exact ⟨(0), (0), (by first | rfl | (simp; done) | (simp [*]; done)), (by first | rfl | (simp; done) | (simp [*]; done)), H', ⟨Nat.le_refl _⟩, ⟨by (with_reducible repeat (first | apply Kd.R_alloc | apply Kd.R_drewN | apply Kd.R_drew)); exact HO_5.out⟩, ⟨by (with_reducible repeat (first | apply Kd.R_alloc | apply Kd.R_drewN | apply Kd.R_drew)); exact HO_7.out⟩, ⟨by repeat (first | (with_reducible first | exact HB.out | apply below_alloc | apply pw_below_drewN | apply below_drew1) | exact HB.out)⟩⟩
                          case round =>
                            as_aux_lemma =>
                            clear H'
                            try clear c1
                            try clear c2
                            try clear p2
                            try clear c3
                            try clear c4
                            try clear p6
                            try clear p7
                            try clear q7
                            try clear hx7
                            try clear c8
                            try clear c9
                            try clear c11
                            try clear c11b0
                            try clear c11b1
                            try clear c12
                            try clear c12b0
                            try clear c12b1
                            try clear c12b2
                            try clear c16
                            try clear c16b0
                            try clear c17
                            try clear c18
                            try clear c18b0
                            try clear c19
                            try clear c19b0
                            try clear c20
                            try clear c20b0
                            try clear c21
                            try clear c21b0
                            try clear c22
                            try clear c22b0
                            try clear c22b1
                            try clear c22b2
                            try clear c23
                            try clear c23b0
                            try clear c24
                            try clear c25
                            try clear c25b0
                            try clear c27
                            try clear c27b0
                            try clear c28
                            try clear c28b0
                            try clear c29
                            try clear c29b0
                            try clear c30
                            try clear c30b0
                            try clear c31
                            try clear c31b0
                            try clear c31b1
                            try clear c32
                            try clear c32b0
                            try clear c32b1
                            try clear c33
                            try clear c33b0
                            try clear c34
                            try clear c34b0
                            try clear c34b1
                            try clear c35
                            try clear c35b0
                            try clear c36
                            try clear c36b0
                            try clear c36b1
                            try clear c37
                            try clear c37b0
                            try clear c38
                            try clear c38b0
                            try clear c38b1
                            try clear c39
                            try clear c39b0
                            try clear c40
                            try clear c40b0
                            try clear c40b1
                            try clear c41
                            try clear c41b0
                            try clear c43
                            try clear c43b0
                            try clear hx775_0
                            try clear hx775_1
                            try clear hx775_2
                            try clear hx775_3
                            try clear hx775_4
                            try clear hx776_0
                            try clear hx776_1
                            try clear hx776_2
                            try clear hx776_3
                            try clear hx776_4
                            try clear hx777_0
                            try clear hx781_0
                            try clear hx781_1
                            try clear hx781_2
                            try clear hx781_3
                            try clear hx781_4
                            try clear hx782_0
                            try clear hx782_1
                            try clear hx782_2
                            try clear hx782_3
                            try clear hx782_4
                            try clear hx783_0
                            try clear hx783_1
                            try clear hx783_2
                            try clear hx783_3
                            try clear hx783_4
                            try clear hx784_0
                            try clear hx784_1
                            try clear hx784_2
                            try clear hx784_3
                            try clear hx784_4
                            try clear hx785_0
                            try clear hx785_1
                            try clear hx785_2
                            try clear hx785_3
                            try clear hx785_4
                            try clear hx786_0
                            try clear hx786_1
                            try clear hx786_2
                            try clear hx786_3
                            try clear hx786_4
                            try clear hx787_0
                            try clear hx787_1
                            try clear hx787_2
                            try clear hx787_3
                            try clear hx787_4
                            try clear hx788_0
                            try clear hx788_1
                            try clear hx788_2
                            try clear hx788_3
                            try clear hx788_4
                            try clear hx789_0
                            try clear hx789_1
                            try clear hx789_2
                            try clear hx789_3
                            try clear hx789_4
                            try clear hx790_0
                            try clear hx790_1
                            try clear hx790_2
                            try clear hx790_3
                            try clear hx790_4
                            try clear hx791_0
                            try clear hx791_1
                            try clear hx791_2
                            try clear hx791_3
                            try clear hx791_4
                            try clear hx792_0
                            try clear hx792_1
                            try clear hx792_2
                            try clear hx792_3
                            try clear hx792_4
                            try clear hx793_0
                            try clear hx793_1
                            try clear hx793_2
                            try clear hx793_3
                            try clear hx793_4
                            try clear hx794_0
                            try clear hx794_1
                            try clear hx794_2
                            try clear hx794_3
                            try clear hx794_4
                            try clear p2
                            try clear p6
                            try clear p7
                            try clear p775
                            try clear p776
                            try clear p777
                            try clear p781
                            try clear p782
                            try clear p783
                            try clear p784
                            try clear p785
                            try clear p786
                            try clear p787
                            try clear p788
                            try clear p789
                            try clear p790
                            try clear p791
                            try clear p792
                            try clear p793
                            try clear p794
                            try clear q7
                            try clear q775
                            try clear q776
                            try clear q777
                            try clear q781
                            try clear q782
                            try clear q783
                            try clear q784
                            try clear q785
                            try clear q786
                            try clear q787
                            try clear q788
                            try clear q789
                            try clear q790
                            try clear q791
                            try clear q792
                            try clear q793
                            try clear q794
                            obtain ⟨x13_4, x15_4, rfl, rfl, HA, HK4, HO_5, HO_7, HB⟩ := hrel
                            cases gk with
                            | zero => exact absurd HA.out (by simp [sizarlaw15_AverageCounts.l4])
                            | succ k4 =>
                              have H := HA.out
                              clear HA
                              simp only [sizarlaw15_AverageCounts.l4] at H
                              by_cases c44 : x15_4 < (t768.length : Int)
                              · rw [if_pos c44] at H
                                have c44b0 : decide (x15_4 < (t768.length : Int)) = true := decide_eq_true c44
                                clear c44
                                by_cases c45 : 0 ≤ x15_4
                                · rw [if_pos c45] at H
                                  have c45b0 : decide (0 ≤ x15_4) = true := decide_eq_true c45
                                  clear c45
                                  by_cases c46 : 0 ≤ x12_3
                                  · rw [if_pos c46] at H
                                    have c46b0 : decide (0 ≤ x12_3) = true := decide_eq_true c46
                                    clear c46
                                    by_cases c47 : x12_3 < (l0.length : Int)
                                    · rw [if_pos c47] at H
                                      have c47b0 : decide (x12_3 < (l0.length : Int)) = true := decide_eq_true c47
                                      clear c47
                                      by_cases c48 : ((rd_T39 t768 x15_4).f0) = ((rd_T39 l0 x12_3).f0)
                                      · rw [if_pos c48] at H
                                        have c48b0 : (((rd_T39 t768 x15_4).f0) == ((rd_T39 l0 x12_3).f0)) = true := beq_iff_eq.mpr c48
                                        have c48b1 : (((rd_T39 t768 x15_4).f0) != ((rd_T39 l0 x12_3).f0)) = false := bne_eq_false_iff_eq.mpr c48
                                        clear c48
                                        have H' := Aside0.mk H
                                        clear H
                                        have p800 : 0 ≤ (x15_4 : Int) := of_decide_eq_true (by first | (with_reducible assumption) | assumption)
                                        have q800 : x15_4 < (t768.length : Int) := of_decide_eq_true (by first | (with_reducible assumption) | assumption)
                                        obtain ⟨ad800, e800, hx800_0, hx800_1, hx800_2, hx800_3, hx800_4⟩ := at_T39 (Kd.R_reads' HO_5.out).2.2 x15_4 p800 q800
                                        cases e800
                                        replace p800 := eq_true p800
                                        replace q800 := eq_true q800
                                        have p801 : 0 ≤ (x12_3 : Int) := of_decide_eq_true (by first | (with_reducible assumption) | assumption)
                                        have q801 : x12_3 < (l0.length : Int) := of_decide_eq_true (by first | (with_reducible assumption) | assumption)
                                        obtain ⟨ad801, e801, hx801_0, hx801_1, hx801_2, hx801_3, hx801_4⟩ := at_T39 HR0.out x12_3 p801 q801
                                        cases e801
                                        replace hx801_0 := (HB.out.cell (World.block_lt_of_cell? w _ hx801_0)).trans hx801_0
                                        replace hx801_1 := (HB.out.cell (World.block_lt_of_cell? w _ hx801_1)).trans hx801_1
                                        replace hx801_2 := (HB.out.cell (World.block_lt_of_cell? w _ hx801_2)).trans hx801_2
                                        replace hx801_3 := (HB.out.cell (World.block_lt_of_cell? w _ hx801_3)).trans hx801_3
                                        replace hx801_4 := (HB.out.cell (World.block_lt_of_cell? w _ hx801_4)).trans hx801_4
                                        replace p801 := eq_true p801
                                        replace q801 := eq_true q801
                                        go_wp2
                                        repeat (go_quiet (fail); try go_wp2)
                                        go_roundg k4
                                        case measure => have := HJ4.out; have := HK2.out; have := HK3.out; have := HK4.out; omega
                                        case rel => exact ⟨(wrap64 (x13_4 + 1)), (wrap64 (x15_4 + 1)), (by first | rfl | (simp; done) | (simp [*]; done)), (by first | rfl | (simp; done) | (simp [*]; done)), H', ⟨by have := HJ4.out; have := HK2.out; have := HK3.out; have := HK4.out; omega⟩, ⟨by (with_reducible repeat (first | apply Kd.R_alloc | apply Kd.R_drewN | apply Kd.R_drew)); exact HO_5.out⟩, ⟨by (with_reducible repeat (first | apply Kd.R_alloc | apply Kd.R_drewN | apply Kd.R_drew)); exact HO_7.out⟩, ⟨by repeat (first | (with_reducible first | exact HB.out | apply below_alloc | apply pw_below_drewN | apply below_drew1) | exact HB.out)⟩⟩
                                      · rw [if_neg c48] at H
                                        have c48b0 : (((rd_T39 t768 x15_4).f0) == ((rd_T39 l0 x12_3).f0)) = false := beq_eq_false_iff_ne.mpr c48
                                        have c48b1 : (((rd_T39 t768 x15_4).f0) != ((rd_T39 l0 x12_3).f0)) = true := bne_iff_ne.mpr c48
                                        have H' := Aside0.mk H
                                        clear H
                                        have p800 : 0 ≤ (x15_4 : Int) := of_decide_eq_true (by first | (with_reducible assumption) | assumption)
                                        have q800 : x15_4 < (t768.length : Int) := of_decide_eq_true (by first | (with_reducible assumption) | assumption)
                                        obtain ⟨ad800, e800, hx800_0, hx800_1, hx800_2, hx800_3, hx800_4⟩ := at_T39 (Kd.R_reads' HO_5.out).2.2 x15_4 p800 q800
                                        cases e800
                                        replace p800 := eq_true p800
                                        replace q800 := eq_true q800
                                        have p801 : 0 ≤ (x12_3 : Int) := of_decide_eq_true (by first | (with_reducible assumption) | assumption)
                                        have q801 : x12_3 < (l0.length : Int) := of_decide_eq_true (by first | (with_reducible assumption) | assumption)
                                        obtain ⟨ad801, e801, hx801_0, hx801_1, hx801_2, hx801_3, hx801_4⟩ := at_T39 HR0.out x12_3 p801 q801
                                        cases e801
                                        replace hx801_0 := (HB.out.cell (World.block_lt_of_cell? w _ hx801_0)).trans hx801_0
                                        replace hx801_1 := (HB.out.cell (World.block_lt_of_cell? w _ hx801_1)).trans hx801_1
                                        replace hx801_2 := (HB.out.cell (World.block_lt_of_cell? w _ hx801_2)).trans hx801_2
                                        replace hx801_3 := (HB.out.cell (World.block_lt_of_cell? w _ hx801_3)).trans hx801_3
                                        replace hx801_4 := (HB.out.cell (World.block_lt_of_cell? w _ hx801_4)).trans hx801_4
                                        replace p801 := eq_true p801
                                        replace q801 := eq_true q801
                                        go_wp2
                                        repeat (go_quiet (fail); try go_wp2)
                                        go_roundg k4
                                        case measure => have := HJ4.out; have := HK2.out; have := HK3.out; have := HK4.out; omega
                                        case rel => exact ⟨(x13_4), (wrap64 (x15_4 + 1)), (by first | rfl | (simp; done) | (simp [*]; done)), (by first | rfl | (simp; done) | (simp [*]; done)), H', ⟨by have := HJ4.out; have := HK2.out; have := HK3.out; have := HK4.out; omega⟩, ⟨by (with_reducible repeat (first | apply Kd.R_alloc | apply Kd.R_drewN | apply Kd.R_drew)); exact HO_5.out⟩, ⟨by (with_reducible repeat (first | apply Kd.R_alloc | apply Kd.R_drewN | apply Kd.R_drew)); exact HO_7.out⟩, ⟨by repeat (first | (with_reducible first | exact HB.out | apply below_alloc | apply pw_below_drewN | apply below_drew1) | exact HB.out)⟩⟩
                                    · rw [if_neg c47] at H
                                      exact absurd H (by simp)
                                  · rw [if_neg c46] at H
                                    exact absurd H (by simp)
                                · rw [if_neg c45] at H
                                  exact absurd H (by simp)
                              · rw [if_neg c44] at H
                                have c44b0 : decide (x15_4 < (t768.length : Int)) = false := decide_eq_false c44
                                clear c44
                                have H' := Aside0.mk H
                                clear H
                                go_wp2
                                repeat (go_quiet (fail); try go_wp2)
                                go_loopg [14, 16] k4 (fun kq v14 v16 w' => ∃ (x14_5 : Int) (x16_5 : Int), v14 = .int .i64 x14_5 ∧ v16 = .int .i64 x16_5 ∧ Aside0 (sizarlaw15_AverageCounts.l5 kq l0 l1 t768 x7_2 x12_3 x13_4 x14_5 x16_5 = some r) ∧ Aside0 (kq ≤ k4) ∧ Aside0 (Kd.R k39 39 w' w.heap.size (fun _ => True) (.slice Ao42 t768.length co42) t768) ∧ Aside0 (Kd.R (Kd.int .i64) 3 w' w.heap.size (fun _ => True) u7 x7_2) ∧ Aside0 (Below w.heap.size w w'))
                                case atStart => exact ⟨(0), (0), (by first | rfl | (simp; done) | (simp [*]; done)), (by first | rfl | (simp; done) | (simp [*]; done)), H', ⟨Nat.le_refl _⟩, ⟨by (with_reducible repeat (first | apply Kd.R_alloc | apply Kd.R_drewN | apply Kd.R_drew)); exact HO_5.out⟩, ⟨by (with_reducible repeat (first | apply Kd.R_alloc | apply Kd.R_drewN | apply Kd.R_drew)); exact HO_7.out⟩, ⟨by repeat (first | (with_reducible first | exact HB.out | apply below_alloc | apply pw_below_drewN | apply below_drew1) | exact HB.out)⟩⟩
                                case round =>
                                  as_aux_lemma =>
                                  clear H'
                                  try clear c1
                                  try clear c2
                                  try clear p2
                                  try clear c3
                                  try clear c4
                                  try clear p6
                                  try clear p7
                                  try clear q7
                                  try clear hx7
                                  try clear c8
                                  try clear p8
                                  try clear q8
                                  try clear hx8
                                  try clear c9
                                  try clear c11
                                  try clear c11b0
                                  try clear c11b1
                                  try clear c12
                                  try clear c12b0
                                  try clear c12b1
                                  try clear c12b2
                                  try clear c16
                                  try clear c16b0
                                  try clear c17
                                  try clear c18
                                  try clear c18b0
                                  try clear c19
                                  try clear c19b0
                                  try clear c20
                                  try clear c20b0
                                  try clear c21
                                  try clear c21b0
                                  try clear c22
                                  try clear c22b0
                                  try clear c22b1
                                  try clear c22b2
                                  try clear c23
                                  try clear c23b0
                                  try clear c24
                                  try clear c25
                                  try clear c25b0
                                  try clear c27
                                  try clear c27b0
                                  try clear c28
                                  try clear c28b0
                                  try clear c29
                                  try clear c29b0
                                  try clear c30
                                  try clear c30b0
                                  try clear c31
                                  try clear c31b0
                                  try clear c31b1
                                  try clear c32
                                  try clear c32b0
                                  try clear c32b1
                                  try clear c33
                                  try clear c33b0
                                  try clear c34
                                  try clear c34b0
                                  try clear c34b1
                                  try clear c35
                                  try clear c35b0
                                  try clear c36
                                  try clear c36b0
                                  try clear c36b1
                                  try clear c37
                                  try clear c37b0
                                  try clear c38
                                  try clear c38b0
                                  try clear c38b1
                                  try clear c39
                                  try clear c39b0
                                  try clear c40
                                  try clear c40b0
                                  try clear c40b1
                                  try clear c41
                                  try clear c41b0
                                  try clear c43
                                  try clear c43b0
                                  try clear c44
                                  try clear c44b0
                                  try clear c45
                                  try clear c45b0
                                  try clear c46
                                  try clear c46b0
                                  try clear c47
                                  try clear c47b0
                                  try clear c48
                                  try clear c48b0
                                  try clear c48b1
                                  try clear hx775_0
                                  try clear hx775_1
                                  try clear hx775_2
                                  try clear hx775_3
                                  try clear hx775_4
                                  try clear hx776_0
                                  try clear hx776_1
                                  try clear hx776_2
                                  try clear hx776_3
                                  try clear hx776_4
                                  try clear hx777_0
                                  try clear hx781_0
                                  try clear hx781_1
                                  try clear hx781_2
                                  try clear hx781_3
                                  try clear hx781_4
                                  try clear hx782_0
                                  try clear hx782_1
                                  try clear hx782_2
                                  try clear hx782_3
                                  try clear hx782_4
                                  try clear hx783_0
                                  try clear hx783_1
                                  try clear hx783_2
                                  try clear hx783_3
                                  try clear hx783_4
                                  try clear hx784_0
                                  try clear hx784_1
                                  try clear hx784_2
                                  try clear hx784_3
                                  try clear hx784_4
                                  try clear hx785_0
                                  try clear hx785_1
                                  try clear hx785_2
                                  try clear hx785_3
                                  try clear hx785_4
                                  try clear hx786_0
                                  try clear hx786_1
                                  try clear hx786_2
                                  try clear hx786_3
                                  try clear hx786_4
                                  try clear hx787_0
                                  try clear hx787_1
                                  try clear hx787_2
                                  try clear hx787_3
                                  try clear hx787_4
                                  try clear hx788_0
                                  try clear hx788_1
                                  try clear hx788_2
                                  try clear hx788_3
                                  try clear hx788_4
                                  try clear hx789_0
                                  try clear hx789_1
                                  try clear hx789_2
                                  try clear hx789_3
                                  try clear hx789_4
                                  try clear hx790_0
                                  try clear hx790_1
                                  try clear hx790_2
                                  try clear hx790_3
                                  try clear hx790_4
                                  try clear hx791_0
                                  try clear hx791_1
                                  try clear hx791_2
                                  try clear hx791_3
                                  try clear hx791_4
                                  try clear hx792_0
                                  try clear hx792_1
                                  try clear hx792_2
                                  try clear hx792_3
                                  try clear hx792_4
                                  try clear hx793_0
                                  try clear hx793_1
                                  try clear hx793_2
                                  try clear hx793_3
                                  try clear hx793_4
                                  try clear hx794_0
                                  try clear hx794_1
                                  try clear hx794_2
                                  try clear hx794_3
                                  try clear hx794_4
                                  try clear hx800_0
                                  try clear hx800_1
                                  try clear hx800_2
                                  try clear hx800_3
                                  try clear hx800_4
                                  try clear hx801_0
                                  try clear hx801_1
                                  try clear hx801_2
                                  try clear hx801_3
                                  try clear hx801_4
                                  try clear p2
                                  try clear p6
                                  try clear p7
                                  try clear p775
                                  try clear p776
                                  try clear p777
                                  try clear p781
                                  try clear p782
                                  try clear p783
                                  try clear p784
                                  try clear p785
                                  try clear p786
                                  try clear p787
                                  try clear p788
                                  try clear p789
                                  try clear p790
                                  try clear p791
                                  try clear p792
                                  try clear p793
                                  try clear p794
                                  try clear p800
                                  try clear p801
                                  try clear q7
                                  try clear q775
                                  try clear q776
                                  try clear q777
                                  try clear q781
                                  try clear q782
                                  try clear q783
                                  try clear q784
                                  try clear q785
                                  try clear q786
                                  try clear q787
                                  try clear q788
                                  try clear q789
                                  try clear q790
                                  try clear q791
                                  try clear q792
                                  try clear q793
                                  try clear q794
                                  try clear q800
                                  try clear q801
                                  obtain ⟨x14_5, x16_5, rfl, rfl, HA, HK5, HO_5, HO_7, HB⟩ := hrel
                                  cases gk with
                                  | zero => exact absurd HA.out (by simp [sizarlaw15_AverageCounts.l5])
                                  | succ k5 =>
                                    have H := HA.out
                                    clear HA
                                    simp only [sizarlaw15_AverageCounts.l5] at H
                                    by_cases c49 : x16_5 < (l0.length : Int)
                                    · rw [if_pos c49] at H
                                      have c49b0 : decide (x16_5 < (l0.length : Int)) = true := decide_eq_true c49
                                      clear c49
                                      by_cases c50 : 0 ≤ x16_5
                                      · rw [if_pos c50] at H
                                        have c50b0 : decide (0 ≤ x16_5) = true := decide_eq_true c50
                                        clear c50
                                        by_cases c51 : 0 ≤ x12_3
                                        · rw [if_pos c51] at H
                                          have c51b0 : decide (0 ≤ x12_3) = true := decide_eq_true c51
                                          clear c51
                                          by_cases c52 : x12_3 < (l0.length : Int)
                                          · rw [if_pos c52] at H
                                            have c52b0 : decide (x12_3 < (l0.length : Int)) = true := decide_eq_true c52
                                            clear c52
                                            by_cases c53 : ((rd_T39 l0 x16_5).f0) = ((rd_T39 l0 x12_3).f0)
                                            · rw [if_pos c53] at H
                                              have c53b0 : (((rd_T39 l0 x16_5).f0) == ((rd_T39 l0 x12_3).f0)) = true := beq_iff_eq.mpr c53
                                              have c53b1 : (((rd_T39 l0 x16_5).f0) != ((rd_T39 l0 x12_3).f0)) = false := bne_eq_false_iff_eq.mpr c53
                                              clear c53
                                              have H' := Aside0.mk H
                                              clear H
                                              have p802 : 0 ≤ (x16_5 : Int) := of_decide_eq_true (by first | (with_reducible assumption) | assumption)
                                              have q802 : x16_5 < (l0.length : Int) := of_decide_eq_true (by first | (with_reducible assumption) | assumption)
                                              obtain ⟨ad802, e802, hx802_0, hx802_1, hx802_2, hx802_3, hx802_4⟩ := at_T39 HR0.out x16_5 p802 q802
                                              cases e802
                                              replace hx802_0 := (HB.out.cell (World.block_lt_of_cell? w _ hx802_0)).trans hx802_0
                                              replace hx802_1 := (HB.out.cell (World.block_lt_of_cell? w _ hx802_1)).trans hx802_1
                                              replace hx802_2 := (HB.out.cell (World.block_lt_of_cell? w _ hx802_2)).trans hx802_2
                                              replace hx802_3 := (HB.out.cell (World.block_lt_of_cell? w _ hx802_3)).trans hx802_3
                                              replace hx802_4 := (HB.out.cell (World.block_lt_of_cell? w _ hx802_4)).trans hx802_4
                                              replace p802 := eq_true p802
                                              replace q802 := eq_true q802
                                              have p803 : 0 ≤ (x12_3 : Int) := of_decide_eq_true (by first | (with_reducible assumption) | assumption)
                                              have q803 : x12_3 < (l0.length : Int) := of_decide_eq_true (by first | (with_reducible assumption) | assumption)
                                              obtain ⟨ad803, e803, hx803_0, hx803_1, hx803_2, hx803_3, hx803_4⟩ := at_T39 HR0.out x12_3 p803 q803
                                              obtain rfl : ad802 = ad803 := (by injection e803)
                                              replace hx803_0 := (HB.out.cell (World.block_lt_of_cell? w _ hx803_0)).trans hx803_0
                                              replace hx803_1 := (HB.out.cell (World.block_lt_of_cell? w _ hx803_1)).trans hx803_1
                                              replace hx803_2 := (HB.out.cell (World.block_lt_of_cell? w _ hx803_2)).trans hx803_2
                                              replace hx803_3 := (HB.out.cell (World.block_lt_of_cell? w _ hx803_3)).trans hx803_3
                                              replace hx803_4 := (HB.out.cell (World.block_lt_of_cell? w _ hx803_4)).trans hx803_4
                                              replace p803 := eq_true p803
                                              replace q803 := eq_true q803
                                              go_wp2
                                              repeat (go_quiet (fail); try go_wp2)
                                              go_roundg k5
                                              case measure => have := HJ4.out; have := HK2.out; have := HK3.out; have := HK4.out; have := HK5.out; omega
                                              case rel => exact ⟨(wrap64 (x14_5 + 1)), (wrap64 (x16_5 + 1)), (by first | rfl | (simp; done) | (simp [*]; done)), (by first | rfl | (simp; done) | (simp [*]; done)), H', ⟨by have := HJ4.out; have := HK2.out; have := HK3.out; have := HK4.out; have := HK5.out; omega⟩, ⟨by (with_reducible repeat (first | apply Kd.R_alloc | apply Kd.R_drewN | apply Kd.R_drew)); exact HO_5.out⟩, ⟨by (with_reducible repeat (first | apply Kd.R_alloc | apply Kd.R_drewN | apply Kd.R_drew)); exact HO_7.out⟩, ⟨by repeat (first | (with_reducible first | exact HB.out | apply below_alloc | apply pw_below_drewN | apply below_drew1) | exact HB.out)⟩⟩
                                            · rw [if_neg c53] at H
                                              have c53b0 : (((rd_T39 l0 x16_5).f0) == ((rd_T39 l0 x12_3).f0)) = false := beq_eq_false_iff_ne.mpr c53
                                              have c53b1 : (((rd_T39 l0 x16_5).f0) != ((rd_T39 l0 x12_3).f0)) = true := bne_iff_ne.mpr c53
                                              have H' := Aside0.mk H
                                              clear H
                                              have p802 : 0 ≤ (x16_5 : Int) := of_decide_eq_true (by first | (with_reducible assumption) | assumption)
                                              have q802 : x16_5 < (l0.length : Int) := of_decide_eq_true (by first | (with_reducible assumption) | assumption)
                                              obtain ⟨ad802, e802, hx802_0, hx802_1, hx802_2, hx802_3, hx802_4⟩ := at_T39 HR0.out x16_5 p802 q802
                                              cases e802
                                              replace hx802_0 := (HB.out.cell (World.block_lt_of_cell? w _ hx802_0)).trans hx802_0
                                              replace hx802_1 := (HB.out.cell (World.block_lt_of_cell? w _ hx802_1)).trans hx802_1
                                              replace hx802_2 := (HB.out.cell (World.block_lt_of_cell? w _ hx802_2)).trans hx802_2
                                              replace hx802_3 := (HB.out.cell (World.block_lt_of_cell? w _ hx802_3)).trans hx802_3
                                              replace hx802_4 := (HB.out.cell (World.block_lt_of_cell? w _ hx802_4)).trans hx802_4
                                              replace p802 := eq_true p802
                                              replace q802 := eq_true q802
                                              have p803 : 0 ≤ (x12_3 : Int) := of_decide_eq_true (by first | (with_reducible assumption) | assumption)
                                              have q803 : x12_3 < (l0.length : Int) := of_decide_eq_true (by first | (with_reducible assumption) | assumption)
                                              obtain ⟨ad803, e803, hx803_0, hx803_1, hx803_2, hx803_3, hx803_4⟩ := at_T39 HR0.out x12_3 p803 q803
                                              obtain rfl : ad802 = ad803 := (by injection e803)
                                              replace hx803_0 := (HB.out.cell (World.block_lt_of_cell? w _ hx803_0)).trans hx803_0
                                              replace hx803_1 := (HB.out.cell (World.block_lt_of_cell? w _ hx803_1)).trans hx803_1
                                              replace hx803_2 := (HB.out.cell (World.block_lt_of_cell? w _ hx803_2)).trans hx803_2
                                              replace hx803_3 := (HB.out.cell (World.block_lt_of_cell? w _ hx803_3)).trans hx803_3
                                              replace hx803_4 := (HB.out.cell (World.block_lt_of_cell? w _ hx803_4)).trans hx803_4
                                              replace p803 := eq_true p803
                                              replace q803 := eq_true q803
                                              go_wp2
                                              repeat (go_quiet (fail); try go_wp2)
                                              go_roundg k5
                                              case measure => have := HJ4.out; have := HK2.out; have := HK3.out; have := HK4.out; have := HK5.out; omega
                                              case rel => exact ⟨(x14_5), (wrap64 (x16_5 + 1)), (by first | rfl | (simp; done) | (simp [*]; done)), (by first | rfl | (simp; done) | (simp [*]; done)), H', ⟨by have := HJ4.out; have := HK2.out; have := HK3.out; have := HK4.out; have := HK5.out; omega⟩, ⟨by (with_reducible repeat (first | apply Kd.R_alloc | apply Kd.R_drewN | apply Kd.R_drew)); exact HO_5.out⟩, ⟨by (with_reducible repeat (first | apply Kd.R_alloc | apply Kd.R_drewN | apply Kd.R_drew)); exact HO_7.out⟩, ⟨by repeat (first | (with_reducible first | exact HB.out | apply below_alloc | apply pw_below_drewN | apply below_drew1) | exact HB.out)⟩⟩
                                          · rw [if_neg c52] at H
                                            exact absurd H (by simp)
                                        · rw [if_neg c51] at H
                                          exact absurd H (by simp)
                                      · rw [if_neg c50] at H
                                        exact absurd H (by simp)
                                    · rw [if_neg c49] at H
                                      have c49b0 : decide (x16_5 < (l0.length : Int)) = false := decide_eq_false c49
                                      clear c49
                                      by_cases c54 : 0 ≤ x12_3
                                      · rw [if_pos c54] at H
                                        have c54b0 : decide (0 ≤ x12_3) = true := decide_eq_true c54
                                        clear c54
                                        by_cases c55 : x12_3 < (l1.length : Int)
                                        · rw [if_pos c55] at H
                                          have c55b0 : decide (x12_3 < (l1.length : Int)) = true := decide_eq_true c55
                                          clear c55
                                          by_cases c56 : (rd l1 x12_3) = 2
                                          · rw [if_pos c56] at H
                                            have c56b0 : ((rd l1 x12_3) == 2) = true := beq_iff_eq.mpr c56
                                            have c56b1 : ((rd l1 x12_3) != 2) = false := bne_eq_false_iff_eq.mpr c56
                                            clear c56
                                            by_cases c57 : x13_4 = x14_5
                                            · rw [if_pos c57] at H
                                              have c57b0 : (x13_4 == x14_5) = true := beq_iff_eq.mpr c57
                                              have c57b1 : (x13_4 != x14_5) = false := bne_eq_false_iff_eq.mpr c57
                                              clear c57
                                              have H' := Aside0.mk H
                                              clear H
                                              have p804 : 0 ≤ (x12_3 : Int) := of_decide_eq_true (by first | (with_reducible assumption) | assumption)
                                              have q804 : x12_3 < (l1.length : Int) := of_decide_eq_true (by first | (with_reducible assumption) | assumption)
                                              obtain ⟨ad804, e804, hx804_0⟩ := Kd.at_int HR1.out x12_3 p804 q804
                                              cases e804
                                              replace hx804_0 := (HB.out.cell (World.block_lt_of_cell? w _ hx804_0)).trans hx804_0
                                              replace p804 := eq_true p804
                                              replace q804 := eq_true q804
                                              have p805 : 0 ≤ (x12_3 : Int) := of_decide_eq_true (by first | (with_reducible assumption) | assumption)
                                              have q805 : x12_3 < (l1.length : Int) := of_decide_eq_true (by first | (with_reducible assumption) | assumption)
                                              obtain ⟨ad805, e805, hx805_0⟩ := Kd.at_int HR1.out x12_3 p805 q805
                                              obtain rfl : ad804 = ad805 := (by injection e805)
                                              replace hx805_0 := (HB.out.cell (World.block_lt_of_cell? w _ hx805_0)).trans hx805_0
                                              replace p805 := eq_true p805
                                              replace q805 := eq_true q805
                                              go_wp2
                                              repeat (go_quiet (fail); try go_wp2)
                                              go_roundg k5
                                              case measure => have := HJ4.out; have := HK2.out; have := HK3.out; have := HK4.out; have := HK5.out; omega
                                              case rel => exact ⟨(wrap64 (x12_3 + 1)), (by first | rfl | (simp; done) | (simp [*]; done)), H', ⟨by have := HJ4.out; have := HK2.out; have := HK3.out; have := HK4.out; have := HK5.out; omega⟩, ⟨by (with_reducible repeat (first | apply Kd.R_alloc | apply Kd.R_drewN | apply Kd.R_drew)); exact HO_5.out⟩, ⟨by (with_reducible repeat (first | apply Kd.R_alloc | apply Kd.R_drewN | apply Kd.R_drew)); exact HO_7.out⟩, ⟨by repeat (first | (with_reducible first | exact HB.out | apply below_alloc | apply pw_below_drewN | apply below_drew1) | exact HB.out)⟩⟩
                                            · rw [if_neg c57] at H
                                              have c57b0 : (x13_4 == x14_5) = false := beq_eq_false_iff_ne.mpr c57
                                              have c57b1 : (x13_4 != x14_5) = true := bne_iff_ne.mpr c57
                                              exact absurd ((Option.some.inj H).trans hrt.out) (by decide)
                                          · rw [if_neg c56] at H
                                            have c56b0 : ((rd l1 x12_3) == 2) = false := beq_eq_false_iff_ne.mpr c56
                                            have c56b1 : ((rd l1 x12_3) != 2) = true := bne_iff_ne.mpr c56
                                            by_cases c58 : x13_4 = 1
                                            · rw [if_pos c58] at H
                                              have c58b0 : (x13_4 == 1) = true := beq_iff_eq.mpr c58
                                              have c58b1 : (x13_4 != 1) = false := bne_eq_false_iff_eq.mpr c58
                                              clear c58
                                              have H' := Aside0.mk H
                                              clear H
                                              have p804 : 0 ≤ (x12_3 : Int) := of_decide_eq_true (by first | (with_reducible assumption) | assumption)
                                              have q804 : x12_3 < (l1.length : Int) := of_decide_eq_true (by first | (with_reducible assumption) | assumption)
                                              obtain ⟨ad804, e804, hx804_0⟩ := Kd.at_int HR1.out x12_3 p804 q804
                                              cases e804
                                              replace hx804_0 := (HB.out.cell (World.block_lt_of_cell? w _ hx804_0)).trans hx804_0
                                              replace p804 := eq_true p804
                                              replace q804 := eq_true q804
                                              have p806 : 0 ≤ (x12_3 : Int) := of_decide_eq_true (by first | (with_reducible assumption) | assumption)
                                              have q806 : x12_3 < (l1.length : Int) := of_decide_eq_true (by first | (with_reducible assumption) | assumption)
                                              obtain ⟨ad806, e806, hx806_0⟩ := Kd.at_int HR1.out x12_3 p806 q806
                                              obtain rfl : ad804 = ad806 := (by injection e806)
                                              replace hx806_0 := (HB.out.cell (World.block_lt_of_cell? w _ hx806_0)).trans hx806_0
                                              replace p806 := eq_true p806
                                              replace q806 := eq_true q806
                                              go_wp2
                                              repeat (go_quiet (fail); try go_wp2)
                                              go_roundg k5
                                              case measure => have := HJ4.out; have := HK2.out; have := HK3.out; have := HK4.out; have := HK5.out; omega
                                              case rel => exact ⟨(wrap64 (x12_3 + 1)), (by first | rfl | (simp; done) | (simp [*]; done)), H', ⟨by have := HJ4.out; have := HK2.out; have := HK3.out; have := HK4.out; have := HK5.out; omega⟩, ⟨by (with_reducible repeat (first | apply Kd.R_alloc | apply Kd.R_drewN | apply Kd.R_drew)); exact HO_5.out⟩, ⟨by (with_reducible repeat (first | apply Kd.R_alloc | apply Kd.R_drewN | apply Kd.R_drew)); exact HO_7.out⟩, ⟨by repeat (first | (with_reducible first | exact HB.out | apply below_alloc | apply pw_below_drewN | apply below_drew1) | exact HB.out)⟩⟩
                                            · rw [if_neg c58] at H
                                              have c58b0 : (x13_4 == 1) = false := beq_eq_false_iff_ne.mpr c58
                                              have c58b1 : (x13_4 != 1) = true := bne_iff_ne.mpr c58
                                              exact absurd ((Option.some.inj H).trans hrt.out) (by decide)
                                        · rw [if_neg c55] at H
                                          exact absurd H (by simp)
                                      · rw [if_neg c54] at H
                                        exact absurd H (by simp)
                        · rw [if_neg c43] at H
                          have c43b0 : decide (x12_3 < (l0.length : Int)) = false := decide_eq_false c43
                          clear c43
                          replace H := Option.bind_eq_some_iff.mp H
                          obtain ⟨⟨t795, t796⟩, A590, H⟩ := H
                          replace H : (if t796 = 0 then ((sizarref15_SameC.f t768 t795).bind fun t799 => (some t799)) else (some false)) = some r := H
                          have A59 := Aside0.mk A590
                          clear A590
                          by_cases c60 : t796 = 0
                          · rw [if_pos c60] at H
                            have c60b0 : (t796 == 0) = true := beq_iff_eq.mpr c60
                            have c60b1 : (t796 != 0) = false := bne_eq_false_iff_eq.mpr c60
                            clear c60
                            replace H := Option.bind_eq_some_iff.mp H
                            obtain ⟨t799, A610, H⟩ := H
                            replace H : (some t799) = some r := H
                            have A61 := Aside0.mk A610
                            clear A610
                            obtain rfl := Option.some.inj H
                            obtain ⟨Ao62, co62, eo62⟩ := Kd.R_slice HO_7.out
                            subst eo62
                            go_wp2_with (first | (go_at_call 42; (with_reducible refine (average_Counted.calls _ _ t768 _ _ x7_2 t795 t796 _ ?side1 ?side2 ?side3 ?side4 A59.out).mono ?_); (case side1 => repeat (first | exact (Kd.R_reads' HO_5.out).2.2 | (with_reducible refine Kd.C_alloc ?_ _) | (with_reducible refine Kd.C_drewN ?_ _) | (with_reducible refine Kd.C_drew ?_))); (case side2 => exact (Kd.R_reads' HO_5.out).2.1); (case side3 => repeat (first | exact (Kd.R_reads' HO_7.out).2.2 | (with_reducible refine Kd.C_alloc ?_ _) | (with_reducible refine Kd.C_drewN ?_ _) | (with_reducible refine Kd.C_drew ?_))); (case side4 => exact (Kd.R_reads' HO_7.out).2.1); rintro e w63 ⟨v797, rfl, ho0, hb⟩; have n0_ := Aside0.mk (Kd.R_elder' (by (with_reducible repeat (first | apply Kd.R_alloc | apply Kd.R_drewN | apply Kd.R_drew)); exact HO_5.out) (Kd.R_base ho0) hb); have n1_ := Aside0.mk (Kd.R_below (by (with_reducible repeat (first | apply Kd.R_alloc | apply Kd.R_drewN | apply Kd.R_drew)); exact HO_7.out) hb); have n2_ := Aside0.mk (Kd.R_lower (Kd.R_new' ho0 (Kd.R_lt (by (with_reducible repeat (first | apply Kd.R_alloc | apply Kd.R_drewN | apply Kd.R_drew)); exact HO_5.out))) (below_size (by repeat (first | (with_reducible first | exact HB.out | apply below_alloc | apply pw_below_drewN | apply below_drew1) | exact HB.out)))); have n3_ := Aside0.mk (below_step (by repeat (first | (with_reducible first | exact HB.out | apply below_alloc | apply pw_below_drewN | apply below_drew1) | exact HB.out)) hb); clear HO_5; clear HO_7; clear HB; have HO_5 := n0_; have HO_7 := n1_; have HO798 := n2_; have HB := n3_; clear n0_ n1_ n2_ n3_; (try clear hb); (try clear hb2); (try clear hk); (try clear hi); (try clear ho0); obtain ⟨Ao64, co64, eo64⟩ := Kd.R_slice HO798.out; subst eo64) | (go_at_call 44; (with_reducible refine (sizarref15_SameC.calls _ _ t768 _ _ t795 t799 _ ?side1 ?side2 ?side3 ?side4 A61.out).mono ?_); (case side1 => repeat (first | exact (Kd.R_reads' HO_5.out).2.2 | (with_reducible refine Kd.C_alloc ?_ _) | (with_reducible refine Kd.C_drewN ?_ _) | (with_reducible refine Kd.C_drew ?_))); (case side2 => exact (Kd.R_reads' HO_5.out).2.1); (case side3 => repeat (first | exact (Kd.R_reads' HO798.out).2.2 | (with_reducible refine Kd.C_alloc ?_ _) | (with_reducible refine Kd.C_drewN ?_ _) | (with_reducible refine Kd.C_drew ?_))); (case side4 => exact (Kd.R_reads' HO798.out).2.1); rintro e w' ⟨rfl, ⟨nd, rfl⟩⟩; (try first | exact ⟨rfl, _, World.drewN_drewN _ _ _⟩ | exact ⟨rfl, _, Eq.trans (World.drewN_drewN _ _ _) (congrArg (World.drewN _) (Nat.add_assoc _ _ _))⟩)))
                            repeat (go_quiet (first | (go_at_call 42; (with_reducible refine (average_Counted.calls _ _ t768 _ _ x7_2 t795 t796 _ ?side1 ?side2 ?side3 ?side4 A59.out).mono ?_); (case side1 => repeat (first | exact (Kd.R_reads' HO_5.out).2.2 | (with_reducible refine Kd.C_alloc ?_ _) | (with_reducible refine Kd.C_drewN ?_ _) | (with_reducible refine Kd.C_drew ?_))); (case side2 => exact (Kd.R_reads' HO_5.out).2.1); (case side3 => repeat (first | exact (Kd.R_reads' HO_7.out).2.2 | (with_reducible refine Kd.C_alloc ?_ _) | (with_reducible refine Kd.C_drewN ?_ _) | (with_reducible refine Kd.C_drew ?_))); (case side4 => exact (Kd.R_reads' HO_7.out).2.1); rintro e w63 ⟨v797, rfl, ho0, hb⟩; have n0_ := Aside0.mk (Kd.R_elder' (by (with_reducible repeat (first | apply Kd.R_alloc | apply Kd.R_drewN | apply Kd.R_drew)); exact HO_5.out) (Kd.R_base ho0) hb); have n1_ := Aside0.mk (Kd.R_below (by (with_reducible repeat (first | apply Kd.R_alloc | apply Kd.R_drewN | apply Kd.R_drew)); exact HO_7.out) hb); have n2_ := Aside0.mk (Kd.R_lower (Kd.R_new' ho0 (Kd.R_lt (by (with_reducible repeat (first | apply Kd.R_alloc | apply Kd.R_drewN | apply Kd.R_drew)); exact HO_5.out))) (below_size (by repeat (first | (with_reducible first | exact HB.out | apply below_alloc | apply pw_below_drewN | apply below_drew1) | exact HB.out)))); have n3_ := Aside0.mk (below_step (by repeat (first | (with_reducible first | exact HB.out | apply below_alloc | apply pw_below_drewN | apply below_drew1) | exact HB.out)) hb); clear HO_5; clear HO_7; clear HB; have HO_5 := n0_; have HO_7 := n1_; have HO798 := n2_; have HB := n3_; clear n0_ n1_ n2_ n3_; (try clear hb); (try clear hb2); (try clear hk); (try clear hi); (try clear ho0); obtain ⟨Ao64, co64, eo64⟩ := Kd.R_slice HO798.out; subst eo64) | (go_at_call 44; (with_reducible refine (sizarref15_SameC.calls _ _ t768 _ _ t795 t799 _ ?side1 ?side2 ?side3 ?side4 A61.out).mono ?_); (case side1 => repeat (first | exact (Kd.R_reads' HO_5.out).2.2 | (with_reducible refine Kd.C_alloc ?_ _) | (with_reducible refine Kd.C_drewN ?_ _) | (with_reducible refine Kd.C_drew ?_))); (case side2 => exact (Kd.R_reads' HO_5.out).2.1); (case side3 => repeat (first | exact (Kd.R_reads' HO798.out).2.2 | (with_reducible refine Kd.C_alloc ?_ _) | (with_reducible refine Kd.C_drewN ?_ _) | (with_reducible refine Kd.C_drew ?_))); (case side4 => exact (Kd.R_reads' HO798.out).2.1); rintro e w' ⟨rfl, ⟨nd, rfl⟩⟩; (try first | exact ⟨rfl, _, World.drewN_drewN _ _ _⟩ | exact ⟨rfl, _, Eq.trans (World.drewN_drewN _ _ _) (congrArg (World.drewN _) (Nat.add_assoc _ _ _))⟩))); try go_wp2_with (first | (go_at_call 42; (with_reducible refine (average_Counted.calls _ _ t768 _ _ x7_2 t795 t796 _ ?side1 ?side2 ?side3 ?side4 A59.out).mono ?_); (case side1 => repeat (first | exact (Kd.R_reads' HO_5.out).2.2 | (with_reducible refine Kd.C_alloc ?_ _) | (with_reducible refine Kd.C_drewN ?_ _) | (with_reducible refine Kd.C_drew ?_))); (case side2 => exact (Kd.R_reads' HO_5.out).2.1); (case side3 => repeat (first | exact (Kd.R_reads' HO_7.out).2.2 | (with_reducible refine Kd.C_alloc ?_ _) | (with_reducible refine Kd.C_drewN ?_ _) | (with_reducible refine Kd.C_drew ?_))); (case side4 => exact (Kd.R_reads' HO_7.out).2.1); rintro e w63 ⟨v797, rfl, ho0, hb⟩; have n0_ := Aside0.mk (Kd.R_elder' (by (with_reducible repeat (first | apply Kd.R_alloc | apply Kd.R_drewN | apply Kd.R_drew)); exact HO_5.out) (Kd.R_base ho0) hb); have n1_ := Aside0.mk (Kd.R_below (by (with_reducible repeat (first | apply Kd.R_alloc | apply Kd.R_drewN | apply Kd.R_drew)); exact HO_7.out) hb); have n2_ := Aside0.mk (Kd.R_lower (Kd.R_new' ho0 (Kd.R_lt (by (with_reducible repeat (first | apply Kd.R_alloc | apply Kd.R_drewN | apply Kd.R_drew)); exact HO_5.out))) (below_size (by repeat (first | (with_reducible first | exact HB.out | apply below_alloc | apply pw_below_drewN | apply below_drew1) | exact HB.out)))); have n3_ := Aside0.mk (below_step (by repeat (first | (with_reducible first | exact HB.out | apply below_alloc | apply pw_below_drewN | apply below_drew1) | exact HB.out)) hb); clear HO_5; clear HO_7; clear HB; have HO_5 := n0_; have HO_7 := n1_; have HO798 := n2_; have HB := n3_; clear n0_ n1_ n2_ n3_; (try clear hb); (try clear hb2); (try clear hk); (try clear hi); (try clear ho0); obtain ⟨Ao64, co64, eo64⟩ := Kd.R_slice HO798.out; subst eo64) | (go_at_call 44; (with_reducible refine (sizarref15_SameC.calls _ _ t768 _ _ t795 t799 _ ?side1 ?side2 ?side3 ?side4 A61.out).mono ?_); (case side1 => repeat (first | exact (Kd.R_reads' HO_5.out).2.2 | (with_reducible refine Kd.C_alloc ?_ _) | (with_reducible refine Kd.C_drewN ?_ _) | (with_reducible refine Kd.C_drew ?_))); (case side2 => exact (Kd.R_reads' HO_5.out).2.1); (case side3 => repeat (first | exact (Kd.R_reads' HO798.out).2.2 | (with_reducible refine Kd.C_alloc ?_ _) | (with_reducible refine Kd.C_drewN ?_ _) | (with_reducible refine Kd.C_drew ?_))); (case side4 => exact (Kd.R_reads' HO798.out).2.1); rintro e w' ⟨rfl, ⟨nd, rfl⟩⟩; (try first | exact ⟨rfl, _, World.drewN_drewN _ _ _⟩ | exact ⟨rfl, _, Eq.trans (World.drewN_drewN _ _ _) (congrArg (World.drewN _) (Nat.add_assoc _ _ _))⟩))))
                            go_ret
                            exact ⟨by first | rfl | (simp [errW_none, errW_some] <;> rfl) | (simp [*, errW_none, errW_some] <;> rfl), by repeat (first | (with_reducible first | exact HB.out | apply below_alloc | apply pw_below_drewN | apply below_drew1) | exact HB.out)⟩
                          · rw [if_neg c60] at H
                            have c60b0 : (t796 == 0) = false := beq_eq_false_iff_ne.mpr c60
                            have c60b1 : (t796 != 0) = true := bne_iff_ne.mpr c60
                            exact absurd ((Option.some.inj H).trans hrt.out) (by decide)
            · rw [if_neg c12] at H
              have c12b0 : ((l1.length : Int) == (l0.length : Int)) = false := beq_eq_false_iff_ne.mpr c12
              have c12b1 : ((l1.length : Int) != (l0.length : Int)) = true := bne_iff_ne.mpr c12
              have c12b2 : (l1.length == l0.length) = false := by first | simpa using c12 | (simp at c12 ⊢; omega)
              exact absurd ((Option.some.inj H).trans hrt.out) (by decide)
          · rw [if_neg c11] at H
            have c11b0 : (t769 == 0) = false := beq_eq_false_iff_ne.mpr c11
            have c11b1 : (t769 != 0) = true := bne_iff_ne.mpr c11
            obtain rfl := Option.some.inj H
            go_wp2_with (first | (go_at_call 42; (with_reducible refine (average_Counted.calls _ _ l0 _ _ l1 t768 t769 _ ?side1 ?side2 ?side3 ?side4 A10.out).mono ?_); (case side1 => repeat (first | exact (Kd.C_below HR0.out HB.out) | (with_reducible refine Kd.C_alloc ?_ _) | (with_reducible refine Kd.C_drewN ?_ _) | (with_reducible refine Kd.C_drew ?_))); (case side2 => exact HC0.out); (case side3 => repeat (first | exact (Kd.C_below HR1.out HB.out) | (with_reducible refine Kd.C_alloc ?_ _) | (with_reducible refine Kd.C_drewN ?_ _) | (with_reducible refine Kd.C_drew ?_))); (case side4 => exact HC1.out); rintro e w65 ⟨v770, rfl, ho0, hb⟩; have n0_ := Aside0.mk (Kd.R_lower ho0 (below_size (by repeat (first | (with_reducible first | exact HB.out | apply below_alloc | apply pw_below_drewN | apply below_drew1) | exact HB.out)))); have n1_ := Aside0.mk (below_step (by repeat (first | (with_reducible first | exact HB.out | apply below_alloc | apply pw_below_drewN | apply below_drew1) | exact HB.out)) hb); clear HB; have HO771 := n0_; have HB := n1_; clear n0_ n1_; (try clear hb); (try clear hb2); (try clear hk); (try clear hi); (try clear ho0); obtain ⟨Ao66, co66, eo66⟩ := Kd.R_slice HO771.out; subst eo66))
            repeat (go_quiet (first | (go_at_call 42; (with_reducible refine (average_Counted.calls _ _ l0 _ _ l1 t768 t769 _ ?side1 ?side2 ?side3 ?side4 A10.out).mono ?_); (case side1 => repeat (first | exact (Kd.C_below HR0.out HB.out) | (with_reducible refine Kd.C_alloc ?_ _) | (with_reducible refine Kd.C_drewN ?_ _) | (with_reducible refine Kd.C_drew ?_))); (case side2 => exact HC0.out); (case side3 => repeat (first | exact (Kd.C_below HR1.out HB.out) | (with_reducible refine Kd.C_alloc ?_ _) | (with_reducible refine Kd.C_drewN ?_ _) | (with_reducible refine Kd.C_drew ?_))); (case side4 => exact HC1.out); rintro e w65 ⟨v770, rfl, ho0, hb⟩; have n0_ := Aside0.mk (Kd.R_lower ho0 (below_size (by repeat (first | (with_reducible first | exact HB.out | apply below_alloc | apply pw_below_drewN | apply below_drew1) | exact HB.out)))); have n1_ := Aside0.mk (below_step (by repeat (first | (with_reducible first | exact HB.out | apply below_alloc | apply pw_below_drewN | apply below_drew1) | exact HB.out)) hb); clear HB; have HO771 := n0_; have HB := n1_; clear n0_ n1_; (try clear hb); (try clear hb2); (try clear hk); (try clear hi); (try clear ho0); obtain ⟨Ao66, co66, eo66⟩ := Kd.R_slice HO771.out; subst eo66)); try go_wp2_with (first | (go_at_call 42; (with_reducible refine (average_Counted.calls _ _ l0 _ _ l1 t768 t769 _ ?side1 ?side2 ?side3 ?side4 A10.out).mono ?_); (case side1 => repeat (first | exact (Kd.C_below HR0.out HB.out) | (with_reducible refine Kd.C_alloc ?_ _) | (with_reducible refine Kd.C_drewN ?_ _) | (with_reducible refine Kd.C_drew ?_))); (case side2 => exact HC0.out); (case side3 => repeat (first | exact (Kd.C_below HR1.out HB.out) | (with_reducible refine Kd.C_alloc ?_ _) | (with_reducible refine Kd.C_drewN ?_ _) | (with_reducible refine Kd.C_drew ?_))); (case side4 => exact HC1.out); rintro e w65 ⟨v770, rfl, ho0, hb⟩; have n0_ := Aside0.mk (Kd.R_lower ho0 (below_size (by repeat (first | (with_reducible first | exact HB.out | apply below_alloc | apply pw_below_drewN | apply below_drew1) | exact HB.out)))); have n1_ := Aside0.mk (below_step (by repeat (first | (with_reducible first | exact HB.out | apply below_alloc | apply pw_below_drewN | apply below_drew1) | exact HB.out)) hb); clear HB; have HO771 := n0_; have HB := n1_; clear n0_ n1_; (try clear hb); (try clear hb2); (try clear hk); (try clear hi); (try clear ho0); obtain ⟨Ao66, co66, eo66⟩ := Kd.R_slice HO771.out; subst eo66)))
            go_ret
            exact ⟨by first | rfl | (simp [errW_none, errW_some] <;> rfl) | (simp [*, errW_none, errW_some] <;> rfl), by repeat (first | (with_reducible first | exact HB.out | apply below_alloc | apply pw_below_drewN | apply below_drew1) | exact HB.out)⟩
  · replace c4 := Bool.eq_false_iff.mpr c4
    subst c4
    have H1 : (some false) = some r := by rw [if_neg (show ¬ (false = true) by decide)] at H; exact H
    clear H
    have H := H1
    clear H1
    exact absurd ((Option.some.inj H).trans hrt.out) (by decide)

end Go.Proofs.Ytgoicalffgehoaa.P
