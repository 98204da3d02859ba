/- Contracts of Go functions and the plain Lean functions that they compute, laid by this session's own program (wip/printall.sh). Conditions: as each theorem states them. -/
import Derived.Test.YtgoicalffgehoaaP0
import Derived.Test.YtgoicalffgehoaaP1
import Derived.Test.YtgoicalffgehoaaCSan
import Derived.Test.YtgoicalffgehoaaERat
namespace Go.Proofs.Ytgoicalffgehoaa.P
open Go.RowKit Go.Proofs.YtgoicalffgehoaaW.PrintWords Go.Proofs.YtgoicalffgehoaaW.PrintLast Go.Proofs.YtgoicalffgehoaaW.PrintMore
attribute [local go_sem] max2_int min2_int max_two min_two max_three min_three max_four min_four   -- for this text's walks alone
set_option linter.unusedVariables false
set_option linter.unusedSimpArgs false

attribute [local go_sem high] eqA23
/-! ### sizarlaw05_RatioOrder: function 9 -/
mutual
def sizarlaw05_RatioOrder.j0 : Nat → Bool → Int → Int → Int → Int → Int → Int → Option (Bool)
  | 0, _, _, _, _, _, _, _ => none
  | k + 1, x37, x490000, x490001, x491000, x491001, x492000, x492001 => if x37 = true then (some true) else ((ratio_Compare.f x490000 x490001 x491000 x491001).bind fun bt496 => ((ratio_Compare.f x491000 x491001 x490000 x490001).bind fun bt498 => ((ratio_Compare.f x491000 x491001 x492000 x492001).bind fun bt500 => ((ratio_Compare.f x490000 x490001 x492000 x492001).bind fun bt502 => (if bt496.2 = 0 then (if bt498.2 = 0 then (if bt500.2 = 0 then (if bt502.2 = 0 then (if bt496.1 = (wrap64 (-bt498.1)) then (if bt496.1 < (-1) then (sizarlaw05_RatioOrder.j1 k bt496.1 true x490000 x490001 x491000 x491001 x492000 x492001) else (if bt496.1 > 1 then (sizarlaw05_RatioOrder.j1 k bt496.1 true x490000 x490001 x491000 x491001 x492000 x492001) else (if ((bt496.1 == 0) != (x490000 == x491000 && (x490001 == x491001))) = true then (sizarlaw05_RatioOrder.j1 k bt496.1 true x490000 x490001 x491000 x491001 x492000 x492001) else (if bt496.1 ≤ 0 then (if bt500.1 ≤ 0 then (if bt502.1 > 0 then (sizarlaw05_RatioOrder.j1 k bt496.1 true x490000 x490001 x491000 x491001 x492000 x492001) else (if bt496.1 < 0 then (sizarlaw05_RatioOrder.j1 k bt496.1 (decide (bt502.1 ≥ 0)) x490000 x490001 x491000 x491001 x492000 x492001) else (sizarlaw05_RatioOrder.j1 k bt496.1 false x490000 x490001 x491000 x491001 x492000 x492001))) else (if bt496.1 < 0 then (sizarlaw05_RatioOrder.j1 k bt496.1 false x490000 x490001 x491000 x491001 x492000 x492001) else (sizarlaw05_RatioOrder.j1 k bt496.1 false x490000 x490001 x491000 x491001 x492000 x492001))) else (if bt496.1 < 0 then (if bt500.1 ≤ 0 then (sizarlaw05_RatioOrder.j1 k bt496.1 (decide (bt502.1 ≥ 0)) x490000 x490001 x491000 x491001 x492000 x492001) else (sizarlaw05_RatioOrder.j1 k bt496.1 false x490000 x490001 x491000 x491001 x492000 x492001)) else (sizarlaw05_RatioOrder.j1 k bt496.1 false x490000 x490001 x491000 x491001 x492000 x492001)))))) else (sizarlaw05_RatioOrder.j1 k bt496.1 true x490000 x490001 x491000 x491001 x492000 x492001)) else (sizarlaw05_RatioOrder.j1 k bt496.1 true x490000 x490001 x491000 x491001 x492000 x492001)) else (sizarlaw05_RatioOrder.j1 k bt496.1 true x490000 x490001 x491000 x491001 x492000 x492001)) else (sizarlaw05_RatioOrder.j1 k bt496.1 true x490000 x490001 x491000 x491001 x492000 x492001)) else (sizarlaw05_RatioOrder.j1 k bt496.1 true x490000 x490001 x491000 x491001 x492000 x492001))))))
def sizarlaw05_RatioOrder.j1 : Nat → Int → Bool → Int → Int → Int → Int → Int → Int → Option (Bool)
  | 0, _, _, _, _, _, _, _, _ => none
  | k + 1, x7, x121, x490000, x490001, x491000, x491001, x492000, x492001 => if x121 = true then (some false) else ((ratio_Add.f x490000 x490001 x492000 x492001).bind fun bt504 => ((ratio_Add.f x491000 x491001 x492000 x492001).bind fun bt508 => (if bt504.2.2 = 0 then (sizarlaw05_RatioOrder.j2 k x7 (bt508.2.2 == 0) x490000 x490001 x491000 x491001 x492000 x492001 bt504.1 bt504.2.1 bt508.1 bt508.2.1) else (sizarlaw05_RatioOrder.j2 k x7 false x490000 x490001 x491000 x491001 x492000 x492001 bt504.1 bt504.2.1 bt508.1 bt508.2.1))))
def sizarlaw05_RatioOrder.j2 : Nat → Int → Bool → Int → Int → Int → Int → Int → Int → Int → Int → Int → Int → Option (Bool)
  | 0, _, _, _, _, _, _, _, _, _, _, _, _ => none
  | k + 1, x7, x139, x490000, x490001, x491000, x491001, x492000, x492001, x508000, x508001, x512000, x512001 => if x139 = true then ((ratio_Compare.f x508000 x508001 x512000 x512001).bind fun bt512 => (if bt512.2 = 0 then (if bt512.1 = x7 then (sizarlaw05_RatioOrder.j3 k x7 x490000 x490001 x491000 x491001 x492000 x492001) else (some false)) else (some false))) else (sizarlaw05_RatioOrder.j3 k x7 x490000 x490001 x491000 x491001 x492000 x492001)
def sizarlaw05_RatioOrder.j3 : Nat → Int → Int → Int → Int → Int → Int → Int → Option (Bool)
  | 0, _, _, _, _, _, _, _ => none
  | k + 1, x7, x490000, x490001, x491000, x491001, x492000, x492001 => (ratio_Mul.f x490000 x490001 x492000 x492001).bind fun bt514 => ((ratio_Mul.f x491000 x491001 x492000 x492001).bind fun bt517 => (if bt514.2.2 = 0 then (if bt517.2.2 = 0 then (sizarlaw05_RatioOrder.j4 k x7 (decide (x492000 > 0)) bt514.1 bt514.2.1 bt517.1 bt517.2.1) else (sizarlaw05_RatioOrder.j4 k x7 false bt514.1 bt514.2.1 bt517.1 bt517.2.1)) else (sizarlaw05_RatioOrder.j4 k x7 false bt514.1 bt514.2.1 bt517.1 bt517.2.1)))
def sizarlaw05_RatioOrder.j4 : Nat → Int → Bool → Int → Int → Int → Int → Option (Bool)
  | 0, _, _, _, _, _, _ => none
  | k + 1, x7, x175, x508000, x508001, x512000, x512001 => if x175 = true then ((ratio_Compare.f x508000 x508001 x512000 x512001).bind fun bt520 => (if bt520.2 = 0 then (if bt520.1 = x7 then (some true) else (some false)) else (some false))) else (some true)
end
def sizarlaw05_RatioOrder.f (k : Nat) (a0_0 : Int) (a0_1 : Int) (a1_0 : Int) (a1_1 : Int) (a2_0 : Int) (a2_1 : Int) : Option (Bool) := (sizarlaw05_saneC.f).bind fun t492 => (if t492 = true then ((ratio_CheckC.f a0_0 a0_1).bind fun t493 => (if t493 = 0 then ((ratio_CheckC.f a1_0 a1_1).bind fun t494 => (if t494 = 0 then ((ratio_CheckC.f a2_0 a2_1).bind fun t495 => (sizarlaw05_RatioOrder.j0 k (t495 != 0) a0_0 a0_1 a1_0 a1_1 a2_0 a2_1)) else (sizarlaw05_RatioOrder.j0 k true a0_0 a0_1 a1_0 a1_1 a2_0 a2_1))) else (sizarlaw05_RatioOrder.j0 k true a0_0 a0_1 a1_0 a1_1 a2_0 a2_1))) else (some false))
theorem sizarlaw05_RatioOrder.mono_l : ∀ k, (∀ y0 y1 y2 y3 y4 y5 y6, LeO (sizarlaw05_RatioOrder.j0 k y0 y1 y2 y3 y4 y5 y6) (sizarlaw05_RatioOrder.j0 (k + 1) y0 y1 y2 y3 y4 y5 y6)) ∧ (∀ y0 y1 y2 y3 y4 y5 y6 y7, LeO (sizarlaw05_RatioOrder.j1 k y0 y1 y2 y3 y4 y5 y6 y7) (sizarlaw05_RatioOrder.j1 (k + 1) y0 y1 y2 y3 y4 y5 y6 y7)) ∧ (∀ y0 y1 y2 y3 y4 y5 y6 y7 y8 y9 y10 y11, LeO (sizarlaw05_RatioOrder.j2 k y0 y1 y2 y3 y4 y5 y6 y7 y8 y9 y10 y11) (sizarlaw05_RatioOrder.j2 (k + 1) y0 y1 y2 y3 y4 y5 y6 y7 y8 y9 y10 y11)) ∧ (∀ y0 y1 y2 y3 y4 y5 y6, LeO (sizarlaw05_RatioOrder.j3 k y0 y1 y2 y3 y4 y5 y6) (sizarlaw05_RatioOrder.j3 (k + 1) y0 y1 y2 y3 y4 y5 y6)) ∧ (∀ y0 y1 y2 y3 y4 y5, LeO (sizarlaw05_RatioOrder.j4 k y0 y1 y2 y3 y4 y5) (sizarlaw05_RatioOrder.j4 (k + 1) y0 y1 y2 y3 y4 y5))
  | 0 => ⟨fun _ _ _ _ _ _ _ r h => by simp [sizarlaw05_RatioOrder.j0] at h, fun _ _ _ _ _ _ _ _ r h => by simp [sizarlaw05_RatioOrder.j1] at h, fun _ _ _ _ _ _ _ _ _ _ _ _ r h => by simp [sizarlaw05_RatioOrder.j2] at h, fun _ _ _ _ _ _ _ r h => by simp [sizarlaw05_RatioOrder.j3] at h, fun _ _ _ _ _ _ r h => by simp [sizarlaw05_RatioOrder.j4] at h⟩
  | k + 1 => by
    obtain ⟨ih0, ih1, ih2, ih3, ih4⟩ := sizarlaw05_RatioOrder.mono_l k
    refine ⟨?_, ?_, ?_, ?_, ?_⟩
    · intro y0 y1 y2 y3 y4 y5 y6
      unfold sizarlaw05_RatioOrder.j0
      repeat' first
      | (with_reducible exact ih0 _ _ _ _ _ _ _)
      | (with_reducible exact ih1 _ _ _ _ _ _ _ _)
      | (with_reducible exact ih2 _ _ _ _ _ _ _ _ _ _ _ _)
      | (with_reducible exact ih3 _ _ _ _ _ _ _)
      | (with_reducible exact ih4 _ _ _ _ _ _)
      | (with_reducible exact LeO.refl _)
      | (with_reducible exact LeO.none _)
      | (with_reducible refine LeO.ite ?_ ?_)
      | (with_reducible refine LeO.bind ?_ (fun _ => ?_))
      | exact ih0 _ _ _ _ _ _ _
      | exact ih1 _ _ _ _ _ _ _ _
      | exact ih2 _ _ _ _ _ _ _ _ _ _ _ _
      | exact ih3 _ _ _ _ _ _ _
      | exact ih4 _ _ _ _ _ _
      | exact LeO.none _
      | refine LeO.ite ?_ ?_
      | refine LeO.bind ?_ (fun _ => ?_)
    · intro y0 y1 y2 y3 y4 y5 y6 y7
      unfold sizarlaw05_RatioOrder.j1
      repeat' first
      | (with_reducible exact ih0 _ _ _ _ _ _ _)
      | (with_reducible exact ih1 _ _ _ _ _ _ _ _)
      | (with_reducible exact ih2 _ _ _ _ _ _ _ _ _ _ _ _)
      | (with_reducible exact ih3 _ _ _ _ _ _ _)
      | (with_reducible exact ih4 _ _ _ _ _ _)
      | (with_reducible exact LeO.refl _)
      | (with_reducible exact LeO.none _)
      | (with_reducible refine LeO.ite ?_ ?_)
      | (with_reducible refine LeO.bind ?_ (fun _ => ?_))
      | exact ih0 _ _ _ _ _ _ _
      | exact ih1 _ _ _ _ _ _ _ _
      | exact ih2 _ _ _ _ _ _ _ _ _ _ _ _
      | exact ih3 _ _ _ _ _ _ _
      | exact ih4 _ _ _ _ _ _
      | exact LeO.none _
      | refine LeO.ite ?_ ?_
      | refine LeO.bind ?_ (fun _ => ?_)
    · intro y0 y1 y2 y3 y4 y5 y6 y7 y8 y9 y10 y11
      unfold sizarlaw05_RatioOrder.j2
      repeat' first
      | (with_reducible exact ih0 _ _ _ _ _ _ _)
      | (with_reducible exact ih1 _ _ _ _ _ _ _ _)
      | (with_reducible exact ih2 _ _ _ _ _ _ _ _ _ _ _ _)
      | (with_reducible exact ih3 _ _ _ _ _ _ _)
      | (with_reducible exact ih4 _ _ _ _ _ _)
      | (with_reducible exact LeO.refl _)
      | (with_reducible exact LeO.none _)
      | (with_reducible refine LeO.ite ?_ ?_)
      | (with_reducible refine LeO.bind ?_ (fun _ => ?_))
      | exact ih0 _ _ _ _ _ _ _
      | exact ih1 _ _ _ _ _ _ _ _
      | exact ih2 _ _ _ _ _ _ _ _ _ _ _ _
      | exact ih3 _ _ _ _ _ _ _
      | exact ih4 _ _ _ _ _ _
      | exact LeO.none _
      | refine LeO.ite ?_ ?_
      | refine LeO.bind ?_ (fun _ => ?_)
    · intro y0 y1 y2 y3 y4 y5 y6
      unfold sizarlaw05_RatioOrder.j3
      repeat' first
      | (with_reducible exact ih0 _ _ _ _ _ _ _)
      | (with_reducible exact ih1 _ _ _ _ _ _ _ _)
      | (with_reducible exact ih2 _ _ _ _ _ _ _ _ _ _ _ _)
      | (with_reducible exact ih3 _ _ _ _ _ _ _)
      | (with_reducible exact ih4 _ _ _ _ _ _)
      | (with_reducible exact LeO.refl _)
      | (with_reducible exact LeO.none _)
      | (with_reducible refine LeO.ite ?_ ?_)
      | (with_reducible refine LeO.bind ?_ (fun _ => ?_))
      | exact ih0 _ _ _ _ _ _ _
      | exact ih1 _ _ _ _ _ _ _ _
      | exact ih2 _ _ _ _ _ _ _ _ _ _ _ _
      | exact ih3 _ _ _ _ _ _ _
      | exact ih4 _ _ _ _ _ _
      | exact LeO.none _
      | refine LeO.ite ?_ ?_
      | refine LeO.bind ?_ (fun _ => ?_)
    · intro y0 y1 y2 y3 y4 y5
      unfold sizarlaw05_RatioOrder.j4
      repeat' first
      | (with_reducible exact ih0 _ _ _ _ _ _ _)
      | (with_reducible exact ih1 _ _ _ _ _ _ _ _)
      | (with_reducible exact ih2 _ _ _ _ _ _ _ _ _ _ _ _)
      | (with_reducible exact ih3 _ _ _ _ _ _ _)
      | (with_reducible exact ih4 _ _ _ _ _ _)
      | (with_reducible exact LeO.refl _)
      | (with_reducible exact LeO.none _)
      | (with_reducible refine LeO.ite ?_ ?_)
      | (with_reducible refine LeO.bind ?_ (fun _ => ?_))
      | exact ih0 _ _ _ _ _ _ _
      | exact ih1 _ _ _ _ _ _ _ _
      | exact ih2 _ _ _ _ _ _ _ _ _ _ _ _
      | exact ih3 _ _ _ _ _ _ _
      | exact ih4 _ _ _ _ _ _
      | exact LeO.none _
      | refine LeO.ite ?_ ?_
      | refine LeO.bind ?_ (fun _ => ?_)
theorem sizarlaw05_RatioOrder.mono : ∀ a0 a1 a2 a3 a4 a5 k, LeO (sizarlaw05_RatioOrder.f k a0 a1 a2 a3 a4 a5) (sizarlaw05_RatioOrder.f (k + 1) a0 a1 a2 a3 a4 a5) := by
  intro a0 a1 a2 a3 a4 a5 k
  obtain ⟨ih0, ih1, ih2, ih3, ih4⟩ := sizarlaw05_RatioOrder.mono_l k
  unfold sizarlaw05_RatioOrder.f
  repeat' first
      | (with_reducible exact ih0 _ _ _ _ _ _ _)
      | (with_reducible exact ih1 _ _ _ _ _ _ _ _)
      | (with_reducible exact ih2 _ _ _ _ _ _ _ _ _ _ _ _)
      | (with_reducible exact ih3 _ _ _ _ _ _ _)
      | (with_reducible exact ih4 _ _ _ _ _ _)
      | (with_reducible exact LeO.refl _)
      | (with_reducible exact LeO.none _)
      | (with_reducible refine LeO.ite ?_ ?_)
      | (with_reducible refine LeO.bind ?_ (fun _ => ?_))
      | exact ih0 _ _ _ _ _ _ _
      | exact ih1 _ _ _ _ _ _ _ _
      | exact ih2 _ _ _ _ _ _ _ _ _ _ _ _
      | exact ih3 _ _ _ _ _ _ _
      | exact ih4 _ _ _ _ _ _
      | exact LeO.none _
      | refine LeO.ite ?_ ?_
      | refine LeO.bind ?_ (fun _ => ?_)
set_option maxHeartbeats 8000000 in
set_option maxRecDepth 100000 in
theorem sizarlaw05_RatioOrder.calls (k : Nat) (a0_0 : Int) (a0_1 : Int) (a1_0 : Int) (a1_1 : Int) (a2_0 : Int) (a2_1 : Int) (r : Bool) (w : World) (hrt : Aside0 (r = true)) (h : sizarlaw05_RatioOrder.f k a0_0 a0_1 a1_0 a1_1 a2_0 a2_1 = some r) :
    Calls Try.prog 9 #[.agg #[.int .i64 a0_0, .int .i64 a0_1], .agg #[.int .i64 a1_0, .int .i64 a1_1], .agg #[.int .i64 a2_0, .int .i64 a2_1]] w fun e w' => e = .returned (.bool r) ∧ Below w.heap.size w w' := by
  have hu23 := Try.underlying23
  have HB := Aside0.mk (Below.refl w.heap.size w)
  have H : ((sizarlaw05_saneC.f).bind fun t492 => (if t492 = true then ((ratio_CheckC.f a0_0 a0_1).bind fun t493 => (if t493 = 0 then ((ratio_CheckC.f a1_0 a1_1).bind fun t494 => (if t494 = 0 then ((ratio_CheckC.f a2_0 a2_1).bind fun t495 => (sizarlaw05_RatioOrder.j0 k (t495 != 0) a0_0 a0_1 a1_0 a1_1 a2_0 a2_1)) else (sizarlaw05_RatioOrder.j0 k true a0_0 a0_1 a1_0 a1_1 a2_0 a2_1))) else (sizarlaw05_RatioOrder.j0 k true a0_0 a0_1 a1_0 a1_1 a2_0 a2_1))) else (some false))) = some r := h
  clear h
  replace H := Option.bind_eq_some_iff.mp H
  obtain ⟨t492, A40, H⟩ := H
  replace H : (if t492 = true then ((ratio_CheckC.f a0_0 a0_1).bind fun t493 => (if t493 = 0 then ((ratio_CheckC.f a1_0 a1_1).bind fun t494 => (if t494 = 0 then ((ratio_CheckC.f a2_0 a2_1).bind fun t495 => (sizarlaw05_RatioOrder.j0 k (t495 != 0) a0_0 a0_1 a1_0 a1_1 a2_0 a2_1)) else (sizarlaw05_RatioOrder.j0 k true a0_0 a0_1 a1_0 a1_1 a2_0 a2_1))) else (sizarlaw05_RatioOrder.j0 k true a0_0 a0_1 a1_0 a1_1 a2_0 a2_1))) else (some false)) = some r := H
  have A4 := Aside0.mk A40
  clear A40
  by_cases c5 : t492 = true
  · subst c5
    have H1 : ((ratio_CheckC.f a0_0 a0_1).bind fun t493 => (if t493 = 0 then ((ratio_CheckC.f a1_0 a1_1).bind fun t494 => (if t494 = 0 then ((ratio_CheckC.f a2_0 a2_1).bind fun t495 => (sizarlaw05_RatioOrder.j0 k (t495 != 0) a0_0 a0_1 a1_0 a1_1 a2_0 a2_1)) else (sizarlaw05_RatioOrder.j0 k true a0_0 a0_1 a1_0 a1_1 a2_0 a2_1))) else (sizarlaw05_RatioOrder.j0 k true a0_0 a0_1 a1_0 a1_1 a2_0 a2_1))) = some r := by rw [if_pos rfl] at H; exact H
    clear H
    have H := H1
    clear H1
    have HC6 := Aside0.mk H
    clear H
    go_enter Try.func9, Try.ntmps9
    go_upto_region 3 with (first | ((with_reducible refine gate_dst (N := 3) rfl ?_); refine box_event ?hg (N := 3) ?hd (cs := #[.int .i64 a0_0, .int .i64 a0_1]) (t := 23) ?hr ?_; (case hd => rfl); (case hg => rfl); (case hr => first | (go_simp; done) | (go_simp; rfl)); intro gb489 hg w7 hbox hb; have n0_ := Aside0.mk (below_step (by repeat (first | (with_reducible first | exact HB.out | apply below_alloc | apply pw_below_drewN | apply below_drew1) | exact HB.out)) hb); have n1_ := Aside0.mk (hbox); have n2_ := Aside0.mk ((by rw [hg]; exact (below_size (by repeat (first | (with_reducible first | exact HB.out | apply below_alloc | apply pw_below_drewN | apply below_drew1) | exact HB.out))) : w.heap.size ≤ gb489)); have n3_ := Aside0.mk ((by rw [hg]; exact (below_size (by repeat (first | (with_reducible first | exact HB.out | apply below_alloc | apply pw_below_drewN | apply below_drew1) | exact HB.out))) : w.heap.size ≤ gb489)); clear HB; have HB := n0_; have BK489 := n1_; have GW489 := n2_; have GE489 := n3_; clear n0_ n1_ n2_ n3_; clear hb hbox hg) | ((with_reducible refine gate_dst (N := 4) rfl ?_); refine box_event ?hg (N := 4) ?hd (cs := #[.int .i64 a1_0, .int .i64 a1_1]) (t := 23) ?hr ?_; (case hd => rfl); (case hg => rfl); (case hr => first | (go_simp; done) | (go_simp; rfl)); intro gb490 hg w8 hbox hb; have n0_ := Aside0.mk (blk_below (g := gb489) (o := .cells #[.int .i64 a0_0, .int .i64 a0_1] 23 (0, 0)) (by (with_reducible repeat (first | refine blk_drewN ?_ _ | refine blk_drew ?_ | refine blk_alloc ?_ _)); exact BK489.out) hb); have n1_ := Aside0.mk (below_step (by repeat (first | (with_reducible first | exact HB.out | apply below_alloc | apply pw_below_drewN | apply below_drew1 | refine below_set ?_ GE489.out) | exact HB.out)) hb); have n2_ := Aside0.mk (hbox); have n3_ := Aside0.mk ((by rw [hg]; exact (below_size (by repeat (first | (with_reducible first | exact HB.out | apply below_alloc | apply pw_below_drewN | apply below_drew1 | refine below_set ?_ GE489.out) | exact HB.out))) : w.heap.size ≤ gb490)); have n4_ := Aside0.mk ((by rw [hg]; exact (below_size (by repeat (first | (with_reducible first | exact HB.out | apply below_alloc | apply pw_below_drewN | apply below_drew1 | refine below_set ?_ GE489.out) | exact HB.out))) : w.heap.size ≤ gb490)); have n5_ := Aside0.mk ((by rw [hg]; exact Nat.ne_of_lt (blk_lt (g := gb489) (o := .cells #[.int .i64 a0_0, .int .i64 a0_1] 23 (0, 0)) (by (with_reducible repeat (first | refine blk_drewN ?_ _ | refine blk_drew ?_ | refine blk_alloc ?_ _)); exact BK489.out)) : gb489 ≠ gb490)); have n6_ := Aside0.mk ((by rw [hg]; exact Nat.ne_of_gt (blk_lt (g := gb489) (o := .cells #[.int .i64 a0_0, .int .i64 a0_1] 23 (0, 0)) (by (with_reducible repeat (first | refine blk_drewN ?_ _ | refine blk_drew ?_ | refine blk_alloc ?_ _)); exact BK489.out)) : gb490 ≠ gb489)); clear BK489; clear HB; have BK489 := n0_; have HB := n1_; have BK490 := n2_; have GW490 := n3_; have GE490 := n4_; have NB489_490 := n5_; have NB490_489 := n6_; clear n0_ n1_ n2_ n3_ n4_ n5_ n6_; clear hb hbox hg) | ((with_reducible refine gate_dst (N := 5) rfl ?_); refine box_event ?hg (N := 5) ?hd (cs := #[.int .i64 a2_0, .int .i64 a2_1]) (t := 23) ?hr ?_; (case hd => rfl); (case hg => rfl); (case hr => first | (go_simp; done) | (go_simp; rfl)); intro gb491 hg w9 hbox hb; have n0_ := Aside0.mk (blk_below (g := gb489) (o := .cells #[.int .i64 a0_0, .int .i64 a0_1] 23 (0, 0)) (by (with_reducible repeat (first | refine blk_drewN ?_ _ | refine blk_drew ?_ | refine blk_alloc ?_ _)); exact BK489.out) hb); have n1_ := Aside0.mk (blk_below (g := gb490) (o := .cells #[.int .i64 a1_0, .int .i64 a1_1] 23 (0, 0)) (by (with_reducible repeat (first | refine blk_drewN ?_ _ | refine blk_drew ?_ | refine blk_alloc ?_ _)); exact BK490.out) hb); have n2_ := Aside0.mk (below_step (by repeat (first | (with_reducible first | exact HB.out | apply below_alloc | apply pw_below_drewN | apply below_drew1 | refine below_set ?_ GE489.out | refine below_set ?_ GE490.out) | exact HB.out)) hb); have n3_ := Aside0.mk (hbox); have n4_ := Aside0.mk ((by rw [hg]; exact (below_size (by repeat (first | (with_reducible first | exact HB.out | apply below_alloc | apply pw_below_drewN | apply below_drew1 | refine below_set ?_ GE489.out | refine below_set ?_ GE490.out) | exact HB.out))) : w.heap.size ≤ gb491)); have n5_ := Aside0.mk ((by rw [hg]; exact (below_size (by repeat (first | (with_reducible first | exact HB.out | apply below_alloc | apply pw_below_drewN | apply below_drew1 | refine below_set ?_ GE489.out | refine below_set ?_ GE490.out) | exact HB.out))) : w.heap.size ≤ gb491)); have n6_ := Aside0.mk ((by rw [hg]; exact Nat.ne_of_lt (blk_lt (g := gb489) (o := .cells #[.int .i64 a0_0, .int .i64 a0_1] 23 (0, 0)) (by (with_reducible repeat (first | refine blk_drewN ?_ _ | refine blk_drew ?_ | refine blk_alloc ?_ _)); exact BK489.out)) : gb489 ≠ gb491)); have n7_ := Aside0.mk ((by rw [hg]; exact Nat.ne_of_gt (blk_lt (g := gb489) (o := .cells #[.int .i64 a0_0, .int .i64 a0_1] 23 (0, 0)) (by (with_reducible repeat (first | refine blk_drewN ?_ _ | refine blk_drew ?_ | refine blk_alloc ?_ _)); exact BK489.out)) : gb491 ≠ gb489)); have n8_ := Aside0.mk ((by rw [hg]; exact Nat.ne_of_lt (blk_lt (g := gb490) (o := .cells #[.int .i64 a1_0, .int .i64 a1_1] 23 (0, 0)) (by (with_reducible repeat (first | refine blk_drewN ?_ _ | refine blk_drew ?_ | refine blk_alloc ?_ _)); exact BK490.out)) : gb490 ≠ gb491)); have n9_ := Aside0.mk ((by rw [hg]; exact Nat.ne_of_gt (blk_lt (g := gb490) (o := .cells #[.int .i64 a1_0, .int .i64 a1_1] 23 (0, 0)) (by (with_reducible repeat (first | refine blk_drewN ?_ _ | refine blk_drew ?_ | refine blk_alloc ?_ _)); exact BK490.out)) : gb491 ≠ gb490)); clear BK489; clear BK490; clear HB; have BK489 := n0_; have BK490 := n1_; have HB := n2_; have BK491 := n3_; have GW491 := n4_; have GE491 := n5_; have NB489_491 := n6_; have NB491_489 := n7_; have NB490_491 := n8_; have NB491_490 := n9_; clear n0_ n1_ n2_ n3_ n4_ n5_ n6_ n7_ n8_ n9_; clear hb hbox hg) | ((with_reducible refine gate_callee (f := 18) rfl ?_); refine goesL_ (some 23) rfl rfl Try.func18 (by kernel_rfl) rfl #[] rfl (by (try simp only [List.map_toArray, List.map_cons, List.map_nil]); first | done | rfl | (simp only [List.length_drop, List.length_take]; rfl)) ?_; (with_reducible refine (sizarlaw05_saneC.calls  true _ A4.out).mono ?_); rintro e w10 ⟨rfl, hb⟩; refine ⟨_, rfl, ?_⟩; have n0_ := Aside0.mk (blk_below (g := gb489) (o := .cells #[.int .i64 a0_0, .int .i64 a0_1] 23 (0, 0)) (by (with_reducible repeat (first | refine blk_drewN ?_ _ | refine blk_drew ?_ | refine blk_alloc ?_ _)); exact BK489.out) hb); have n1_ := Aside0.mk (blk_below (g := gb490) (o := .cells #[.int .i64 a1_0, .int .i64 a1_1] 23 (0, 0)) (by (with_reducible repeat (first | refine blk_drewN ?_ _ | refine blk_drew ?_ | refine blk_alloc ?_ _)); exact BK490.out) hb); have n2_ := Aside0.mk (blk_below (g := gb491) (o := .cells #[.int .i64 a2_0, .int .i64 a2_1] 23 (0, 0)) (by (with_reducible repeat (first | refine blk_drewN ?_ _ | refine blk_drew ?_ | refine blk_alloc ?_ _)); exact BK491.out) hb); have n3_ := Aside0.mk (below_step (by repeat (first | (with_reducible first | exact HB.out | apply below_alloc | apply pw_below_drewN | apply below_drew1 | refine below_set ?_ GE489.out | refine below_set ?_ GE490.out | refine below_set ?_ GE491.out) | exact HB.out)) hb); clear BK489; clear BK490; clear BK491; clear HB; have BK489 := n0_; have BK490 := n1_; have BK491 := n2_; have HB := n3_; clear n0_ n1_ n2_ n3_; (try clear hb); (try clear hb2); (try clear hk); (try clear hi)))
    (try simp only [Act.put, List.setIfInBounds_toArray, List.set_cons_zero, List.set_cons_succ])
    go_cut [37] (fun v37 wc => ∃ (kq : Nat) (x37_5 : Bool), v37 = .bool x37_5 ∧ Aside0 (sizarlaw05_RatioOrder.j0 kq x37_5 a0_0 a0_1 a1_0 a1_1 a2_0 a2_1 = some r) ∧ Aside0 (kq ≤ k) ∧ Aside0 (wc.heap[gb489]? = some (.cells #[.int .i64 a0_0, .int .i64 a0_1] 23 (0, 0))) ∧ Aside0 (wc.heap[gb490]? = some (.cells #[.int .i64 a1_0, .int .i64 a1_1] 23 (0, 0))) ∧ Aside0 (wc.heap[gb491]? = some (.cells #[.int .i64 a2_0, .int .i64 a2_1] 23 (0, 0))) ∧ Aside0 (Below w.heap.size w wc))
    case first =>
      as_aux_lemma =>
      have H := HC6.out
      clear HC6
      replace H := Option.bind_eq_some_iff.mp H
      obtain ⟨t493, A110, H⟩ := H
      replace H : (if t493 = 0 then ((ratio_CheckC.f a1_0 a1_1).bind fun t494 => (if t494 = 0 then ((ratio_CheckC.f a2_0 a2_1).bind fun t495 => (sizarlaw05_RatioOrder.j0 k (t495 != 0) a0_0 a0_1 a1_0 a1_1 a2_0 a2_1)) else (sizarlaw05_RatioOrder.j0 k true a0_0 a0_1 a1_0 a1_1 a2_0 a2_1))) else (sizarlaw05_RatioOrder.j0 k true a0_0 a0_1 a1_0 a1_1 a2_0 a2_1)) = some r := H
      have A11 := Aside0.mk A110
      clear A110
      by_cases c12 : t493 = 0
      · rw [if_pos c12] at H
        have c12b0 : (t493 == 0) = true := beq_iff_eq.mpr c12
        have c12b1 : (t493 != 0) = false := bne_eq_false_iff_eq.mpr c12
        clear c12
        (first | rw [c12b0] | (simp only [i64_w, i32_w]; rw [c12b0]) | skip)
        replace H := Option.bind_eq_some_iff.mp H
        obtain ⟨t494, A130, H⟩ := H
        replace H : (if t494 = 0 then ((ratio_CheckC.f a2_0 a2_1).bind fun t495 => (sizarlaw05_RatioOrder.j0 k (t495 != 0) a0_0 a0_1 a1_0 a1_1 a2_0 a2_1)) else (sizarlaw05_RatioOrder.j0 k true a0_0 a0_1 a1_0 a1_1 a2_0 a2_1)) = some r := H
        have A13 := Aside0.mk A130
        clear A130
        by_cases c14 : t494 = 0
        · rw [if_pos c14] at H
          have c14b0 : (t494 == 0) = true := beq_iff_eq.mpr c14
          have c14b1 : (t494 != 0) = false := bne_eq_false_iff_eq.mpr c14
          clear c14
          replace H := Option.bind_eq_some_iff.mp H
          obtain ⟨t495, A150, H⟩ := H
          replace H : (sizarlaw05_RatioOrder.j0 k (t495 != 0) a0_0 a0_1 a1_0 a1_1 a2_0 a2_1) = some r := H
          have A15 := Aside0.mk A150
          clear A150
          have H' := Aside0.mk H
          clear H
          have hnb16 := NB489_490.out
          have hnc16 := NB490_489.out
          have hnb17 := NB489_491.out
          have hnc17 := NB491_489.out
          have hcz18_0 : w10.cell? ⟨gb489, 0, none⟩ = some (.int .i64 a0_0) := (blk_cell BK489.out 0).trans rfl
          have hcz18_1 : w10.cell? ⟨gb489, 1, none⟩ = some (.int .i64 a0_1) := (blk_cell BK489.out 1).trans rfl
          have hfz18_0 := blk_frozen BK489.out 0
          have hfz18_1 := blk_frozen BK489.out 1
          go_wp2_with (first | ((with_reducible refine gate_callee (f := 21) rfl ?_); refine goesL_ (some 26) rfl rfl Try.func21 (by kernel_rfl) rfl #[.agg #[.int .i64 a0_0, .int .i64 a0_1]] rfl (by (try simp only [List.map_toArray, List.map_cons, List.map_nil]); first | done | rfl | (simp only [List.length_drop, List.length_take]; rfl)) ?_; (with_reducible refine (ratio_CheckC.calls a0_0 a0_1 t493 _ A11.out).mono ?_); rintro e w19 ⟨rfl, hb⟩; refine ⟨_, rfl, ?_⟩; have n0_ := Aside0.mk (blk_below (g := gb489) (o := .cells #[.int .i64 a0_0, .int .i64 a0_1] 23 (0, 0)) (by (with_reducible repeat (first | refine blk_drewN ?_ _ | refine blk_drew ?_ | refine blk_alloc ?_ _)); exact BK489.out) hb); have n1_ := Aside0.mk (blk_below (g := gb490) (o := .cells #[.int .i64 a1_0, .int .i64 a1_1] 23 (0, 0)) (by (with_reducible repeat (first | refine blk_drewN ?_ _ | refine blk_drew ?_ | refine blk_alloc ?_ _)); exact BK490.out) hb); have n2_ := Aside0.mk (blk_below (g := gb491) (o := .cells #[.int .i64 a2_0, .int .i64 a2_1] 23 (0, 0)) (by (with_reducible repeat (first | refine blk_drewN ?_ _ | refine blk_drew ?_ | refine blk_alloc ?_ _)); exact BK491.out) hb); have n3_ := Aside0.mk (below_step (by repeat (first | (with_reducible first | exact HB.out | apply below_alloc | apply pw_below_drewN | apply below_drew1 | refine below_set ?_ GE489.out | refine below_set ?_ GE490.out | refine below_set ?_ GE491.out) | exact HB.out)) hb); clear BK489; clear BK490; clear BK491; clear HB; have BK489 := n0_; have BK490 := n1_; have BK491 := n2_; have HB := n3_; clear n0_ n1_ n2_ n3_; (try clear hb); (try clear hb2); (try clear hk); (try clear hi); have hnb20 := NB490_491.out; have hnc20 := NB491_490.out; have hcz21_0 : w19.cell? ⟨gb490, 0, none⟩ = some (.int .i64 a1_0) := (blk_cell BK490.out 0).trans rfl; have hcz21_1 : w19.cell? ⟨gb490, 1, none⟩ = some (.int .i64 a1_1) := (blk_cell BK490.out 1).trans rfl; have hfz21_0 := blk_frozen BK490.out 0; have hfz21_1 := blk_frozen BK490.out 1) | (go_at_call 21; (with_reducible refine (ratio_CheckC.calls a1_0 a1_1 t494 _ A13.out).mono ?_); rintro e w22 ⟨rfl, hb⟩; have n0_ := Aside0.mk (blk_below (g := gb489) (o := .cells #[.int .i64 a0_0, .int .i64 a0_1] 23 (0, 0)) (by (with_reducible repeat (first | refine blk_drewN ?_ _ | refine blk_drew ?_ | refine blk_alloc ?_ _)); exact BK489.out) hb); have n1_ := Aside0.mk (blk_below (g := gb490) (o := .cells #[.int .i64 a1_0, .int .i64 a1_1] 23 (0, 0)) (by (with_reducible repeat (first | refine blk_drewN ?_ _ | refine blk_drew ?_ | refine blk_alloc ?_ _)); exact BK490.out) hb); have n2_ := Aside0.mk (blk_below (g := gb491) (o := .cells #[.int .i64 a2_0, .int .i64 a2_1] 23 (0, 0)) (by (with_reducible repeat (first | refine blk_drewN ?_ _ | refine blk_drew ?_ | refine blk_alloc ?_ _)); exact BK491.out) hb); have n3_ := Aside0.mk (below_step (by repeat (first | (with_reducible first | exact HB.out | apply below_alloc | apply pw_below_drewN | apply below_drew1 | refine below_set ?_ GE489.out | refine below_set ?_ GE490.out | refine below_set ?_ GE491.out) | exact HB.out)) hb); clear BK489; clear BK490; clear BK491; clear HB; have BK489 := n0_; have BK490 := n1_; have BK491 := n2_; have HB := n3_; clear n0_ n1_ n2_ n3_; (try clear hb); (try clear hb2); (try clear hk); (try clear hi); have hcz23_0 : w22.cell? ⟨gb491, 0, none⟩ = some (.int .i64 a2_0) := (blk_cell BK491.out 0).trans rfl; have hcz23_1 : w22.cell? ⟨gb491, 1, none⟩ = some (.int .i64 a2_1) := (blk_cell BK491.out 1).trans rfl; have hfz23_0 := blk_frozen BK491.out 0; have hfz23_1 := blk_frozen BK491.out 1) | (go_at_call 21; (with_reducible refine (ratio_CheckC.calls a2_0 a2_1 t495 _ A15.out).mono ?_); rintro e w24 ⟨rfl, hb⟩; have n0_ := Aside0.mk (blk_below (g := gb489) (o := .cells #[.int .i64 a0_0, .int .i64 a0_1] 23 (0, 0)) (by (with_reducible repeat (first | refine blk_drewN ?_ _ | refine blk_drew ?_ | refine blk_alloc ?_ _)); exact BK489.out) hb); have n1_ := Aside0.mk (blk_below (g := gb490) (o := .cells #[.int .i64 a1_0, .int .i64 a1_1] 23 (0, 0)) (by (with_reducible repeat (first | refine blk_drewN ?_ _ | refine blk_drew ?_ | refine blk_alloc ?_ _)); exact BK490.out) hb); have n2_ := Aside0.mk (blk_below (g := gb491) (o := .cells #[.int .i64 a2_0, .int .i64 a2_1] 23 (0, 0)) (by (with_reducible repeat (first | refine blk_drewN ?_ _ | refine blk_drew ?_ | refine blk_alloc ?_ _)); exact BK491.out) hb); have n3_ := Aside0.mk (below_step (by repeat (first | (with_reducible first | exact HB.out | apply below_alloc | apply pw_below_drewN | apply below_drew1 | refine below_set ?_ GE489.out | refine below_set ?_ GE490.out | refine below_set ?_ GE491.out) | exact HB.out)) hb); clear BK489; clear BK490; clear BK491; clear HB; have BK489 := n0_; have BK490 := n1_; have BK491 := n2_; have HB := n3_; clear n0_ n1_ n2_ n3_; (try clear hb); (try clear hb2); (try clear hk); (try clear hi)))
          go_meet
          case rel => exact ⟨_, ((t495 != 0)), (by first | rfl | (simp; done) | (simp [*]; done)), H', ⟨by first | omega | exact Nat.le_refl _⟩, ⟨by (with_reducible repeat (first | refine blk_drewN ?_ _ | refine blk_drew ?_ | refine blk_alloc ?_ _)); exact BK489.out⟩, ⟨by (with_reducible repeat (first | refine blk_drewN ?_ _ | refine blk_drew ?_ | refine blk_alloc ?_ _)); exact BK490.out⟩, ⟨by (with_reducible repeat (first | refine blk_drewN ?_ _ | refine blk_drew ?_ | refine blk_alloc ?_ _)); exact BK491.out⟩, ⟨by repeat (first | (with_reducible first | exact HB.out | apply below_alloc | apply pw_below_drewN | apply below_drew1 | refine below_set ?_ GE489.out | refine below_set ?_ GE490.out | refine below_set ?_ GE491.out) | exact HB.out)⟩⟩
        · rw [if_neg c14] at H
          have c14b0 : (t494 == 0) = false := beq_eq_false_iff_ne.mpr c14
          have c14b1 : (t494 != 0) = true := bne_iff_ne.mpr c14
          have H' := Aside0.mk H
          clear H
          have hnb25 := NB489_490.out
          have hnc25 := NB490_489.out
          have hnb26 := NB489_491.out
          have hnc26 := NB491_489.out
          have hcz27_0 : w10.cell? ⟨gb489, 0, none⟩ = some (.int .i64 a0_0) := (blk_cell BK489.out 0).trans rfl
          have hcz27_1 : w10.cell? ⟨gb489, 1, none⟩ = some (.int .i64 a0_1) := (blk_cell BK489.out 1).trans rfl
          have hfz27_0 := blk_frozen BK489.out 0
          have hfz27_1 := blk_frozen BK489.out 1
          go_wp2_with (first | ((with_reducible refine gate_callee (f := 21) rfl ?_); refine goesL_ (some 26) rfl rfl Try.func21 (by kernel_rfl) rfl #[.agg #[.int .i64 a0_0, .int .i64 a0_1]] rfl (by (try simp only [List.map_toArray, List.map_cons, List.map_nil]); first | done | rfl | (simp only [List.length_drop, List.length_take]; rfl)) ?_; (with_reducible refine (ratio_CheckC.calls a0_0 a0_1 t493 _ A11.out).mono ?_); rintro e w28 ⟨rfl, hb⟩; refine ⟨_, rfl, ?_⟩; have n0_ := Aside0.mk (blk_below (g := gb489) (o := .cells #[.int .i64 a0_0, .int .i64 a0_1] 23 (0, 0)) (by (with_reducible repeat (first | refine blk_drewN ?_ _ | refine blk_drew ?_ | refine blk_alloc ?_ _)); exact BK489.out) hb); have n1_ := Aside0.mk (blk_below (g := gb490) (o := .cells #[.int .i64 a1_0, .int .i64 a1_1] 23 (0, 0)) (by (with_reducible repeat (first | refine blk_drewN ?_ _ | refine blk_drew ?_ | refine blk_alloc ?_ _)); exact BK490.out) hb); have n2_ := Aside0.mk (blk_below (g := gb491) (o := .cells #[.int .i64 a2_0, .int .i64 a2_1] 23 (0, 0)) (by (with_reducible repeat (first | refine blk_drewN ?_ _ | refine blk_drew ?_ | refine blk_alloc ?_ _)); exact BK491.out) hb); have n3_ := Aside0.mk (below_step (by repeat (first | (with_reducible first | exact HB.out | apply below_alloc | apply pw_below_drewN | apply below_drew1 | refine below_set ?_ GE489.out | refine below_set ?_ GE490.out | refine below_set ?_ GE491.out) | exact HB.out)) hb); clear BK489; clear BK490; clear BK491; clear HB; have BK489 := n0_; have BK490 := n1_; have BK491 := n2_; have HB := n3_; clear n0_ n1_ n2_ n3_; (try clear hb); (try clear hb2); (try clear hk); (try clear hi); have hnb29 := NB490_491.out; have hnc29 := NB491_490.out; have hcz30_0 : w28.cell? ⟨gb490, 0, none⟩ = some (.int .i64 a1_0) := (blk_cell BK490.out 0).trans rfl; have hcz30_1 : w28.cell? ⟨gb490, 1, none⟩ = some (.int .i64 a1_1) := (blk_cell BK490.out 1).trans rfl; have hfz30_0 := blk_frozen BK490.out 0; have hfz30_1 := blk_frozen BK490.out 1) | (go_at_call 21; (with_reducible refine (ratio_CheckC.calls a1_0 a1_1 t494 _ A13.out).mono ?_); rintro e w31 ⟨rfl, hb⟩; have n0_ := Aside0.mk (blk_below (g := gb489) (o := .cells #[.int .i64 a0_0, .int .i64 a0_1] 23 (0, 0)) (by (with_reducible repeat (first | refine blk_drewN ?_ _ | refine blk_drew ?_ | refine blk_alloc ?_ _)); exact BK489.out) hb); have n1_ := Aside0.mk (blk_below (g := gb490) (o := .cells #[.int .i64 a1_0, .int .i64 a1_1] 23 (0, 0)) (by (with_reducible repeat (first | refine blk_drewN ?_ _ | refine blk_drew ?_ | refine blk_alloc ?_ _)); exact BK490.out) hb); have n2_ := Aside0.mk (blk_below (g := gb491) (o := .cells #[.int .i64 a2_0, .int .i64 a2_1] 23 (0, 0)) (by (with_reducible repeat (first | refine blk_drewN ?_ _ | refine blk_drew ?_ | refine blk_alloc ?_ _)); exact BK491.out) hb); have n3_ := Aside0.mk (below_step (by repeat (first | (with_reducible first | exact HB.out | apply below_alloc | apply pw_below_drewN | apply below_drew1 | refine below_set ?_ GE489.out | refine below_set ?_ GE490.out | refine below_set ?_ GE491.out) | exact HB.out)) hb); clear BK489; clear BK490; clear BK491; clear HB; have BK489 := n0_; have BK490 := n1_; have BK491 := n2_; have HB := n3_; clear n0_ n1_ n2_ n3_; (try clear hb); (try clear hb2); (try clear hk); (try clear hi)))
          go_meet
          case rel => exact ⟨_, (true), (by first | rfl | (simp; done) | (simp [*]; done)), H', ⟨by first | omega | exact Nat.le_refl _⟩, ⟨by (with_reducible repeat (first | refine blk_drewN ?_ _ | refine blk_drew ?_ | refine blk_alloc ?_ _)); exact BK489.out⟩, ⟨by (with_reducible repeat (first | refine blk_drewN ?_ _ | refine blk_drew ?_ | refine blk_alloc ?_ _)); exact BK490.out⟩, ⟨by (with_reducible repeat (first | refine blk_drewN ?_ _ | refine blk_drew ?_ | refine blk_alloc ?_ _)); exact BK491.out⟩, ⟨by repeat (first | (with_reducible first | exact HB.out | apply below_alloc | apply pw_below_drewN | apply below_drew1 | refine below_set ?_ GE489.out | refine below_set ?_ GE490.out | refine below_set ?_ GE491.out) | exact HB.out)⟩⟩
      · rw [if_neg c12] at H
        have c12b0 : (t493 == 0) = false := beq_eq_false_iff_ne.mpr c12
        have c12b1 : (t493 != 0) = true := bne_iff_ne.mpr c12
        (first | rw [c12b0] | (simp only [i64_w, i32_w]; rw [c12b0]) | skip)
        have H' := Aside0.mk H
        clear H
        have hnb32 := NB489_490.out
        have hnc32 := NB490_489.out
        have hnb33 := NB489_491.out
        have hnc33 := NB491_489.out
        have hcz34_0 : w10.cell? ⟨gb489, 0, none⟩ = some (.int .i64 a0_0) := (blk_cell BK489.out 0).trans rfl
        have hcz34_1 : w10.cell? ⟨gb489, 1, none⟩ = some (.int .i64 a0_1) := (blk_cell BK489.out 1).trans rfl
        have hfz34_0 := blk_frozen BK489.out 0
        have hfz34_1 := blk_frozen BK489.out 1
        go_wp2_with (first | ((with_reducible refine gate_callee (f := 21) rfl ?_); refine goesL_ (some 26) rfl rfl Try.func21 (by kernel_rfl) rfl #[.agg #[.int .i64 a0_0, .int .i64 a0_1]] rfl (by (try simp only [List.map_toArray, List.map_cons, List.map_nil]); first | done | rfl | (simp only [List.length_drop, List.length_take]; rfl)) ?_; (with_reducible refine (ratio_CheckC.calls a0_0 a0_1 t493 _ A11.out).mono ?_); rintro e w35 ⟨rfl, hb⟩; refine ⟨_, rfl, ?_⟩; have n0_ := Aside0.mk (blk_below (g := gb489) (o := .cells #[.int .i64 a0_0, .int .i64 a0_1] 23 (0, 0)) (by (with_reducible repeat (first | refine blk_drewN ?_ _ | refine blk_drew ?_ | refine blk_alloc ?_ _)); exact BK489.out) hb); have n1_ := Aside0.mk (blk_below (g := gb490) (o := .cells #[.int .i64 a1_0, .int .i64 a1_1] 23 (0, 0)) (by (with_reducible repeat (first | refine blk_drewN ?_ _ | refine blk_drew ?_ | refine blk_alloc ?_ _)); exact BK490.out) hb); have n2_ := Aside0.mk (blk_below (g := gb491) (o := .cells #[.int .i64 a2_0, .int .i64 a2_1] 23 (0, 0)) (by (with_reducible repeat (first | refine blk_drewN ?_ _ | refine blk_drew ?_ | refine blk_alloc ?_ _)); exact BK491.out) hb); have n3_ := Aside0.mk (below_step (by repeat (first | (with_reducible first | exact HB.out | apply below_alloc | apply pw_below_drewN | apply below_drew1 | refine below_set ?_ GE489.out | refine below_set ?_ GE490.out | refine below_set ?_ GE491.out) | exact HB.out)) hb); clear BK489; clear BK490; clear BK491; clear HB; have BK489 := n0_; have BK490 := n1_; have BK491 := n2_; have HB := n3_; clear n0_ n1_ n2_ n3_; (try clear hb); (try clear hb2); (try clear hk); (try clear hi)))
        go_meet
        case rel => exact ⟨_, (true), (by first | rfl | (simp; done) | (simp [*]; done)), H', ⟨by first | omega | exact Nat.le_refl _⟩, ⟨by (with_reducible repeat (first | refine blk_drewN ?_ _ | refine blk_drew ?_ | refine blk_alloc ?_ _)); exact BK489.out⟩, ⟨by (with_reducible repeat (first | refine blk_drewN ?_ _ | refine blk_drew ?_ | refine blk_alloc ?_ _)); exact BK490.out⟩, ⟨by (with_reducible repeat (first | refine blk_drewN ?_ _ | refine blk_drew ?_ | refine blk_alloc ?_ _)); exact BK491.out⟩, ⟨by repeat (first | (with_reducible first | exact HB.out | apply below_alloc | apply pw_below_drewN | apply below_drew1 | refine below_set ?_ GE489.out | refine below_set ?_ GE490.out | refine below_set ?_ GE491.out) | exact HB.out)⟩⟩
    case rest =>
      as_aux_lemma =>
      clear HC6
      try clear c1
      try clear c2
      try clear p2
      try clear c3
      try clear c5
      try clear c9
      try clear c12
      try clear c12b0
      try clear c12b1
      try clear c14
      try clear c14b0
      try clear c14b1
      try clear c16
      try clear c17
      try clear c18
      try clear c20
      try clear c21
      try clear c25
      try clear c26
      try clear c29
      try clear c32
      try clear c33
      try clear hcz18_0
      try clear hcz18_1
      try clear hcz21_0
      try clear hcz21_1
      try clear hcz23_0
      try clear hcz23_1
      try clear hcz27_0
      try clear hcz27_1
      try clear hcz30_0
      try clear hcz30_1
      try clear hcz34_0
      try clear hcz34_1
      try clear hfz18_0
      try clear hfz18_1
      try clear hfz21_0
      try clear hfz21_1
      try clear hfz23_0
      try clear hfz23_1
      try clear hfz27_0
      try clear hfz27_1
      try clear hfz30_0
      try clear hfz30_1
      try clear hfz34_0
      try clear hfz34_1
      obtain ⟨kq, x37_5, rfl, HA, HJ5, BK489, BK490, BK491, HB⟩ := hcut
      cases kq with
      | zero => exact absurd HA.out (by simp [sizarlaw05_RatioOrder.j0])
      | succ kj5 =>
        have H := HA.out
        clear HA
        simp only [sizarlaw05_RatioOrder.j0] at H
        by_cases c36 : x37_5 = true
        · subst c36
          have H1 : (some true) = some r := by rw [if_pos rfl] at H; exact H
          clear H
          have H := H1
          clear H1
          obtain rfl := Option.some.inj H
          go_wp2
          go_ret
          exact ⟨by first | rfl | (simp [errW_none, errW_some] <;> rfl) | (simp [*, errW_none, errW_some] <;> rfl), by repeat (first | (with_reducible first | exact HB.out | apply below_alloc | apply pw_below_drewN | apply below_drew1 | refine below_set ?_ GE489.out | refine below_set ?_ GE490.out | refine below_set ?_ GE491.out) | exact HB.out)⟩
        · replace c36 := Bool.eq_false_iff.mpr c36
          subst c36
          have H1 : ((ratio_Compare.f a0_0 a0_1 a1_0 a1_1).bind fun bt496 => ((ratio_Compare.f a1_0 a1_1 a0_0 a0_1).bind fun bt498 => ((ratio_Compare.f a1_0 a1_1 a2_0 a2_1).bind fun bt500 => ((ratio_Compare.f a0_0 a0_1 a2_0 a2_1).bind fun bt502 => (if bt496.2 = 0 then (if bt498.2 = 0 then (if bt500.2 = 0 then (if bt502.2 = 0 then (if bt496.1 = (wrap64 (-bt498.1)) then (if bt496.1 < (-1) then (sizarlaw05_RatioOrder.j1 kj5 bt496.1 true a0_0 a0_1 a1_0 a1_1 a2_0 a2_1) else (if bt496.1 > 1 then (sizarlaw05_RatioOrder.j1 kj5 bt496.1 true a0_0 a0_1 a1_0 a1_1 a2_0 a2_1) else (if ((bt496.1 == 0) != (a0_0 == a1_0 && (a0_1 == a1_1))) = true then (sizarlaw05_RatioOrder.j1 kj5 bt496.1 true a0_0 a0_1 a1_0 a1_1 a2_0 a2_1) else (if bt496.1 ≤ 0 then (if bt500.1 ≤ 0 then (if bt502.1 > 0 then (sizarlaw05_RatioOrder.j1 kj5 bt496.1 true a0_0 a0_1 a1_0 a1_1 a2_0 a2_1) else (if bt496.1 < 0 then (sizarlaw05_RatioOrder.j1 kj5 bt496.1 (decide (bt502.1 ≥ 0)) a0_0 a0_1 a1_0 a1_1 a2_0 a2_1) else (sizarlaw05_RatioOrder.j1 kj5 bt496.1 false a0_0 a0_1 a1_0 a1_1 a2_0 a2_1))) else (if bt496.1 < 0 then (sizarlaw05_RatioOrder.j1 kj5 bt496.1 false a0_0 a0_1 a1_0 a1_1 a2_0 a2_1) else (sizarlaw05_RatioOrder.j1 kj5 bt496.1 false a0_0 a0_1 a1_0 a1_1 a2_0 a2_1))) else (if bt496.1 < 0 then (if bt500.1 ≤ 0 then (sizarlaw05_RatioOrder.j1 kj5 bt496.1 (decide (bt502.1 ≥ 0)) a0_0 a0_1 a1_0 a1_1 a2_0 a2_1) else (sizarlaw05_RatioOrder.j1 kj5 bt496.1 false a0_0 a0_1 a1_0 a1_1 a2_0 a2_1)) else (sizarlaw05_RatioOrder.j1 kj5 bt496.1 false a0_0 a0_1 a1_0 a1_1 a2_0 a2_1)))))) else (sizarlaw05_RatioOrder.j1 kj5 bt496.1 true a0_0 a0_1 a1_0 a1_1 a2_0 a2_1)) else (sizarlaw05_RatioOrder.j1 kj5 bt496.1 true a0_0 a0_1 a1_0 a1_1 a2_0 a2_1)) else (sizarlaw05_RatioOrder.j1 kj5 bt496.1 true a0_0 a0_1 a1_0 a1_1 a2_0 a2_1)) else (sizarlaw05_RatioOrder.j1 kj5 bt496.1 true a0_0 a0_1 a1_0 a1_1 a2_0 a2_1)) else (sizarlaw05_RatioOrder.j1 kj5 bt496.1 true a0_0 a0_1 a1_0 a1_1 a2_0 a2_1)))))) = some r := by rw [if_neg (show ¬ (false = true) by decide)] at H; exact H
          clear H
          have H := H1
          clear H1
          replace H := Option.bind_eq_some_iff.mp H
          obtain ⟨⟨t496, t497⟩, A370, H⟩ := H
          replace H : ((ratio_Compare.f a1_0 a1_1 a0_0 a0_1).bind fun bt498 => ((ratio_Compare.f a1_0 a1_1 a2_0 a2_1).bind fun bt500 => ((ratio_Compare.f a0_0 a0_1 a2_0 a2_1).bind fun bt502 => (if t497 = 0 then (if bt498.2 = 0 then (if bt500.2 = 0 then (if bt502.2 = 0 then (if t496 = (wrap64 (-bt498.1)) then (if t496 < (-1) then (sizarlaw05_RatioOrder.j1 kj5 t496 true a0_0 a0_1 a1_0 a1_1 a2_0 a2_1) else (if t496 > 1 then (sizarlaw05_RatioOrder.j1 kj5 t496 true a0_0 a0_1 a1_0 a1_1 a2_0 a2_1) else (if ((t496 == 0) != (a0_0 == a1_0 && (a0_1 == a1_1))) = true then (sizarlaw05_RatioOrder.j1 kj5 t496 true a0_0 a0_1 a1_0 a1_1 a2_0 a2_1) else (if t496 ≤ 0 then (if bt500.1 ≤ 0 then (if bt502.1 > 0 then (sizarlaw05_RatioOrder.j1 kj5 t496 true a0_0 a0_1 a1_0 a1_1 a2_0 a2_1) else (if t496 < 0 then (sizarlaw05_RatioOrder.j1 kj5 t496 (decide (bt502.1 ≥ 0)) a0_0 a0_1 a1_0 a1_1 a2_0 a2_1) else (sizarlaw05_RatioOrder.j1 kj5 t496 false a0_0 a0_1 a1_0 a1_1 a2_0 a2_1))) else (if t496 < 0 then (sizarlaw05_RatioOrder.j1 kj5 t496 false a0_0 a0_1 a1_0 a1_1 a2_0 a2_1) else (sizarlaw05_RatioOrder.j1 kj5 t496 false a0_0 a0_1 a1_0 a1_1 a2_0 a2_1))) else (if t496 < 0 then (if bt500.1 ≤ 0 then (sizarlaw05_RatioOrder.j1 kj5 t496 (decide (bt502.1 ≥ 0)) a0_0 a0_1 a1_0 a1_1 a2_0 a2_1) else (sizarlaw05_RatioOrder.j1 kj5 t496 false a0_0 a0_1 a1_0 a1_1 a2_0 a2_1)) else (sizarlaw05_RatioOrder.j1 kj5 t496 false a0_0 a0_1 a1_0 a1_1 a2_0 a2_1)))))) else (sizarlaw05_RatioOrder.j1 kj5 t496 true a0_0 a0_1 a1_0 a1_1 a2_0 a2_1)) else (sizarlaw05_RatioOrder.j1 kj5 t496 true a0_0 a0_1 a1_0 a1_1 a2_0 a2_1)) else (sizarlaw05_RatioOrder.j1 kj5 t496 true a0_0 a0_1 a1_0 a1_1 a2_0 a2_1)) else (sizarlaw05_RatioOrder.j1 kj5 t496 true a0_0 a0_1 a1_0 a1_1 a2_0 a2_1)) else (sizarlaw05_RatioOrder.j1 kj5 t496 true a0_0 a0_1 a1_0 a1_1 a2_0 a2_1))))) = some r := H
          have A37 := Aside0.mk A370
          clear A370
          replace H := Option.bind_eq_some_iff.mp H
          obtain ⟨⟨t498, t499⟩, A380, H⟩ := H
          replace H : ((ratio_Compare.f a1_0 a1_1 a2_0 a2_1).bind fun bt500 => ((ratio_Compare.f a0_0 a0_1 a2_0 a2_1).bind fun bt502 => (if t497 = 0 then (if t499 = 0 then (if bt500.2 = 0 then (if bt502.2 = 0 then (if t496 = (wrap64 (-t498)) then (if t496 < (-1) then (sizarlaw05_RatioOrder.j1 kj5 t496 true a0_0 a0_1 a1_0 a1_1 a2_0 a2_1) else (if t496 > 1 then (sizarlaw05_RatioOrder.j1 kj5 t496 true a0_0 a0_1 a1_0 a1_1 a2_0 a2_1) else (if ((t496 == 0) != (a0_0 == a1_0 && (a0_1 == a1_1))) = true then (sizarlaw05_RatioOrder.j1 kj5 t496 true a0_0 a0_1 a1_0 a1_1 a2_0 a2_1) else (if t496 ≤ 0 then (if bt500.1 ≤ 0 then (if bt502.1 > 0 then (sizarlaw05_RatioOrder.j1 kj5 t496 true a0_0 a0_1 a1_0 a1_1 a2_0 a2_1) else (if t496 < 0 then (sizarlaw05_RatioOrder.j1 kj5 t496 (decide (bt502.1 ≥ 0)) a0_0 a0_1 a1_0 a1_1 a2_0 a2_1) else (sizarlaw05_RatioOrder.j1 kj5 t496 false a0_0 a0_1 a1_0 a1_1 a2_0 a2_1))) else (if t496 < 0 then (sizarlaw05_RatioOrder.j1 kj5 t496 false a0_0 a0_1 a1_0 a1_1 a2_0 a2_1) else (sizarlaw05_RatioOrder.j1 kj5 t496 false a0_0 a0_1 a1_0 a1_1 a2_0 a2_1))) else (if t496 < 0 then (if bt500.1 ≤ 0 then (sizarlaw05_RatioOrder.j1 kj5 t496 (decide (bt502.1 ≥ 0)) a0_0 a0_1 a1_0 a1_1 a2_0 a2_1) else (sizarlaw05_RatioOrder.j1 kj5 t496 false a0_0 a0_1 a1_0 a1_1 a2_0 a2_1)) else (sizarlaw05_RatioOrder.j1 kj5 t496 false a0_0 a0_1 a1_0 a1_1 a2_0 a2_1)))))) else (sizarlaw05_RatioOrder.j1 kj5 t496 true a0_0 a0_1 a1_0 a1_1 a2_0 a2_1)) else (sizarlaw05_RatioOrder.j1 kj5 t496 true a0_0 a0_1 a1_0 a1_1 a2_0 a2_1)) else (sizarlaw05_RatioOrder.j1 kj5 t496 true a0_0 a0_1 a1_0 a1_1 a2_0 a2_1)) else (sizarlaw05_RatioOrder.j1 kj5 t496 true a0_0 a0_1 a1_0 a1_1 a2_0 a2_1)) else (sizarlaw05_RatioOrder.j1 kj5 t496 true a0_0 a0_1 a1_0 a1_1 a2_0 a2_1)))) = some r := H
          have A38 := Aside0.mk A380
          clear A380
          replace H := Option.bind_eq_some_iff.mp H
          obtain ⟨⟨t500, t501⟩, A390, H⟩ := H
          replace H : ((ratio_Compare.f a0_0 a0_1 a2_0 a2_1).bind fun bt502 => (if t497 = 0 then (if t499 = 0 then (if t501 = 0 then (if bt502.2 = 0 then (if t496 = (wrap64 (-t498)) then (if t496 < (-1) then (sizarlaw05_RatioOrder.j1 kj5 t496 true a0_0 a0_1 a1_0 a1_1 a2_0 a2_1) else (if t496 > 1 then (sizarlaw05_RatioOrder.j1 kj5 t496 true a0_0 a0_1 a1_0 a1_1 a2_0 a2_1) else (if ((t496 == 0) != (a0_0 == a1_0 && (a0_1 == a1_1))) = true then (sizarlaw05_RatioOrder.j1 kj5 t496 true a0_0 a0_1 a1_0 a1_1 a2_0 a2_1) else (if t496 ≤ 0 then (if t500 ≤ 0 then (if bt502.1 > 0 then (sizarlaw05_RatioOrder.j1 kj5 t496 true a0_0 a0_1 a1_0 a1_1 a2_0 a2_1) else (if t496 < 0 then (sizarlaw05_RatioOrder.j1 kj5 t496 (decide (bt502.1 ≥ 0)) a0_0 a0_1 a1_0 a1_1 a2_0 a2_1) else (sizarlaw05_RatioOrder.j1 kj5 t496 false a0_0 a0_1 a1_0 a1_1 a2_0 a2_1))) else (if t496 < 0 then (sizarlaw05_RatioOrder.j1 kj5 t496 false a0_0 a0_1 a1_0 a1_1 a2_0 a2_1) else (sizarlaw05_RatioOrder.j1 kj5 t496 false a0_0 a0_1 a1_0 a1_1 a2_0 a2_1))) else (if t496 < 0 then (if t500 ≤ 0 then (sizarlaw05_RatioOrder.j1 kj5 t496 (decide (bt502.1 ≥ 0)) a0_0 a0_1 a1_0 a1_1 a2_0 a2_1) else (sizarlaw05_RatioOrder.j1 kj5 t496 false a0_0 a0_1 a1_0 a1_1 a2_0 a2_1)) else (sizarlaw05_RatioOrder.j1 kj5 t496 false a0_0 a0_1 a1_0 a1_1 a2_0 a2_1)))))) else (sizarlaw05_RatioOrder.j1 kj5 t496 true a0_0 a0_1 a1_0 a1_1 a2_0 a2_1)) else (sizarlaw05_RatioOrder.j1 kj5 t496 true a0_0 a0_1 a1_0 a1_1 a2_0 a2_1)) else (sizarlaw05_RatioOrder.j1 kj5 t496 true a0_0 a0_1 a1_0 a1_1 a2_0 a2_1)) else (sizarlaw05_RatioOrder.j1 kj5 t496 true a0_0 a0_1 a1_0 a1_1 a2_0 a2_1)) else (sizarlaw05_RatioOrder.j1 kj5 t496 true a0_0 a0_1 a1_0 a1_1 a2_0 a2_1))) = some r := H
          have A39 := Aside0.mk A390
          clear A390
          replace H := Option.bind_eq_some_iff.mp H
          obtain ⟨⟨t502, t503⟩, A400, H⟩ := H
          replace H : (if t497 = 0 then (if t499 = 0 then (if t501 = 0 then (if t503 = 0 then (if t496 = (wrap64 (-t498)) then (if t496 < (-1) then (sizarlaw05_RatioOrder.j1 kj5 t496 true a0_0 a0_1 a1_0 a1_1 a2_0 a2_1) else (if t496 > 1 then (sizarlaw05_RatioOrder.j1 kj5 t496 true a0_0 a0_1 a1_0 a1_1 a2_0 a2_1) else (if ((t496 == 0) != (a0_0 == a1_0 && (a0_1 == a1_1))) = true then (sizarlaw05_RatioOrder.j1 kj5 t496 true a0_0 a0_1 a1_0 a1_1 a2_0 a2_1) else (if t496 ≤ 0 then (if t500 ≤ 0 then (if t502 > 0 then (sizarlaw05_RatioOrder.j1 kj5 t496 true a0_0 a0_1 a1_0 a1_1 a2_0 a2_1) else (if t496 < 0 then (sizarlaw05_RatioOrder.j1 kj5 t496 (decide (t502 ≥ 0)) a0_0 a0_1 a1_0 a1_1 a2_0 a2_1) else (sizarlaw05_RatioOrder.j1 kj5 t496 false a0_0 a0_1 a1_0 a1_1 a2_0 a2_1))) else (if t496 < 0 then (sizarlaw05_RatioOrder.j1 kj5 t496 false a0_0 a0_1 a1_0 a1_1 a2_0 a2_1) else (sizarlaw05_RatioOrder.j1 kj5 t496 false a0_0 a0_1 a1_0 a1_1 a2_0 a2_1))) else (if t496 < 0 then (if t500 ≤ 0 then (sizarlaw05_RatioOrder.j1 kj5 t496 (decide (t502 ≥ 0)) a0_0 a0_1 a1_0 a1_1 a2_0 a2_1) else (sizarlaw05_RatioOrder.j1 kj5 t496 false a0_0 a0_1 a1_0 a1_1 a2_0 a2_1)) else (sizarlaw05_RatioOrder.j1 kj5 t496 false a0_0 a0_1 a1_0 a1_1 a2_0 a2_1)))))) else (sizarlaw05_RatioOrder.j1 kj5 t496 true a0_0 a0_1 a1_0 a1_1 a2_0 a2_1)) else (sizarlaw05_RatioOrder.j1 kj5 t496 true a0_0 a0_1 a1_0 a1_1 a2_0 a2_1)) else (sizarlaw05_RatioOrder.j1 kj5 t496 true a0_0 a0_1 a1_0 a1_1 a2_0 a2_1)) else (sizarlaw05_RatioOrder.j1 kj5 t496 true a0_0 a0_1 a1_0 a1_1 a2_0 a2_1)) else (sizarlaw05_RatioOrder.j1 kj5 t496 true a0_0 a0_1 a1_0 a1_1 a2_0 a2_1)) = some r := H
          have A40 := Aside0.mk A400
          clear A400
          have HC41 := Aside0.mk H
          clear H
          have hnb42 := NB489_490.out
          have hnc42 := NB490_489.out
          have hnb43 := NB489_491.out
          have hnc43 := NB491_489.out
          have hcz44_0 : wc.cell? ⟨gb489, 0, none⟩ = some (.int .i64 a0_0) := (blk_cell BK489.out 0).trans rfl
          have hcz44_1 : wc.cell? ⟨gb489, 1, none⟩ = some (.int .i64 a0_1) := (blk_cell BK489.out 1).trans rfl
          have hfz44_0 := blk_frozen BK489.out 0
          have hfz44_1 := blk_frozen BK489.out 1
          have hnb45 := NB490_491.out
          have hnc45 := NB491_490.out
          have hcz46_0 : wc.cell? ⟨gb490, 0, none⟩ = some (.int .i64 a1_0) := (blk_cell BK490.out 0).trans rfl
          have hcz46_1 : wc.cell? ⟨gb490, 1, none⟩ = some (.int .i64 a1_1) := (blk_cell BK490.out 1).trans rfl
          have hfz46_0 := blk_frozen BK490.out 0
          have hfz46_1 := blk_frozen BK490.out 1
          go_upto_region 9 with (first | ((with_reducible refine gate_callee (f := 27) rfl ?_); refine goesL_ (some 41) rfl rfl Try.func27 (by kernel_rfl) rfl #[.agg #[.int .i64 a0_0, .int .i64 a0_1], .agg #[.int .i64 a1_0, .int .i64 a1_1]] rfl (by (try simp only [List.map_toArray, List.map_cons, List.map_nil]); first | done | rfl | (simp only [List.length_drop, List.length_take]; rfl)) ?_; (with_reducible refine (ratio_Compare.calls a0_0 a0_1 a1_0 a1_1 t496 t497 _ A37.out).mono ?_); rintro e w47 ⟨rfl, hb⟩; refine ⟨_, rfl, ?_⟩; have n0_ := Aside0.mk (blk_below (g := gb489) (o := .cells #[.int .i64 a0_0, .int .i64 a0_1] 23 (0, 0)) (by (with_reducible repeat (first | refine blk_drewN ?_ _ | refine blk_drew ?_ | refine blk_alloc ?_ _)); exact BK489.out) hb); have n1_ := Aside0.mk (blk_below (g := gb490) (o := .cells #[.int .i64 a1_0, .int .i64 a1_1] 23 (0, 0)) (by (with_reducible repeat (first | refine blk_drewN ?_ _ | refine blk_drew ?_ | refine blk_alloc ?_ _)); exact BK490.out) hb); have n2_ := Aside0.mk (blk_below (g := gb491) (o := .cells #[.int .i64 a2_0, .int .i64 a2_1] 23 (0, 0)) (by (with_reducible repeat (first | refine blk_drewN ?_ _ | refine blk_drew ?_ | refine blk_alloc ?_ _)); exact BK491.out) hb); have n3_ := Aside0.mk (below_step (by repeat (first | (with_reducible first | exact HB.out | apply below_alloc | apply pw_below_drewN | apply below_drew1 | refine below_set ?_ GE489.out | refine below_set ?_ GE490.out | refine below_set ?_ GE491.out) | exact HB.out)) hb); clear BK489; clear BK490; clear BK491; clear HB; have BK489 := n0_; have BK490 := n1_; have BK491 := n2_; have HB := n3_; clear n0_ n1_ n2_ n3_; (try clear hb); (try clear hb2); (try clear hk); (try clear hi); have hcz48_0 : w47.cell? ⟨gb490, 0, none⟩ = some (.int .i64 a1_0) := (blk_cell BK490.out 0).trans rfl; have hcz48_1 : w47.cell? ⟨gb490, 1, none⟩ = some (.int .i64 a1_1) := (blk_cell BK490.out 1).trans rfl; have hfz48_0 := blk_frozen BK490.out 0; have hfz48_1 := blk_frozen BK490.out 1; have hcz49_0 : w47.cell? ⟨gb489, 0, none⟩ = some (.int .i64 a0_0) := (blk_cell BK489.out 0).trans rfl; have hcz49_1 : w47.cell? ⟨gb489, 1, none⟩ = some (.int .i64 a0_1) := (blk_cell BK489.out 1).trans rfl; have hfz49_0 := blk_frozen BK489.out 0; have hfz49_1 := blk_frozen BK489.out 1) | ((with_reducible refine gate_callee (f := 27) rfl ?_); refine goesL_ (some 47) rfl rfl Try.func27 (by kernel_rfl) rfl #[.agg #[.int .i64 a1_0, .int .i64 a1_1], .agg #[.int .i64 a0_0, .int .i64 a0_1]] rfl (by (try simp only [List.map_toArray, List.map_cons, List.map_nil]); first | done | rfl | (simp only [List.length_drop, List.length_take]; rfl)) ?_; (with_reducible refine (ratio_Compare.calls a1_0 a1_1 a0_0 a0_1 t498 t499 _ A38.out).mono ?_); rintro e w50 ⟨rfl, hb⟩; refine ⟨_, rfl, ?_⟩; have n0_ := Aside0.mk (blk_below (g := gb489) (o := .cells #[.int .i64 a0_0, .int .i64 a0_1] 23 (0, 0)) (by (with_reducible repeat (first | refine blk_drewN ?_ _ | refine blk_drew ?_ | refine blk_alloc ?_ _)); exact BK489.out) hb); have n1_ := Aside0.mk (blk_below (g := gb490) (o := .cells #[.int .i64 a1_0, .int .i64 a1_1] 23 (0, 0)) (by (with_reducible repeat (first | refine blk_drewN ?_ _ | refine blk_drew ?_ | refine blk_alloc ?_ _)); exact BK490.out) hb); have n2_ := Aside0.mk (blk_below (g := gb491) (o := .cells #[.int .i64 a2_0, .int .i64 a2_1] 23 (0, 0)) (by (with_reducible repeat (first | refine blk_drewN ?_ _ | refine blk_drew ?_ | refine blk_alloc ?_ _)); exact BK491.out) hb); have n3_ := Aside0.mk (below_step (by repeat (first | (with_reducible first | exact HB.out | apply below_alloc | apply pw_below_drewN | apply below_drew1 | refine below_set ?_ GE489.out | refine below_set ?_ GE490.out | refine below_set ?_ GE491.out) | exact HB.out)) hb); clear BK489; clear BK490; clear BK491; clear HB; have BK489 := n0_; have BK490 := n1_; have BK491 := n2_; have HB := n3_; clear n0_ n1_ n2_ n3_; (try clear hb); (try clear hb2); (try clear hk); (try clear hi); have hcz51_0 : w50.cell? ⟨gb490, 0, none⟩ = some (.int .i64 a1_0) := (blk_cell BK490.out 0).trans rfl; have hcz51_1 : w50.cell? ⟨gb490, 1, none⟩ = some (.int .i64 a1_1) := (blk_cell BK490.out 1).trans rfl; have hfz51_0 := blk_frozen BK490.out 0; have hfz51_1 := blk_frozen BK490.out 1; have hcz52_0 : w50.cell? ⟨gb491, 0, none⟩ = some (.int .i64 a2_0) := (blk_cell BK491.out 0).trans rfl; have hcz52_1 : w50.cell? ⟨gb491, 1, none⟩ = some (.int .i64 a2_1) := (blk_cell BK491.out 1).trans rfl; have hfz52_0 := blk_frozen BK491.out 0; have hfz52_1 := blk_frozen BK491.out 1) | ((with_reducible refine gate_callee (f := 27) rfl ?_); refine goesL_ (some 53) rfl rfl Try.func27 (by kernel_rfl) rfl #[.agg #[.int .i64 a1_0, .int .i64 a1_1], .agg #[.int .i64 a2_0, .int .i64 a2_1]] rfl (by (try simp only [List.map_toArray, List.map_cons, List.map_nil]); first | done | rfl | (simp only [List.length_drop, List.length_take]; rfl)) ?_; (with_reducible refine (ratio_Compare.calls a1_0 a1_1 a2_0 a2_1 t500 t501 _ A39.out).mono ?_); rintro e w53 ⟨rfl, hb⟩; refine ⟨_, rfl, ?_⟩; have n0_ := Aside0.mk (blk_below (g := gb489) (o := .cells #[.int .i64 a0_0, .int .i64 a0_1] 23 (0, 0)) (by (with_reducible repeat (first | refine blk_drewN ?_ _ | refine blk_drew ?_ | refine blk_alloc ?_ _)); exact BK489.out) hb); have n1_ := Aside0.mk (blk_below (g := gb490) (o := .cells #[.int .i64 a1_0, .int .i64 a1_1] 23 (0, 0)) (by (with_reducible repeat (first | refine blk_drewN ?_ _ | refine blk_drew ?_ | refine blk_alloc ?_ _)); exact BK490.out) hb); have n2_ := Aside0.mk (blk_below (g := gb491) (o := .cells #[.int .i64 a2_0, .int .i64 a2_1] 23 (0, 0)) (by (with_reducible repeat (first | refine blk_drewN ?_ _ | refine blk_drew ?_ | refine blk_alloc ?_ _)); exact BK491.out) hb); have n3_ := Aside0.mk (below_step (by repeat (first | (with_reducible first | exact HB.out | apply below_alloc | apply pw_below_drewN | apply below_drew1 | refine below_set ?_ GE489.out | refine below_set ?_ GE490.out | refine below_set ?_ GE491.out) | exact HB.out)) hb); clear BK489; clear BK490; clear BK491; clear HB; have BK489 := n0_; have BK490 := n1_; have BK491 := n2_; have HB := n3_; clear n0_ n1_ n2_ n3_; (try clear hb); (try clear hb2); (try clear hk); (try clear hi); have hcz54_0 : w53.cell? ⟨gb489, 0, none⟩ = some (.int .i64 a0_0) := (blk_cell BK489.out 0).trans rfl; have hcz54_1 : w53.cell? ⟨gb489, 1, none⟩ = some (.int .i64 a0_1) := (blk_cell BK489.out 1).trans rfl; have hfz54_0 := blk_frozen BK489.out 0; have hfz54_1 := blk_frozen BK489.out 1; have hcz55_0 : w53.cell? ⟨gb491, 0, none⟩ = some (.int .i64 a2_0) := (blk_cell BK491.out 0).trans rfl; have hcz55_1 : w53.cell? ⟨gb491, 1, none⟩ = some (.int .i64 a2_1) := (blk_cell BK491.out 1).trans rfl; have hfz55_0 := blk_frozen BK491.out 0; have hfz55_1 := blk_frozen BK491.out 1) | ((with_reducible refine gate_callee (f := 27) rfl ?_); refine goesL_ (some 59) rfl rfl Try.func27 (by kernel_rfl) rfl #[.agg #[.int .i64 a0_0, .int .i64 a0_1], .agg #[.int .i64 a2_0, .int .i64 a2_1]] rfl (by (try simp only [List.map_toArray, List.map_cons, List.map_nil]); first | done | rfl | (simp only [List.length_drop, List.length_take]; rfl)) ?_; (with_reducible refine (ratio_Compare.calls a0_0 a0_1 a2_0 a2_1 t502 t503 _ A40.out).mono ?_); rintro e w56 ⟨rfl, hb⟩; refine ⟨_, rfl, ?_⟩; have n0_ := Aside0.mk (blk_below (g := gb489) (o := .cells #[.int .i64 a0_0, .int .i64 a0_1] 23 (0, 0)) (by (with_reducible repeat (first | refine blk_drewN ?_ _ | refine blk_drew ?_ | refine blk_alloc ?_ _)); exact BK489.out) hb); have n1_ := Aside0.mk (blk_below (g := gb490) (o := .cells #[.int .i64 a1_0, .int .i64 a1_1] 23 (0, 0)) (by (with_reducible repeat (first | refine blk_drewN ?_ _ | refine blk_drew ?_ | refine blk_alloc ?_ _)); exact BK490.out) hb); have n2_ := Aside0.mk (blk_below (g := gb491) (o := .cells #[.int .i64 a2_0, .int .i64 a2_1] 23 (0, 0)) (by (with_reducible repeat (first | refine blk_drewN ?_ _ | refine blk_drew ?_ | refine blk_alloc ?_ _)); exact BK491.out) hb); have n3_ := Aside0.mk (below_step (by repeat (first | (with_reducible first | exact HB.out | apply below_alloc | apply pw_below_drewN | apply below_drew1 | refine below_set ?_ GE489.out | refine below_set ?_ GE490.out | refine below_set ?_ GE491.out) | exact HB.out)) hb); clear BK489; clear BK490; clear BK491; clear HB; have BK489 := n0_; have BK490 := n1_; have BK491 := n2_; have HB := n3_; clear n0_ n1_ n2_ n3_; (try clear hb); (try clear hb2); (try clear hk); (try clear hi)))
          (try simp only [Act.put, List.setIfInBounds_toArray, List.set_cons_zero, List.set_cons_succ])
          go_cut [121] (fun v121 wc => ∃ (kq : Nat) (x121_40 : Bool), v121 = .bool x121_40 ∧ Aside0 (sizarlaw05_RatioOrder.j1 kq t496 x121_40 a0_0 a0_1 a1_0 a1_1 a2_0 a2_1 = some r) ∧ Aside0 (kq ≤ kj5) ∧ Aside0 (wc.heap[gb489]? = some (.cells #[.int .i64 a0_0, .int .i64 a0_1] 23 (0, 0))) ∧ Aside0 (wc.heap[gb490]? = some (.cells #[.int .i64 a1_0, .int .i64 a1_1] 23 (0, 0))) ∧ Aside0 (wc.heap[gb491]? = some (.cells #[.int .i64 a2_0, .int .i64 a2_1] 23 (0, 0))) ∧ Aside0 (Below w.heap.size w wc))
          case first =>
            as_aux_lemma =>
            have H := HC41.out
            clear HC41
            by_cases c57 : t497 = 0
            · rw [if_pos c57] at H
              have c57b0 : (t497 == 0) = true := beq_iff_eq.mpr c57
              have c57b1 : (t497 != 0) = false := bne_eq_false_iff_eq.mpr c57
              clear c57
              (first | rw [c57b0] | (simp only [i64_w, i32_w]; rw [c57b0]) | skip)
              by_cases c58 : t499 = 0
              · rw [if_pos c58] at H
                have c58b0 : (t499 == 0) = true := beq_iff_eq.mpr c58
                have c58b1 : (t499 != 0) = false := bne_eq_false_iff_eq.mpr c58
                clear c58
                by_cases c59 : t501 = 0
                · rw [if_pos c59] at H
                  have c59b0 : (t501 == 0) = true := beq_iff_eq.mpr c59
                  have c59b1 : (t501 != 0) = false := bne_eq_false_iff_eq.mpr c59
                  clear c59
                  by_cases c60 : t503 = 0
                  · rw [if_pos c60] at H
                    have c60b0 : (t503 == 0) = true := beq_iff_eq.mpr c60
                    have c60b1 : (t503 != 0) = false := bne_eq_false_iff_eq.mpr c60
                    clear c60
                    by_cases c61 : t496 = (wrap64 (-t498))
                    · rw [if_pos c61] at H
                      have c61b0 : (t496 == (wrap64 (-t498))) = true := beq_iff_eq.mpr c61
                      have c61b1 : (t496 != (wrap64 (-t498))) = false := bne_eq_false_iff_eq.mpr c61
                      clear c61
                      by_cases c62 : t496 < (-1)
                      · rw [if_pos c62] at H
                        have c62b0 : decide (t496 < (-1)) = true := decide_eq_true c62
                        clear c62
                        cases kj5 with
                        | zero => exact absurd H (by simp [sizarlaw05_RatioOrder.j1])
                        | succ kd_ =>
                          simp only [sizarlaw05_RatioOrder.j1, if_true] at H
                          exact absurd ((Option.some.inj H).trans hrt.out) (by decide)
                      · rw [if_neg c62] at H
                        have c62b0 : decide (t496 < (-1)) = false := decide_eq_false c62
                        clear c62
                        by_cases c63 : t496 > 1
                        · rw [if_pos c63] at H
                          have c63b0 : decide (1 < t496) = true := decide_eq_true c63
                          clear c63
                          cases kj5 with
                          | zero => exact absurd H (by simp [sizarlaw05_RatioOrder.j1])
                          | succ kd_ =>
                            simp only [sizarlaw05_RatioOrder.j1, if_true] at H
                            exact absurd ((Option.some.inj H).trans hrt.out) (by decide)
                        · rw [if_neg c63] at H
                          have c63b0 : decide (1 < t496) = false := decide_eq_false c63
                          clear c63
                          by_cases c64 : ((t496 == 0) != (a0_0 == a1_0 && (a0_1 == a1_1))) = true
                          · rw [if_pos c64] at H
                            have c64b0 : ((t496 == 0) != (a0_0 == a1_0 && (a0_1 == a1_1))) = true := c64
                            (try (have c64b1 : decide ((t496 == 0) = (a0_0 == a1_0 && (a0_1 == a1_1))) = false := by simpa using c64))
                            (try (have c64b2 : ((t496 == 0) == (a0_0 == a1_0 && (a0_1 == a1_1))) = false := by simpa using c64))
                            (try (have c64b3 : ¬ ((t496 == 0) = (a0_0 == a1_0 && (a0_1 == a1_1))) := by simpa using c64))
                            clear c64
                            cases kj5 with
                            | zero => exact absurd H (by simp [sizarlaw05_RatioOrder.j1])
                            | succ kd_ =>
                              simp only [sizarlaw05_RatioOrder.j1, if_true] at H
                              exact absurd ((Option.some.inj H).trans hrt.out) (by decide)
                          · rw [if_neg c64] at H
                            have c64b0 : ((t496 == 0) != (a0_0 == a1_0 && (a0_1 == a1_1))) = false := by simpa using c64
                            (try (have c64b1 : decide ((t496 == 0) = (a0_0 == a1_0 && (a0_1 == a1_1))) = true := by simpa using c64))
                            (try (have c64b2 : ((t496 == 0) == (a0_0 == a1_0 && (a0_1 == a1_1))) = true := by simpa using c64))
                            clear c64
                            by_cases c65 : t496 ≤ 0
                            · rw [if_pos c65] at H
                              have c65b0 : decide (t496 ≤ 0) = true := decide_eq_true c65
                              clear c65
                              by_cases c66 : t500 ≤ 0
                              · rw [if_pos c66] at H
                                have c66b0 : decide (t500 ≤ 0) = true := decide_eq_true c66
                                clear c66
                                by_cases c67 : t502 > 0
                                · rw [if_pos c67] at H
                                  have c67b0 : decide (0 < t502) = true := decide_eq_true c67
                                  clear c67
                                  cases kj5 with
                                  | zero => exact absurd H (by simp [sizarlaw05_RatioOrder.j1])
                                  | succ kd_ =>
                                    simp only [sizarlaw05_RatioOrder.j1, if_true] at H
                                    exact absurd ((Option.some.inj H).trans hrt.out) (by decide)
                                · rw [if_neg c67] at H
                                  have c67b0 : decide (0 < t502) = false := decide_eq_false c67
                                  clear c67
                                  by_cases c68 : t496 < 0
                                  · rw [if_pos c68] at H
                                    have c68b0 : decide (t496 < 0) = true := decide_eq_true c68
                                    clear c68
                                    have H' := Aside0.mk H
                                    clear H
                                    have hnb69 := NB489_490.out
                                    have hnc69 := NB490_489.out
                                    have hnb70 := NB489_491.out
                                    have hnc70 := NB491_489.out
                                    have hcz71_0 : w56.cell? ⟨gb489, 0, none⟩ = some (.int .i64 a0_0) := (blk_cell BK489.out 0).trans rfl
                                    have hcz71_1 : w56.cell? ⟨gb489, 1, none⟩ = some (.int .i64 a0_1) := (blk_cell BK489.out 1).trans rfl
                                    have hfz71_0 := blk_frozen BK489.out 0
                                    have hfz71_1 := blk_frozen BK489.out 1
                                    have hnb72 := NB490_491.out
                                    have hnc72 := NB491_490.out
                                    have hcz73_0 : w56.cell? ⟨gb490, 0, none⟩ = some (.int .i64 a1_0) := (blk_cell BK490.out 0).trans rfl
                                    have hcz73_1 : w56.cell? ⟨gb490, 1, none⟩ = some (.int .i64 a1_1) := (blk_cell BK490.out 1).trans rfl
                                    have hfz73_0 := blk_frozen BK490.out 0
                                    have hfz73_1 := blk_frozen BK490.out 1
                                    go_wp2
                                    go_meet
                                    case rel => exact ⟨_, (decide (t502 ≥ 0)), (by first | rfl | (simp; done) | (simp [*]; done)), H', ⟨by have := HJ5.out; first | omega | exact Nat.le_refl _⟩, ⟨by (with_reducible repeat (first | refine blk_drewN ?_ _ | refine blk_drew ?_ | refine blk_alloc ?_ _)); exact BK489.out⟩, ⟨by (with_reducible repeat (first | refine blk_drewN ?_ _ | refine blk_drew ?_ | refine blk_alloc ?_ _)); exact BK490.out⟩, ⟨by (with_reducible repeat (first | refine blk_drewN ?_ _ | refine blk_drew ?_ | refine blk_alloc ?_ _)); exact BK491.out⟩, ⟨by repeat (first | (with_reducible first | exact HB.out | apply below_alloc | apply pw_below_drewN | apply below_drew1 | refine below_set ?_ GE489.out | refine below_set ?_ GE490.out | refine below_set ?_ GE491.out) | exact HB.out)⟩⟩
                                  · rw [if_neg c68] at H
                                    have c68b0 : decide (t496 < 0) = false := decide_eq_false c68
                                    clear c68
                                    have H' := Aside0.mk H
                                    clear H
                                    have hnb74 := NB489_490.out
                                    have hnc74 := NB490_489.out
                                    have hnb75 := NB489_491.out
                                    have hnc75 := NB491_489.out
                                    have hcz76_0 : w56.cell? ⟨gb489, 0, none⟩ = some (.int .i64 a0_0) := (blk_cell BK489.out 0).trans rfl
                                    have hcz76_1 : w56.cell? ⟨gb489, 1, none⟩ = some (.int .i64 a0_1) := (blk_cell BK489.out 1).trans rfl
                                    have hfz76_0 := blk_frozen BK489.out 0
                                    have hfz76_1 := blk_frozen BK489.out 1
                                    have hnb77 := NB490_491.out
                                    have hnc77 := NB491_490.out
                                    have hcz78_0 : w56.cell? ⟨gb490, 0, none⟩ = some (.int .i64 a1_0) := (blk_cell BK490.out 0).trans rfl
                                    have hcz78_1 : w56.cell? ⟨gb490, 1, none⟩ = some (.int .i64 a1_1) := (blk_cell BK490.out 1).trans rfl
                                    have hfz78_0 := blk_frozen BK490.out 0
                                    have hfz78_1 := blk_frozen BK490.out 1
                                    go_wp2
                                    go_meet
                                    case rel => exact ⟨_, (false), (by first | rfl | (simp; done) | (simp [*]; done)), H', ⟨by have := HJ5.out; first | omega | exact Nat.le_refl _⟩, ⟨by (with_reducible repeat (first | refine blk_drewN ?_ _ | refine blk_drew ?_ | refine blk_alloc ?_ _)); exact BK489.out⟩, ⟨by (with_reducible repeat (first | refine blk_drewN ?_ _ | refine blk_drew ?_ | refine blk_alloc ?_ _)); exact BK490.out⟩, ⟨by (with_reducible repeat (first | refine blk_drewN ?_ _ | refine blk_drew ?_ | refine blk_alloc ?_ _)); exact BK491.out⟩, ⟨by repeat (first | (with_reducible first | exact HB.out | apply below_alloc | apply pw_below_drewN | apply below_drew1 | refine below_set ?_ GE489.out | refine below_set ?_ GE490.out | refine below_set ?_ GE491.out) | exact HB.out)⟩⟩
                              · rw [if_neg c66] at H
                                have c66b0 : decide (t500 ≤ 0) = false := decide_eq_false c66
                                clear c66
                                by_cases c79 : t496 < 0
                                · rw [if_pos c79] at H
                                  have c79b0 : decide (t496 < 0) = true := decide_eq_true c79
                                  clear c79
                                  have H' := Aside0.mk H
                                  clear H
                                  have hnb80 := NB489_490.out
                                  have hnc80 := NB490_489.out
                                  have hnb81 := NB489_491.out
                                  have hnc81 := NB491_489.out
                                  have hcz82_0 : w56.cell? ⟨gb489, 0, none⟩ = some (.int .i64 a0_0) := (blk_cell BK489.out 0).trans rfl
                                  have hcz82_1 : w56.cell? ⟨gb489, 1, none⟩ = some (.int .i64 a0_1) := (blk_cell BK489.out 1).trans rfl
                                  have hfz82_0 := blk_frozen BK489.out 0
                                  have hfz82_1 := blk_frozen BK489.out 1
                                  have hnb83 := NB490_491.out
                                  have hnc83 := NB491_490.out
                                  have hcz84_0 : w56.cell? ⟨gb490, 0, none⟩ = some (.int .i64 a1_0) := (blk_cell BK490.out 0).trans rfl
                                  have hcz84_1 : w56.cell? ⟨gb490, 1, none⟩ = some (.int .i64 a1_1) := (blk_cell BK490.out 1).trans rfl
                                  have hfz84_0 := blk_frozen BK490.out 0
                                  have hfz84_1 := blk_frozen BK490.out 1
                                  go_wp2
                                  go_meet
                                  case rel => exact ⟨_, (false), (by first | rfl | (simp; done) | (simp [*]; done)), H', ⟨by have := HJ5.out; first | omega | exact Nat.le_refl _⟩, ⟨by (with_reducible repeat (first | refine blk_drewN ?_ _ | refine blk_drew ?_ | refine blk_alloc ?_ _)); exact BK489.out⟩, ⟨by (with_reducible repeat (first | refine blk_drewN ?_ _ | refine blk_drew ?_ | refine blk_alloc ?_ _)); exact BK490.out⟩, ⟨by (with_reducible repeat (first | refine blk_drewN ?_ _ | refine blk_drew ?_ | refine blk_alloc ?_ _)); exact BK491.out⟩, ⟨by repeat (first | (with_reducible first | exact HB.out | apply below_alloc | apply pw_below_drewN | apply below_drew1 | refine below_set ?_ GE489.out | refine below_set ?_ GE490.out | refine below_set ?_ GE491.out) | exact HB.out)⟩⟩
                                · rw [if_neg c79] at H
                                  have c79b0 : decide (t496 < 0) = false := decide_eq_false c79
                                  clear c79
                                  have H' := Aside0.mk H
                                  clear H
                                  have hnb85 := NB489_490.out
                                  have hnc85 := NB490_489.out
                                  have hnb86 := NB489_491.out
                                  have hnc86 := NB491_489.out
                                  have hcz87_0 : w56.cell? ⟨gb489, 0, none⟩ = some (.int .i64 a0_0) := (blk_cell BK489.out 0).trans rfl
                                  have hcz87_1 : w56.cell? ⟨gb489, 1, none⟩ = some (.int .i64 a0_1) := (blk_cell BK489.out 1).trans rfl
                                  have hfz87_0 := blk_frozen BK489.out 0
                                  have hfz87_1 := blk_frozen BK489.out 1
                                  have hnb88 := NB490_491.out
                                  have hnc88 := NB491_490.out
                                  have hcz89_0 : w56.cell? ⟨gb490, 0, none⟩ = some (.int .i64 a1_0) := (blk_cell BK490.out 0).trans rfl
                                  have hcz89_1 : w56.cell? ⟨gb490, 1, none⟩ = some (.int .i64 a1_1) := (blk_cell BK490.out 1).trans rfl
                                  have hfz89_0 := blk_frozen BK490.out 0
                                  have hfz89_1 := blk_frozen BK490.out 1
                                  go_wp2
                                  go_meet
                                  case rel => exact ⟨_, (false), (by first | rfl | (simp; done) | (simp [*]; done)), H', ⟨by have := HJ5.out; first | omega | exact Nat.le_refl _⟩, ⟨by (with_reducible repeat (first | refine blk_drewN ?_ _ | refine blk_drew ?_ | refine blk_alloc ?_ _)); exact BK489.out⟩, ⟨by (with_reducible repeat (first | refine blk_drewN ?_ _ | refine blk_drew ?_ | refine blk_alloc ?_ _)); exact BK490.out⟩, ⟨by (with_reducible repeat (first | refine blk_drewN ?_ _ | refine blk_drew ?_ | refine blk_alloc ?_ _)); exact BK491.out⟩, ⟨by repeat (first | (with_reducible first | exact HB.out | apply below_alloc | apply pw_below_drewN | apply below_drew1 | refine below_set ?_ GE489.out | refine below_set ?_ GE490.out | refine below_set ?_ GE491.out) | exact HB.out)⟩⟩
                            · rw [if_neg c65] at H
                              have c65b0 : decide (t496 ≤ 0) = false := decide_eq_false c65
                              clear c65
                              by_cases c90 : t496 < 0
                              · rw [if_pos c90] at H
                                have c90b0 : decide (t496 < 0) = true := decide_eq_true c90
                                clear c90
                                by_cases c91 : t500 ≤ 0
                                · rw [if_pos c91] at H
                                  have c91b0 : decide (t500 ≤ 0) = true := decide_eq_true c91
                                  clear c91
                                  have H' := Aside0.mk H
                                  clear H
                                  have hnb92 := NB489_490.out
                                  have hnc92 := NB490_489.out
                                  have hnb93 := NB489_491.out
                                  have hnc93 := NB491_489.out
                                  have hcz94_0 : w56.cell? ⟨gb489, 0, none⟩ = some (.int .i64 a0_0) := (blk_cell BK489.out 0).trans rfl
                                  have hcz94_1 : w56.cell? ⟨gb489, 1, none⟩ = some (.int .i64 a0_1) := (blk_cell BK489.out 1).trans rfl
                                  have hfz94_0 := blk_frozen BK489.out 0
                                  have hfz94_1 := blk_frozen BK489.out 1
                                  have hnb95 := NB490_491.out
                                  have hnc95 := NB491_490.out
                                  have hcz96_0 : w56.cell? ⟨gb490, 0, none⟩ = some (.int .i64 a1_0) := (blk_cell BK490.out 0).trans rfl
                                  have hcz96_1 : w56.cell? ⟨gb490, 1, none⟩ = some (.int .i64 a1_1) := (blk_cell BK490.out 1).trans rfl
                                  have hfz96_0 := blk_frozen BK490.out 0
                                  have hfz96_1 := blk_frozen BK490.out 1
                                  go_wp2
                                  go_meet
                                  case rel => exact ⟨_, (decide (t502 ≥ 0)), (by first | rfl | (simp; done) | (simp [*]; done)), H', ⟨by have := HJ5.out; first | omega | exact Nat.le_refl _⟩, ⟨by (with_reducible repeat (first | refine blk_drewN ?_ _ | refine blk_drew ?_ | refine blk_alloc ?_ _)); exact BK489.out⟩, ⟨by (with_reducible repeat (first | refine blk_drewN ?_ _ | refine blk_drew ?_ | refine blk_alloc ?_ _)); exact BK490.out⟩, ⟨by (with_reducible repeat (first | refine blk_drewN ?_ _ | refine blk_drew ?_ | refine blk_alloc ?_ _)); exact BK491.out⟩, ⟨by repeat (first | (with_reducible first | exact HB.out | apply below_alloc | apply pw_below_drewN | apply below_drew1 | refine below_set ?_ GE489.out | refine below_set ?_ GE490.out | refine below_set ?_ GE491.out) | exact HB.out)⟩⟩
                                · rw [if_neg c91] at H
                                  have c91b0 : decide (t500 ≤ 0) = false := decide_eq_false c91
                                  clear c91
                                  have H' := Aside0.mk H
                                  clear H
                                  have hnb97 := NB489_490.out
                                  have hnc97 := NB490_489.out
                                  have hnb98 := NB489_491.out
                                  have hnc98 := NB491_489.out
                                  have hcz99_0 : w56.cell? ⟨gb489, 0, none⟩ = some (.int .i64 a0_0) := (blk_cell BK489.out 0).trans rfl
                                  have hcz99_1 : w56.cell? ⟨gb489, 1, none⟩ = some (.int .i64 a0_1) := (blk_cell BK489.out 1).trans rfl
                                  have hfz99_0 := blk_frozen BK489.out 0
                                  have hfz99_1 := blk_frozen BK489.out 1
                                  have hnb100 := NB490_491.out
                                  have hnc100 := NB491_490.out
                                  have hcz101_0 : w56.cell? ⟨gb490, 0, none⟩ = some (.int .i64 a1_0) := (blk_cell BK490.out 0).trans rfl
                                  have hcz101_1 : w56.cell? ⟨gb490, 1, none⟩ = some (.int .i64 a1_1) := (blk_cell BK490.out 1).trans rfl
                                  have hfz101_0 := blk_frozen BK490.out 0
                                  have hfz101_1 := blk_frozen BK490.out 1
                                  go_wp2
                                  go_meet
                                  case rel => exact ⟨_, (false), (by first | rfl | (simp; done) | (simp [*]; done)), H', ⟨by have := HJ5.out; first | omega | exact Nat.le_refl _⟩, ⟨by (with_reducible repeat (first | refine blk_drewN ?_ _ | refine blk_drew ?_ | refine blk_alloc ?_ _)); exact BK489.out⟩, ⟨by (with_reducible repeat (first | refine blk_drewN ?_ _ | refine blk_drew ?_ | refine blk_alloc ?_ _)); exact BK490.out⟩, ⟨by (with_reducible repeat (first | refine blk_drewN ?_ _ | refine blk_drew ?_ | refine blk_alloc ?_ _)); exact BK491.out⟩, ⟨by repeat (first | (with_reducible first | exact HB.out | apply below_alloc | apply pw_below_drewN | apply below_drew1 | refine below_set ?_ GE489.out | refine below_set ?_ GE490.out | refine below_set ?_ GE491.out) | exact HB.out)⟩⟩
                              · rw [if_neg c90] at H
                                have c90b0 : decide (t496 < 0) = false := decide_eq_false c90
                                clear c90
                                have H' := Aside0.mk H
                                clear H
                                have hnb102 := NB489_490.out
                                have hnc102 := NB490_489.out
                                have hnb103 := NB489_491.out
                                have hnc103 := NB491_489.out
                                have hcz104_0 : w56.cell? ⟨gb489, 0, none⟩ = some (.int .i64 a0_0) := (blk_cell BK489.out 0).trans rfl
                                have hcz104_1 : w56.cell? ⟨gb489, 1, none⟩ = some (.int .i64 a0_1) := (blk_cell BK489.out 1).trans rfl
                                have hfz104_0 := blk_frozen BK489.out 0
                                have hfz104_1 := blk_frozen BK489.out 1
                                have hnb105 := NB490_491.out
                                have hnc105 := NB491_490.out
                                have hcz106_0 : w56.cell? ⟨gb490, 0, none⟩ = some (.int .i64 a1_0) := (blk_cell BK490.out 0).trans rfl
                                have hcz106_1 : w56.cell? ⟨gb490, 1, none⟩ = some (.int .i64 a1_1) := (blk_cell BK490.out 1).trans rfl
                                have hfz106_0 := blk_frozen BK490.out 0
                                have hfz106_1 := blk_frozen BK490.out 1
                                go_wp2
                                go_meet
                                case rel => exact ⟨_, (false), (by first | rfl | (simp; done) | (simp [*]; done)), H', ⟨by have := HJ5.out; first | omega | exact Nat.le_refl _⟩, ⟨by (with_reducible repeat (first | refine blk_drewN ?_ _ | refine blk_drew ?_ | refine blk_alloc ?_ _)); exact BK489.out⟩, ⟨by (with_reducible repeat (first | refine blk_drewN ?_ _ | refine blk_drew ?_ | refine blk_alloc ?_ _)); exact BK490.out⟩, ⟨by (with_reducible repeat (first | refine blk_drewN ?_ _ | refine blk_drew ?_ | refine blk_alloc ?_ _)); exact BK491.out⟩, ⟨by repeat (first | (with_reducible first | exact HB.out | apply below_alloc | apply pw_below_drewN | apply below_drew1 | refine below_set ?_ GE489.out | refine below_set ?_ GE490.out | refine below_set ?_ GE491.out) | exact HB.out)⟩⟩
                    · rw [if_neg c61] at H
                      have c61b0 : (t496 == (wrap64 (-t498))) = false := beq_eq_false_iff_ne.mpr c61
                      have c61b1 : (t496 != (wrap64 (-t498))) = true := bne_iff_ne.mpr c61
                      cases kj5 with
                      | zero => exact absurd H (by simp [sizarlaw05_RatioOrder.j1])
                      | succ kd_ =>
                        simp only [sizarlaw05_RatioOrder.j1, if_true] at H
                        exact absurd ((Option.some.inj H).trans hrt.out) (by decide)
                  · rw [if_neg c60] at H
                    have c60b0 : (t503 == 0) = false := beq_eq_false_iff_ne.mpr c60
                    have c60b1 : (t503 != 0) = true := bne_iff_ne.mpr c60
                    cases kj5 with
                    | zero => exact absurd H (by simp [sizarlaw05_RatioOrder.j1])
                    | succ kd_ =>
                      simp only [sizarlaw05_RatioOrder.j1, if_true] at H
                      exact absurd ((Option.some.inj H).trans hrt.out) (by decide)
                · rw [if_neg c59] at H
                  have c59b0 : (t501 == 0) = false := beq_eq_false_iff_ne.mpr c59
                  have c59b1 : (t501 != 0) = true := bne_iff_ne.mpr c59
                  cases kj5 with
                  | zero => exact absurd H (by simp [sizarlaw05_RatioOrder.j1])
                  | succ kd_ =>
                    simp only [sizarlaw05_RatioOrder.j1, if_true] at H
                    exact absurd ((Option.some.inj H).trans hrt.out) (by decide)
              · rw [if_neg c58] at H
                have c58b0 : (t499 == 0) = false := beq_eq_false_iff_ne.mpr c58
                have c58b1 : (t499 != 0) = true := bne_iff_ne.mpr c58
                cases kj5 with
                | zero => exact absurd H (by simp [sizarlaw05_RatioOrder.j1])
                | succ kd_ =>
                  simp only [sizarlaw05_RatioOrder.j1, if_true] at H
                  exact absurd ((Option.some.inj H).trans hrt.out) (by decide)
            · rw [if_neg c57] at H
              have c57b0 : (t497 == 0) = false := beq_eq_false_iff_ne.mpr c57
              have c57b1 : (t497 != 0) = true := bne_iff_ne.mpr c57
              (first | rw [c57b0] | (simp only [i64_w, i32_w]; rw [c57b0]) | skip)
              cases kj5 with
              | zero => exact absurd H (by simp [sizarlaw05_RatioOrder.j1])
              | succ kd_ =>
                simp only [sizarlaw05_RatioOrder.j1, if_true] at H
                exact absurd ((Option.some.inj H).trans hrt.out) (by decide)
          case rest =>
            as_aux_lemma =>
            clear HC41
            try clear c1
            try clear c2
            try clear p2
            try clear c3
            try clear c4
            try clear c5
            try clear c6
            try clear p6
            try clear c7
            try clear c8
            try clear c9
            try clear c10
            try clear c12
            try clear c12b0
            try clear c12b1
            try clear c14
            try clear c14b0
            try clear c14b1
            try clear c16
            try clear c17
            try clear c18
            try clear c20
            try clear c21
            try clear c25
            try clear c26
            try clear c27
            try clear c29
            try clear c32
            try clear c33
            try clear c36
            try clear c42
            try clear c43
            try clear c45
            try clear c57
            try clear c57b0
            try clear c57b1
            try clear c58
            try clear c58b0
            try clear c58b1
            try clear c59
            try clear c59b0
            try clear c59b1
            try clear c60
            try clear c60b0
            try clear c60b1
            try clear c61
            try clear c61b0
            try clear c61b1
            try clear c62
            try clear c62b0
            try clear c63
            try clear c63b0
            try clear c64
            try clear c64b0
            try clear c64b1
            try clear c64b2
            try clear p64
            try clear c65
            try clear c65b0
            try clear c66
            try clear c66b0
            try clear c67
            try clear c67b0
            try clear c68
            try clear c68b0
            try clear c69
            try clear c70
            try clear c72
            try clear c74
            try clear c75
            try clear c77
            try clear c79
            try clear c79b0
            try clear c80
            try clear c81
            try clear c83
            try clear c85
            try clear c86
            try clear c88
            try clear c90
            try clear c90b0
            try clear c91
            try clear c91b0
            try clear c92
            try clear c93
            try clear c95
            try clear c97
            try clear c98
            try clear c100
            try clear c102
            try clear c103
            try clear c105
            try clear hcz101_0
            try clear hcz101_1
            try clear hcz104_0
            try clear hcz104_1
            try clear hcz106_0
            try clear hcz106_1
            try clear hcz18_0
            try clear hcz18_1
            try clear hcz21_0
            try clear hcz21_1
            try clear hcz23_0
            try clear hcz23_1
            try clear hcz27_0
            try clear hcz27_1
            try clear hcz30_0
            try clear hcz30_1
            try clear hcz34_0
            try clear hcz34_1
            try clear hcz44_0
            try clear hcz44_1
            try clear hcz46_0
            try clear hcz46_1
            try clear hcz48_0
            try clear hcz48_1
            try clear hcz49_0
            try clear hcz49_1
            try clear hcz51_0
            try clear hcz51_1
            try clear hcz52_0
            try clear hcz52_1
            try clear hcz54_0
            try clear hcz54_1
            try clear hcz55_0
            try clear hcz55_1
            try clear hcz71_0
            try clear hcz71_1
            try clear hcz73_0
            try clear hcz73_1
            try clear hcz76_0
            try clear hcz76_1
            try clear hcz78_0
            try clear hcz78_1
            try clear hcz82_0
            try clear hcz82_1
            try clear hcz84_0
            try clear hcz84_1
            try clear hcz87_0
            try clear hcz87_1
            try clear hcz89_0
            try clear hcz89_1
            try clear hcz94_0
            try clear hcz94_1
            try clear hcz96_0
            try clear hcz96_1
            try clear hcz99_0
            try clear hcz99_1
            try clear hfz101_0
            try clear hfz101_1
            try clear hfz104_0
            try clear hfz104_1
            try clear hfz106_0
            try clear hfz106_1
            try clear hfz18_0
            try clear hfz18_1
            try clear hfz21_0
            try clear hfz21_1
            try clear hfz23_0
            try clear hfz23_1
            try clear hfz27_0
            try clear hfz27_1
            try clear hfz30_0
            try clear hfz30_1
            try clear hfz34_0
            try clear hfz34_1
            try clear hfz44_0
            try clear hfz44_1
            try clear hfz46_0
            try clear hfz46_1
            try clear hfz48_0
            try clear hfz48_1
            try clear hfz49_0
            try clear hfz49_1
            try clear hfz51_0
            try clear hfz51_1
            try clear hfz52_0
            try clear hfz52_1
            try clear hfz54_0
            try clear hfz54_1
            try clear hfz55_0
            try clear hfz55_1
            try clear hfz71_0
            try clear hfz71_1
            try clear hfz73_0
            try clear hfz73_1
            try clear hfz76_0
            try clear hfz76_1
            try clear hfz78_0
            try clear hfz78_1
            try clear hfz82_0
            try clear hfz82_1
            try clear hfz84_0
            try clear hfz84_1
            try clear hfz87_0
            try clear hfz87_1
            try clear hfz89_0
            try clear hfz89_1
            try clear hfz94_0
            try clear hfz94_1
            try clear hfz96_0
            try clear hfz96_1
            try clear hfz99_0
            try clear hfz99_1
            try clear p2
            obtain ⟨kq, x121_40, rfl, HA, HJ40, BK489, BK490, BK491, HB⟩ := hcut
            cases kq with
            | zero => exact absurd HA.out (by simp [sizarlaw05_RatioOrder.j1])
            | succ kj40 =>
              have H := HA.out
              clear HA
              simp only [sizarlaw05_RatioOrder.j1] at H
              by_cases c107 : x121_40 = true
              · subst c107
                have H1 : (some false) = some r := by rw [if_pos rfl] at H; exact H
                clear H
                have H := H1
                clear H1
                exact absurd ((Option.some.inj H).trans hrt.out) (by decide)
              · replace c107 := Bool.eq_false_iff.mpr c107
                subst c107
                have H1 : ((ratio_Add.f a0_0 a0_1 a2_0 a2_1).bind fun bt504 => ((ratio_Add.f a1_0 a1_1 a2_0 a2_1).bind fun bt508 => (if bt504.2.2 = 0 then (sizarlaw05_RatioOrder.j2 kj40 t496 (bt508.2.2 == 0) a0_0 a0_1 a1_0 a1_1 a2_0 a2_1 bt504.1 bt504.2.1 bt508.1 bt508.2.1) else (sizarlaw05_RatioOrder.j2 kj40 t496 false a0_0 a0_1 a1_0 a1_1 a2_0 a2_1 bt504.1 bt504.2.1 bt508.1 bt508.2.1)))) = some r := by rw [if_neg (show ¬ (false = true) by decide)] at H; exact H
                clear H
                have H := H1
                clear H1
                replace H := Option.bind_eq_some_iff.mp H
                obtain ⟨⟨t504, t505, t506⟩, A1080, H⟩ := H
                replace H : ((ratio_Add.f a1_0 a1_1 a2_0 a2_1).bind fun bt508 => (if t506 = 0 then (sizarlaw05_RatioOrder.j2 kj40 t496 (bt508.2.2 == 0) a0_0 a0_1 a1_0 a1_1 a2_0 a2_1 t504 t505 bt508.1 bt508.2.1) else (sizarlaw05_RatioOrder.j2 kj40 t496 false a0_0 a0_1 a1_0 a1_1 a2_0 a2_1 t504 t505 bt508.1 bt508.2.1))) = some r := H
                have A108 := Aside0.mk A1080
                clear A1080
                replace H := Option.bind_eq_some_iff.mp H
                obtain ⟨⟨t508, t509, t510⟩, A1090, H⟩ := H
                replace H : (if t506 = 0 then (sizarlaw05_RatioOrder.j2 kj40 t496 (t510 == 0) a0_0 a0_1 a1_0 a1_1 a2_0 a2_1 t504 t505 t508 t509) else (sizarlaw05_RatioOrder.j2 kj40 t496 false a0_0 a0_1 a1_0 a1_1 a2_0 a2_1 t504 t505 t508 t509)) = some r := H
                have A109 := Aside0.mk A1090
                clear A1090
                have HC110 := Aside0.mk H
                clear H
                have hnb111 := NB489_490.out
                have hnc111 := NB490_489.out
                have hnb112 := NB489_491.out
                have hnc112 := NB491_489.out
                have hcz113_0 : wc.cell? ⟨gb489, 0, none⟩ = some (.int .i64 a0_0) := (blk_cell BK489.out 0).trans rfl
                have hcz113_1 : wc.cell? ⟨gb489, 1, none⟩ = some (.int .i64 a0_1) := (blk_cell BK489.out 1).trans rfl
                have hfz113_0 := blk_frozen BK489.out 0
                have hfz113_1 := blk_frozen BK489.out 1
                have hnb114 := NB491_490.out
                have hnc114 := NB490_491.out
                have hcz115_0 : wc.cell? ⟨gb491, 0, none⟩ = some (.int .i64 a2_0) := (blk_cell BK491.out 0).trans rfl
                have hcz115_1 : wc.cell? ⟨gb491, 1, none⟩ = some (.int .i64 a2_1) := (blk_cell BK491.out 1).trans rfl
                have hfz115_0 := blk_frozen BK491.out 0
                have hfz115_1 := blk_frozen BK491.out 1
                go_upto_region 13 with (first | ((with_reducible refine gate_callee (f := 23) rfl ?_); refine goesL_ (some 125) rfl rfl Try.func23 (by kernel_rfl) rfl #[.agg #[.int .i64 a0_0, .int .i64 a0_1], .agg #[.int .i64 a2_0, .int .i64 a2_1]] rfl (by (try simp only [List.map_toArray, List.map_cons, List.map_nil]); first | done | rfl | (simp only [List.length_drop, List.length_take]; rfl)) ?_; (with_reducible refine (ratio_Add.calls a0_0 a0_1 a2_0 a2_1 t504 t505 t506 _ A108.out).mono ?_); rintro e w116 ⟨rfl, hb⟩; refine ⟨_, rfl, ?_⟩; have n0_ := Aside0.mk (blk_below (g := gb489) (o := .cells #[.int .i64 a0_0, .int .i64 a0_1] 23 (0, 0)) (by (with_reducible repeat (first | refine blk_drewN ?_ _ | refine blk_drew ?_ | refine blk_alloc ?_ _)); exact BK489.out) hb); have n1_ := Aside0.mk (blk_below (g := gb490) (o := .cells #[.int .i64 a1_0, .int .i64 a1_1] 23 (0, 0)) (by (with_reducible repeat (first | refine blk_drewN ?_ _ | refine blk_drew ?_ | refine blk_alloc ?_ _)); exact BK490.out) hb); have n2_ := Aside0.mk (blk_below (g := gb491) (o := .cells #[.int .i64 a2_0, .int .i64 a2_1] 23 (0, 0)) (by (with_reducible repeat (first | refine blk_drewN ?_ _ | refine blk_drew ?_ | refine blk_alloc ?_ _)); exact BK491.out) hb); have n3_ := Aside0.mk (below_step (by repeat (first | (with_reducible first | exact HB.out | apply below_alloc | apply pw_below_drewN | apply below_drew1 | refine below_set ?_ GE489.out | refine below_set ?_ GE490.out | refine below_set ?_ GE491.out) | exact HB.out)) hb); clear BK489; clear BK490; clear BK491; clear HB; have BK489 := n0_; have BK490 := n1_; have BK491 := n2_; have HB := n3_; clear n0_ n1_ n2_ n3_; (try clear hb); (try clear hb2); (try clear hk); (try clear hi)) | ((with_reducible refine gate_dst (N := 15) rfl ?_); refine box_event ?hg (N := 15) ?hd (cs := #[.int .i64 0, .int .i64 0]) (t := 23) ?hr ?_; (case hd => rfl); (case hg => rfl); (case hr => first | (go_simp; done) | (go_simp; rfl)); intro gb507 hg w117 hbox hb; have n0_ := Aside0.mk (blk_below (g := gb489) (o := .cells #[.int .i64 a0_0, .int .i64 a0_1] 23 (0, 0)) (by (with_reducible repeat (first | refine blk_drewN ?_ _ | refine blk_drew ?_ | refine blk_alloc ?_ _)); exact BK489.out) hb); have n1_ := Aside0.mk (blk_below (g := gb490) (o := .cells #[.int .i64 a1_0, .int .i64 a1_1] 23 (0, 0)) (by (with_reducible repeat (first | refine blk_drewN ?_ _ | refine blk_drew ?_ | refine blk_alloc ?_ _)); exact BK490.out) hb); have n2_ := Aside0.mk (blk_below (g := gb491) (o := .cells #[.int .i64 a2_0, .int .i64 a2_1] 23 (0, 0)) (by (with_reducible repeat (first | refine blk_drewN ?_ _ | refine blk_drew ?_ | refine blk_alloc ?_ _)); exact BK491.out) hb); have n3_ := Aside0.mk (below_step (by repeat (first | (with_reducible first | exact HB.out | apply below_alloc | apply pw_below_drewN | apply below_drew1 | refine below_set ?_ GE489.out | refine below_set ?_ GE490.out | refine below_set ?_ GE491.out) | exact HB.out)) hb); have n4_ := Aside0.mk (hbox); have n5_ := Aside0.mk ((by rw [hg]; exact (below_size (by repeat (first | (with_reducible first | exact HB.out | apply below_alloc | apply pw_below_drewN | apply below_drew1 | refine below_set ?_ GE489.out | refine below_set ?_ GE490.out | refine below_set ?_ GE491.out) | exact HB.out))) : w.heap.size ≤ gb507)); have n6_ := Aside0.mk ((by rw [hg]; exact (below_size (by repeat (first | (with_reducible first | exact HB.out | apply below_alloc | apply pw_below_drewN | apply below_drew1 | refine below_set ?_ GE489.out | refine below_set ?_ GE490.out | refine below_set ?_ GE491.out) | exact HB.out))) : w.heap.size ≤ gb507)); have n7_ := Aside0.mk ((by rw [hg]; exact Nat.ne_of_lt (blk_lt (g := gb489) (o := .cells #[.int .i64 a0_0, .int .i64 a0_1] 23 (0, 0)) (by (with_reducible repeat (first | refine blk_drewN ?_ _ | refine blk_drew ?_ | refine blk_alloc ?_ _)); exact BK489.out)) : gb489 ≠ gb507)); have n8_ := Aside0.mk ((by rw [hg]; exact Nat.ne_of_gt (blk_lt (g := gb489) (o := .cells #[.int .i64 a0_0, .int .i64 a0_1] 23 (0, 0)) (by (with_reducible repeat (first | refine blk_drewN ?_ _ | refine blk_drew ?_ | refine blk_alloc ?_ _)); exact BK489.out)) : gb507 ≠ gb489)); have n9_ := Aside0.mk ((by rw [hg]; exact Nat.ne_of_lt (blk_lt (g := gb490) (o := .cells #[.int .i64 a1_0, .int .i64 a1_1] 23 (0, 0)) (by (with_reducible repeat (first | refine blk_drewN ?_ _ | refine blk_drew ?_ | refine blk_alloc ?_ _)); exact BK490.out)) : gb490 ≠ gb507)); have n10_ := Aside0.mk ((by rw [hg]; exact Nat.ne_of_gt (blk_lt (g := gb490) (o := .cells #[.int .i64 a1_0, .int .i64 a1_1] 23 (0, 0)) (by (with_reducible repeat (first | refine blk_drewN ?_ _ | refine blk_drew ?_ | refine blk_alloc ?_ _)); exact BK490.out)) : gb507 ≠ gb490)); have n11_ := Aside0.mk ((by rw [hg]; exact Nat.ne_of_lt (blk_lt (g := gb491) (o := .cells #[.int .i64 a2_0, .int .i64 a2_1] 23 (0, 0)) (by (with_reducible repeat (first | refine blk_drewN ?_ _ | refine blk_drew ?_ | refine blk_alloc ?_ _)); exact BK491.out)) : gb491 ≠ gb507)); have n12_ := Aside0.mk ((by rw [hg]; exact Nat.ne_of_gt (blk_lt (g := gb491) (o := .cells #[.int .i64 a2_0, .int .i64 a2_1] 23 (0, 0)) (by (with_reducible repeat (first | refine blk_drewN ?_ _ | refine blk_drew ?_ | refine blk_alloc ?_ _)); exact BK491.out)) : gb507 ≠ gb491)); clear BK489; clear BK490; clear BK491; clear HB; have BK489 := n0_; have BK490 := n1_; have BK491 := n2_; have HB := n3_; have BK507 := n4_; have GW507 := n5_; have GE507 := n6_; have NB489_507 := n7_; have NB507_489 := n8_; have NB490_507 := n9_; have NB507_490 := n10_; have NB491_507 := n11_; have NB507_491 := n12_; clear n0_ n1_ n2_ n3_ n4_ n5_ n6_ n7_ n8_ n9_ n10_ n11_ n12_; clear hb hbox hg; have hnb118 := NB507_489.out; have hnc118 := NB489_507.out; have hnb119 := NB507_490.out; have hnc119 := NB490_507.out; have hnb120 := NB507_491.out; have hnc120 := NB491_507.out; have hcz121_0 : w117.cell? ⟨gb507, 0, none⟩ = some (.int .i64 0) := (blk_cell BK507.out 0).trans rfl; have hcz121_1 : w117.cell? ⟨gb507, 1, none⟩ = some (.int .i64 0) := (blk_cell BK507.out 1).trans rfl; have hfz121_0 := blk_frozen BK507.out 0; have hfz121_1 := blk_frozen BK507.out 1; have hcz122_0 : w117.cell? ⟨gb490, 0, none⟩ = some (.int .i64 a1_0) := (blk_cell BK490.out 0).trans rfl; have hcz122_1 : w117.cell? ⟨gb490, 1, none⟩ = some (.int .i64 a1_1) := (blk_cell BK490.out 1).trans rfl; have hfz122_0 := blk_frozen BK490.out 0; have hfz122_1 := blk_frozen BK490.out 1; have hcz123_0 : w117.cell? ⟨gb491, 0, none⟩ = some (.int .i64 a2_0) := (blk_cell BK491.out 0).trans rfl; have hcz123_1 : w117.cell? ⟨gb491, 1, none⟩ = some (.int .i64 a2_1) := (blk_cell BK491.out 1).trans rfl; have hfz123_0 := blk_frozen BK491.out 0; have hfz123_1 := blk_frozen BK491.out 1) | ((with_reducible refine gate_callee (f := 23) rfl ?_); refine goesL_ (some 131) rfl rfl Try.func23 (by kernel_rfl) rfl #[.agg #[.int .i64 a1_0, .int .i64 a1_1], .agg #[.int .i64 a2_0, .int .i64 a2_1]] rfl (by (try simp only [List.map_toArray, List.map_cons, List.map_nil]); first | done | rfl | (simp only [List.length_drop, List.length_take]; rfl)) ?_; (with_reducible refine (ratio_Add.calls a1_0 a1_1 a2_0 a2_1 t508 t509 t510 _ A109.out).mono ?_); rintro e w124 ⟨rfl, hb⟩; refine ⟨_, rfl, ?_⟩; have n0_ := Aside0.mk (blk_below (g := gb489) (o := .cells #[.int .i64 a0_0, .int .i64 a0_1] 23 (0, 0)) (by (with_reducible repeat (first | refine blk_drewN ?_ _ | refine blk_drew ?_ | refine blk_alloc ?_ _)); refine blk_far ?_ NB489_507.out _; (with_reducible repeat (first | refine blk_drewN ?_ _ | refine blk_drew ?_ | refine blk_alloc ?_ _)); refine blk_far ?_ NB489_507.out _; (with_reducible repeat (first | refine blk_drewN ?_ _ | refine blk_drew ?_ | refine blk_alloc ?_ _)); exact BK489.out) hb); have n1_ := Aside0.mk (blk_below (g := gb490) (o := .cells #[.int .i64 a1_0, .int .i64 a1_1] 23 (0, 0)) (by (with_reducible repeat (first | refine blk_drewN ?_ _ | refine blk_drew ?_ | refine blk_alloc ?_ _)); refine blk_far ?_ NB490_507.out _; (with_reducible repeat (first | refine blk_drewN ?_ _ | refine blk_drew ?_ | refine blk_alloc ?_ _)); refine blk_far ?_ NB490_507.out _; (with_reducible repeat (first | refine blk_drewN ?_ _ | refine blk_drew ?_ | refine blk_alloc ?_ _)); exact BK490.out) hb); have n2_ := Aside0.mk (blk_below (g := gb491) (o := .cells #[.int .i64 a2_0, .int .i64 a2_1] 23 (0, 0)) (by (with_reducible repeat (first | refine blk_drewN ?_ _ | refine blk_drew ?_ | refine blk_alloc ?_ _)); refine blk_far ?_ NB491_507.out _; (with_reducible repeat (first | refine blk_drewN ?_ _ | refine blk_drew ?_ | refine blk_alloc ?_ _)); refine blk_far ?_ NB491_507.out _; (with_reducible repeat (first | refine blk_drewN ?_ _ | refine blk_drew ?_ | refine blk_alloc ?_ _)); exact BK491.out) hb); have n3_ := Aside0.mk (blk_below (g := gb507) (o := .cells #[.int .i64 t504, .int .i64 t505] 23 (0, 0)) (by (with_reducible repeat (first | refine blk_drewN ?_ _ | refine blk_drew ?_ | refine blk_alloc ?_ _)); refine blk_put (cs := #[.int .i64 t504, .int .i64 0]) ?_ 1 _ rfl; (with_reducible repeat (first | refine blk_drewN ?_ _ | refine blk_drew ?_ | refine blk_alloc ?_ _)); refine blk_put (cs := #[.int .i64 0, .int .i64 0]) ?_ 0 _ rfl; (with_reducible repeat (first | refine blk_drewN ?_ _ | refine blk_drew ?_ | refine blk_alloc ?_ _)); exact BK507.out) hb); have n4_ := Aside0.mk (below_step (by repeat (first | (with_reducible first | exact HB.out | apply below_alloc | apply pw_below_drewN | apply below_drew1 | refine below_set ?_ GE489.out | refine below_set ?_ GE490.out | refine below_set ?_ GE491.out | refine below_set ?_ GE507.out) | exact HB.out)) hb); clear BK489; clear BK490; clear BK491; clear BK507; clear HB; have BK489 := n0_; have BK490 := n1_; have BK491 := n2_; have BK507 := n3_; have HB := n4_; clear n0_ n1_ n2_ n3_ n4_; (try clear hb); (try clear hb2); (try clear hk); (try clear hi)) | ((with_reducible refine gate_dst (N := 17) rfl ?_); refine box_event ?hg (N := 17) ?hd (cs := #[.int .i64 0, .int .i64 0]) (t := 23) ?hr ?_; (case hd => rfl); (case hg => rfl); (case hr => first | (go_simp; done) | (go_simp; rfl)); intro gb511 hg w125 hbox hb; have n0_ := Aside0.mk (blk_below (g := gb489) (o := .cells #[.int .i64 a0_0, .int .i64 a0_1] 23 (0, 0)) (by (with_reducible repeat (first | refine blk_drewN ?_ _ | refine blk_drew ?_ | refine blk_alloc ?_ _)); exact BK489.out) hb); have n1_ := Aside0.mk (blk_below (g := gb490) (o := .cells #[.int .i64 a1_0, .int .i64 a1_1] 23 (0, 0)) (by (with_reducible repeat (first | refine blk_drewN ?_ _ | refine blk_drew ?_ | refine blk_alloc ?_ _)); exact BK490.out) hb); have n2_ := Aside0.mk (blk_below (g := gb491) (o := .cells #[.int .i64 a2_0, .int .i64 a2_1] 23 (0, 0)) (by (with_reducible repeat (first | refine blk_drewN ?_ _ | refine blk_drew ?_ | refine blk_alloc ?_ _)); exact BK491.out) hb); have n3_ := Aside0.mk (blk_below (g := gb507) (o := .cells #[.int .i64 t504, .int .i64 t505] 23 (0, 0)) (by (with_reducible repeat (first | refine blk_drewN ?_ _ | refine blk_drew ?_ | refine blk_alloc ?_ _)); exact BK507.out) hb); have n4_ := Aside0.mk (below_step (by repeat (first | (with_reducible first | exact HB.out | apply below_alloc | apply pw_below_drewN | apply below_drew1 | refine below_set ?_ GE489.out | refine below_set ?_ GE490.out | refine below_set ?_ GE491.out | refine below_set ?_ GE507.out) | exact HB.out)) hb); have n5_ := Aside0.mk (hbox); have n6_ := Aside0.mk ((by rw [hg]; exact (below_size (by repeat (first | (with_reducible first | exact HB.out | apply below_alloc | apply pw_below_drewN | apply below_drew1 | refine below_set ?_ GE489.out | refine below_set ?_ GE490.out | refine below_set ?_ GE491.out | refine below_set ?_ GE507.out) | exact HB.out))) : w.heap.size ≤ gb511)); have n7_ := Aside0.mk ((by rw [hg]; exact (below_size (by repeat (first | (with_reducible first | exact HB.out | apply below_alloc | apply pw_below_drewN | apply below_drew1 | refine below_set ?_ GE489.out | refine below_set ?_ GE490.out | refine below_set ?_ GE491.out | refine below_set ?_ GE507.out) | exact HB.out))) : w.heap.size ≤ gb511)); have n8_ := Aside0.mk ((by rw [hg]; exact Nat.ne_of_lt (blk_lt (g := gb489) (o := .cells #[.int .i64 a0_0, .int .i64 a0_1] 23 (0, 0)) (by (with_reducible repeat (first | refine blk_drewN ?_ _ | refine blk_drew ?_ | refine blk_alloc ?_ _)); exact BK489.out)) : gb489 ≠ gb511)); have n9_ := Aside0.mk ((by rw [hg]; exact Nat.ne_of_gt (blk_lt (g := gb489) (o := .cells #[.int .i64 a0_0, .int .i64 a0_1] 23 (0, 0)) (by (with_reducible repeat (first | refine blk_drewN ?_ _ | refine blk_drew ?_ | refine blk_alloc ?_ _)); exact BK489.out)) : gb511 ≠ gb489)); have n10_ := Aside0.mk ((by rw [hg]; exact Nat.ne_of_lt (blk_lt (g := gb490) (o := .cells #[.int .i64 a1_0, .int .i64 a1_1] 23 (0, 0)) (by (with_reducible repeat (first | refine blk_drewN ?_ _ | refine blk_drew ?_ | refine blk_alloc ?_ _)); exact BK490.out)) : gb490 ≠ gb511)); have n11_ := Aside0.mk ((by rw [hg]; exact Nat.ne_of_gt (blk_lt (g := gb490) (o := .cells #[.int .i64 a1_0, .int .i64 a1_1] 23 (0, 0)) (by (with_reducible repeat (first | refine blk_drewN ?_ _ | refine blk_drew ?_ | refine blk_alloc ?_ _)); exact BK490.out)) : gb511 ≠ gb490)); have n12_ := Aside0.mk ((by rw [hg]; exact Nat.ne_of_lt (blk_lt (g := gb491) (o := .cells #[.int .i64 a2_0, .int .i64 a2_1] 23 (0, 0)) (by (with_reducible repeat (first | refine blk_drewN ?_ _ | refine blk_drew ?_ | refine blk_alloc ?_ _)); exact BK491.out)) : gb491 ≠ gb511)); have n13_ := Aside0.mk ((by rw [hg]; exact Nat.ne_of_gt (blk_lt (g := gb491) (o := .cells #[.int .i64 a2_0, .int .i64 a2_1] 23 (0, 0)) (by (with_reducible repeat (first | refine blk_drewN ?_ _ | refine blk_drew ?_ | refine blk_alloc ?_ _)); exact BK491.out)) : gb511 ≠ gb491)); have n14_ := Aside0.mk ((by rw [hg]; exact Nat.ne_of_lt (blk_lt (g := gb507) (o := .cells #[.int .i64 t504, .int .i64 t505] 23 (0, 0)) (by (with_reducible repeat (first | refine blk_drewN ?_ _ | refine blk_drew ?_ | refine blk_alloc ?_ _)); exact BK507.out)) : gb507 ≠ gb511)); have n15_ := Aside0.mk ((by rw [hg]; exact Nat.ne_of_gt (blk_lt (g := gb507) (o := .cells #[.int .i64 t504, .int .i64 t505] 23 (0, 0)) (by (with_reducible repeat (first | refine blk_drewN ?_ _ | refine blk_drew ?_ | refine blk_alloc ?_ _)); exact BK507.out)) : gb511 ≠ gb507)); clear BK489; clear BK490; clear BK491; clear BK507; clear HB; have BK489 := n0_; have BK490 := n1_; have BK491 := n2_; have BK507 := n3_; have HB := n4_; have BK511 := n5_; have GW511 := n6_; have GE511 := n7_; have NB489_511 := n8_; have NB511_489 := n9_; have NB490_511 := n10_; have NB511_490 := n11_; have NB491_511 := n12_; have NB511_491 := n13_; have NB507_511 := n14_; have NB511_507 := n15_; clear n0_ n1_ n2_ n3_ n4_ n5_ n6_ n7_ n8_ n9_ n10_ n11_ n12_ n13_ n14_ n15_; clear hb hbox hg; have hnb126 := NB511_489.out; have hnc126 := NB489_511.out; have hnb127 := NB511_490.out; have hnc127 := NB490_511.out; have hnb128 := NB511_491.out; have hnc128 := NB491_511.out; have hnb129 := NB511_507.out; have hnc129 := NB507_511.out; have hcz130_0 : w125.cell? ⟨gb511, 0, none⟩ = some (.int .i64 0) := (blk_cell BK511.out 0).trans rfl; have hcz130_1 : w125.cell? ⟨gb511, 1, none⟩ = some (.int .i64 0) := (blk_cell BK511.out 1).trans rfl; have hfz130_0 := blk_frozen BK511.out 0; have hfz130_1 := blk_frozen BK511.out 1))
                (try simp only [Act.put, List.setIfInBounds_toArray, List.set_cons_zero, List.set_cons_succ])
                go_cut [139] (fun v139 wc => ∃ (kq : Nat) (x139_109 : Bool), v139 = .bool x139_109 ∧ Aside0 (sizarlaw05_RatioOrder.j2 kq t496 x139_109 a0_0 a0_1 a1_0 a1_1 a2_0 a2_1 t504 t505 t508 t509 = some r) ∧ Aside0 (kq ≤ kj40) ∧ Aside0 (wc.heap[gb489]? = some (.cells #[.int .i64 a0_0, .int .i64 a0_1] 23 (0, 0))) ∧ Aside0 (wc.heap[gb490]? = some (.cells #[.int .i64 a1_0, .int .i64 a1_1] 23 (0, 0))) ∧ Aside0 (wc.heap[gb491]? = some (.cells #[.int .i64 a2_0, .int .i64 a2_1] 23 (0, 0))) ∧ Aside0 (wc.heap[gb507]? = some (.cells #[.int .i64 t504, .int .i64 t505] 23 (0, 0))) ∧ Aside0 (wc.heap[gb511]? = some (.cells #[.int .i64 t508, .int .i64 t509] 23 (0, 0))) ∧ Aside0 (Below w.heap.size w wc))
                case first =>
                  as_aux_lemma =>
                  have H := HC110.out
                  clear HC110
                  by_cases c131 : t506 = 0
                  · rw [if_pos c131] at H
                    have c131b0 : (t506 == 0) = true := beq_iff_eq.mpr c131
                    have c131b1 : (t506 != 0) = false := bne_eq_false_iff_eq.mpr c131
                    clear c131
                    (first | rw [c131b0] | (simp only [i64_w, i32_w]; rw [c131b0]) | skip)
                    have H' := Aside0.mk H
                    clear H
                    go_wp2
                    go_meet
                    case rel => exact ⟨_, ((t510 == 0)), (by first | rfl | (simp; done) | (simp [*]; done)), H', ⟨by have := HJ5.out; have := HJ40.out; first | omega | exact Nat.le_refl _⟩, ⟨by (with_reducible repeat (first | refine blk_drewN ?_ _ | refine blk_drew ?_ | refine blk_alloc ?_ _)); refine blk_far ?_ NB489_511.out _; (with_reducible repeat (first | refine blk_drewN ?_ _ | refine blk_drew ?_ | refine blk_alloc ?_ _)); refine blk_far ?_ NB489_511.out _; (with_reducible repeat (first | refine blk_drewN ?_ _ | refine blk_drew ?_ | refine blk_alloc ?_ _)); exact BK489.out⟩, ⟨by (with_reducible repeat (first | refine blk_drewN ?_ _ | refine blk_drew ?_ | refine blk_alloc ?_ _)); refine blk_far ?_ NB490_511.out _; (with_reducible repeat (first | refine blk_drewN ?_ _ | refine blk_drew ?_ | refine blk_alloc ?_ _)); refine blk_far ?_ NB490_511.out _; (with_reducible repeat (first | refine blk_drewN ?_ _ | refine blk_drew ?_ | refine blk_alloc ?_ _)); exact BK490.out⟩, ⟨by (with_reducible repeat (first | refine blk_drewN ?_ _ | refine blk_drew ?_ | refine blk_alloc ?_ _)); refine blk_far ?_ NB491_511.out _; (with_reducible repeat (first | refine blk_drewN ?_ _ | refine blk_drew ?_ | refine blk_alloc ?_ _)); refine blk_far ?_ NB491_511.out _; (with_reducible repeat (first | refine blk_drewN ?_ _ | refine blk_drew ?_ | refine blk_alloc ?_ _)); exact BK491.out⟩, ⟨by (with_reducible repeat (first | refine blk_drewN ?_ _ | refine blk_drew ?_ | refine blk_alloc ?_ _)); refine blk_far ?_ NB507_511.out _; (with_reducible repeat (first | refine blk_drewN ?_ _ | refine blk_drew ?_ | refine blk_alloc ?_ _)); refine blk_far ?_ NB507_511.out _; (with_reducible repeat (first | refine blk_drewN ?_ _ | refine blk_drew ?_ | refine blk_alloc ?_ _)); exact BK507.out⟩, ⟨by (with_reducible repeat (first | refine blk_drewN ?_ _ | refine blk_drew ?_ | refine blk_alloc ?_ _)); refine blk_put (cs := #[.int .i64 t508, .int .i64 0]) ?_ 1 _ rfl; (with_reducible repeat (first | refine blk_drewN ?_ _ | refine blk_drew ?_ | refine blk_alloc ?_ _)); refine blk_put (cs := #[.int .i64 0, .int .i64 0]) ?_ 0 _ rfl; (with_reducible repeat (first | refine blk_drewN ?_ _ | refine blk_drew ?_ | refine blk_alloc ?_ _)); exact BK511.out⟩, ⟨by repeat (first | (with_reducible first | exact HB.out | apply below_alloc | apply pw_below_drewN | apply below_drew1 | refine below_set ?_ GE489.out | refine below_set ?_ GE490.out | refine below_set ?_ GE491.out | refine below_set ?_ GE507.out | refine below_set ?_ GE511.out) | exact HB.out)⟩⟩
                  · rw [if_neg c131] at H
                    have c131b0 : (t506 == 0) = false := beq_eq_false_iff_ne.mpr c131
                    have c131b1 : (t506 != 0) = true := bne_iff_ne.mpr c131
                    (first | rw [c131b0] | (simp only [i64_w, i32_w]; rw [c131b0]) | skip)
                    have H' := Aside0.mk H
                    clear H
                    go_wp2
                    go_meet
                    case rel => exact ⟨_, (false), (by first | rfl | (simp; done) | (simp [*]; done)), H', ⟨by have := HJ5.out; have := HJ40.out; first | omega | exact Nat.le_refl _⟩, ⟨by (with_reducible repeat (first | refine blk_drewN ?_ _ | refine blk_drew ?_ | refine blk_alloc ?_ _)); refine blk_far ?_ NB489_511.out _; (with_reducible repeat (first | refine blk_drewN ?_ _ | refine blk_drew ?_ | refine blk_alloc ?_ _)); refine blk_far ?_ NB489_511.out _; (with_reducible repeat (first | refine blk_drewN ?_ _ | refine blk_drew ?_ | refine blk_alloc ?_ _)); exact BK489.out⟩, ⟨by (with_reducible repeat (first | refine blk_drewN ?_ _ | refine blk_drew ?_ | refine blk_alloc ?_ _)); refine blk_far ?_ NB490_511.out _; (with_reducible repeat (first | refine blk_drewN ?_ _ | refine blk_drew ?_ | refine blk_alloc ?_ _)); refine blk_far ?_ NB490_511.out _; (with_reducible repeat (first | refine blk_drewN ?_ _ | refine blk_drew ?_ | refine blk_alloc ?_ _)); exact BK490.out⟩, ⟨by (with_reducible repeat (first | refine blk_drewN ?_ _ | refine blk_drew ?_ | refine blk_alloc ?_ _)); refine blk_far ?_ NB491_511.out _; (with_reducible repeat (first | refine blk_drewN ?_ _ | refine blk_drew ?_ | refine blk_alloc ?_ _)); refine blk_far ?_ NB491_511.out _; (with_reducible repeat (first | refine blk_drewN ?_ _ | refine blk_drew ?_ | refine blk_alloc ?_ _)); exact BK491.out⟩, ⟨by (with_reducible repeat (first | refine blk_drewN ?_ _ | refine blk_drew ?_ | refine blk_alloc ?_ _)); refine blk_far ?_ NB507_511.out _; (with_reducible repeat (first | refine blk_drewN ?_ _ | refine blk_drew ?_ | refine blk_alloc ?_ _)); refine blk_far ?_ NB507_511.out _; (with_reducible repeat (first | refine blk_drewN ?_ _ | refine blk_drew ?_ | refine blk_alloc ?_ _)); exact BK507.out⟩, ⟨by (with_reducible repeat (first | refine blk_drewN ?_ _ | refine blk_drew ?_ | refine blk_alloc ?_ _)); refine blk_put (cs := #[.int .i64 t508, .int .i64 0]) ?_ 1 _ rfl; (with_reducible repeat (first | refine blk_drewN ?_ _ | refine blk_drew ?_ | refine blk_alloc ?_ _)); refine blk_put (cs := #[.int .i64 0, .int .i64 0]) ?_ 0 _ rfl; (with_reducible repeat (first | refine blk_drewN ?_ _ | refine blk_drew ?_ | refine blk_alloc ?_ _)); exact BK511.out⟩, ⟨by repeat (first | (with_reducible first | exact HB.out | apply below_alloc | apply pw_below_drewN | apply below_drew1 | refine below_set ?_ GE489.out | refine below_set ?_ GE490.out | refine below_set ?_ GE491.out | refine below_set ?_ GE507.out | refine below_set ?_ GE511.out) | exact HB.out)⟩⟩
                case rest =>
                  as_aux_lemma =>
                  clear HC110
                  try clear c1
                  try clear c2
                  try clear p2
                  try clear c3
                  try clear c4
                  try clear c5
                  try clear c6
                  try clear p6
                  try clear c7
                  try clear c8
                  try clear c9
                  try clear c10
                  try clear c11
                  try clear c12
                  try clear c12b0
                  try clear c12b1
                  try clear c13
                  try clear c14
                  try clear c14b0
                  try clear c14b1
                  try clear c16
                  try clear c17
                  try clear c18
                  try clear c20
                  try clear c21
                  try clear c23
                  try clear c25
                  try clear c26
                  try clear c27
                  try clear c29
                  try clear c32
                  try clear c33
                  try clear c36
                  try clear c42
                  try clear c43
                  try clear c45
                  try clear c57
                  try clear c57b0
                  try clear c57b1
                  try clear c58
                  try clear c58b0
                  try clear c58b1
                  try clear c59
                  try clear c59b0
                  try clear c59b1
                  try clear c60
                  try clear c60b0
                  try clear c60b1
                  try clear c61
                  try clear c61b0
                  try clear c61b1
                  try clear c62
                  try clear c62b0
                  try clear c63
                  try clear c63b0
                  try clear c64
                  try clear c64b0
                  try clear c64b1
                  try clear c64b2
                  try clear p64
                  try clear c65
                  try clear c65b0
                  try clear c66
                  try clear c66b0
                  try clear c67
                  try clear c67b0
                  try clear c68
                  try clear c68b0
                  try clear c69
                  try clear c70
                  try clear c72
                  try clear c74
                  try clear c75
                  try clear c77
                  try clear c79
                  try clear c79b0
                  try clear c80
                  try clear c81
                  try clear c83
                  try clear c85
                  try clear c86
                  try clear c88
                  try clear c90
                  try clear c90b0
                  try clear c91
                  try clear c91b0
                  try clear c92
                  try clear c93
                  try clear c95
                  try clear c97
                  try clear c98
                  try clear c100
                  try clear c102
                  try clear c103
                  try clear c105
                  try clear c107
                  try clear c111
                  try clear c112
                  try clear c114
                  try clear c118
                  try clear c119
                  try clear c120
                  try clear c126
                  try clear c127
                  try clear c128
                  try clear c129
                  try clear c131
                  try clear c131b0
                  try clear c131b1
                  try clear hcz101_0
                  try clear hcz101_1
                  try clear hcz104_0
                  try clear hcz104_1
                  try clear hcz106_0
                  try clear hcz106_1
                  try clear hcz113_0
                  try clear hcz113_1
                  try clear hcz115_0
                  try clear hcz115_1
                  try clear hcz121_0
                  try clear hcz121_1
                  try clear hcz122_0
                  try clear hcz122_1
                  try clear hcz123_0
                  try clear hcz123_1
                  try clear hcz130_0
                  try clear hcz130_1
                  try clear hcz18_0
                  try clear hcz18_1
                  try clear hcz21_0
                  try clear hcz21_1
                  try clear hcz23_0
                  try clear hcz23_1
                  try clear hcz27_0
                  try clear hcz27_1
                  try clear hcz30_0
                  try clear hcz30_1
                  try clear hcz34_0
                  try clear hcz34_1
                  try clear hcz44_0
                  try clear hcz44_1
                  try clear hcz46_0
                  try clear hcz46_1
                  try clear hcz48_0
                  try clear hcz48_1
                  try clear hcz49_0
                  try clear hcz49_1
                  try clear hcz51_0
                  try clear hcz51_1
                  try clear hcz52_0
                  try clear hcz52_1
                  try clear hcz54_0
                  try clear hcz54_1
                  try clear hcz55_0
                  try clear hcz55_1
                  try clear hcz71_0
                  try clear hcz71_1
                  try clear hcz73_0
                  try clear hcz73_1
                  try clear hcz76_0
                  try clear hcz76_1
                  try clear hcz78_0
                  try clear hcz78_1
                  try clear hcz82_0
                  try clear hcz82_1
                  try clear hcz84_0
                  try clear hcz84_1
                  try clear hcz87_0
                  try clear hcz87_1
                  try clear hcz89_0
                  try clear hcz89_1
                  try clear hcz94_0
                  try clear hcz94_1
                  try clear hcz96_0
                  try clear hcz96_1
                  try clear hcz99_0
                  try clear hcz99_1
                  try clear hfz101_0
                  try clear hfz101_1
                  try clear hfz104_0
                  try clear hfz104_1
                  try clear hfz106_0
                  try clear hfz106_1
                  try clear hfz113_0
                  try clear hfz113_1
                  try clear hfz115_0
                  try clear hfz115_1
                  try clear hfz121_0
                  try clear hfz121_1
                  try clear hfz122_0
                  try clear hfz122_1
                  try clear hfz123_0
                  try clear hfz123_1
                  try clear hfz130_0
                  try clear hfz130_1
                  try clear hfz18_0
                  try clear hfz18_1
                  try clear hfz21_0
                  try clear hfz21_1
                  try clear hfz23_0
                  try clear hfz23_1
                  try clear hfz27_0
                  try clear hfz27_1
                  try clear hfz30_0
                  try clear hfz30_1
                  try clear hfz34_0
                  try clear hfz34_1
                  try clear hfz44_0
                  try clear hfz44_1
                  try clear hfz46_0
                  try clear hfz46_1
                  try clear hfz48_0
                  try clear hfz48_1
                  try clear hfz49_0
                  try clear hfz49_1
                  try clear hfz51_0
                  try clear hfz51_1
                  try clear hfz52_0
                  try clear hfz52_1
                  try clear hfz54_0
                  try clear hfz54_1
                  try clear hfz55_0
                  try clear hfz55_1
                  try clear hfz71_0
                  try clear hfz71_1
                  try clear hfz73_0
                  try clear hfz73_1
                  try clear hfz76_0
                  try clear hfz76_1
                  try clear hfz78_0
                  try clear hfz78_1
                  try clear hfz82_0
                  try clear hfz82_1
                  try clear hfz84_0
                  try clear hfz84_1
                  try clear hfz87_0
                  try clear hfz87_1
                  try clear hfz89_0
                  try clear hfz89_1
                  try clear hfz94_0
                  try clear hfz94_1
                  try clear hfz96_0
                  try clear hfz96_1
                  try clear hfz99_0
                  try clear hfz99_1
                  try clear p2
                  try clear p6
                  try clear p64
                  obtain ⟨kq, x139_109, rfl, HA, HJ109, BK489, BK490, BK491, BK507, BK511, HB⟩ := hcut
                  cases kq with
                  | zero => exact absurd HA.out (by simp [sizarlaw05_RatioOrder.j2])
                  | succ kj109 =>
                    have H := HA.out
                    clear HA
                    simp only [sizarlaw05_RatioOrder.j2] at H
                    have HC132 := Aside0.mk H
                    clear H
                    go_upto_if 139 with (fail)
                    go_cut [] (fun wc => ∃ (kq : Nat), Aside0 (sizarlaw05_RatioOrder.j3 kq t496 a0_0 a0_1 a1_0 a1_1 a2_0 a2_1 = some r) ∧ Aside0 (kq ≤ kj109) ∧ Aside0 (wc.heap[gb489]? = some (.cells #[.int .i64 a0_0, .int .i64 a0_1] 23 (0, 0))) ∧ Aside0 (wc.heap[gb490]? = some (.cells #[.int .i64 a1_0, .int .i64 a1_1] 23 (0, 0))) ∧ Aside0 (wc.heap[gb491]? = some (.cells #[.int .i64 a2_0, .int .i64 a2_1] 23 (0, 0))) ∧ Aside0 (wc.heap[gb507]? = some (.cells #[.int .i64 t504, .int .i64 t505] 23 (0, 0))) ∧ Aside0 (wc.heap[gb511]? = some (.cells #[.int .i64 t508, .int .i64 t509] 23 (0, 0))) ∧ Aside0 (Below w.heap.size w wc))
                    case first =>
                      as_aux_lemma =>
                      have H := HC132.out
                      clear HC132
                      by_cases c133 : x139_109 = true
                      · subst c133
                        have H1 : ((ratio_Compare.f t504 t505 t508 t509).bind fun bt512 => (if bt512.2 = 0 then (if bt512.1 = t496 then (sizarlaw05_RatioOrder.j3 kj109 t496 a0_0 a0_1 a1_0 a1_1 a2_0 a2_1) else (some false)) else (some false))) = some r := by rw [if_pos rfl] at H; exact H
                        clear H
                        have H := H1
                        clear H1
                        replace H := Option.bind_eq_some_iff.mp H
                        obtain ⟨⟨t512, t513⟩, A1340, H⟩ := H
                        replace H : (if t513 = 0 then (if t512 = t496 then (sizarlaw05_RatioOrder.j3 kj109 t496 a0_0 a0_1 a1_0 a1_1 a2_0 a2_1) else (some false)) else (some false)) = some r := H
                        have A134 := Aside0.mk A1340
                        clear A1340
                        by_cases c135 : t513 = 0
                        · rw [if_pos c135] at H
                          have c135b0 : (t513 == 0) = true := beq_iff_eq.mpr c135
                          have c135b1 : (t513 != 0) = false := bne_eq_false_iff_eq.mpr c135
                          clear c135
                          (first | rw [c135b0] | (simp only [i64_w, i32_w]; rw [c135b0]) | skip)
                          by_cases c136 : t512 = t496
                          · rw [if_pos c136] at H
                            have c136b0 : (t512 == t496) = true := beq_iff_eq.mpr c136
                            have c136b1 : (t512 != t496) = false := bne_eq_false_iff_eq.mpr c136
                            clear c136
                            have H' := Aside0.mk H
                            clear H
                            have hnb137 := NB507_489.out
                            have hnc137 := NB489_507.out
                            have hnb138 := NB507_490.out
                            have hnc138 := NB490_507.out
                            have hnb139 := NB507_491.out
                            have hnc139 := NB491_507.out
                            have hnb140 := NB507_511.out
                            have hnc140 := NB511_507.out
                            have hcz141_0 : wc.cell? ⟨gb507, 0, none⟩ = some (.int .i64 t504) := (blk_cell BK507.out 0).trans rfl
                            have hcz141_1 : wc.cell? ⟨gb507, 1, none⟩ = some (.int .i64 t505) := (blk_cell BK507.out 1).trans rfl
                            have hfz141_0 := blk_frozen BK507.out 0
                            have hfz141_1 := blk_frozen BK507.out 1
                            have hnb142 := NB511_489.out
                            have hnc142 := NB489_511.out
                            have hnb143 := NB511_490.out
                            have hnc143 := NB490_511.out
                            have hnb144 := NB511_491.out
                            have hnc144 := NB491_511.out
                            have hcz145_0 : wc.cell? ⟨gb511, 0, none⟩ = some (.int .i64 t508) := (blk_cell BK511.out 0).trans rfl
                            have hcz145_1 : wc.cell? ⟨gb511, 1, none⟩ = some (.int .i64 t509) := (blk_cell BK511.out 1).trans rfl
                            have hfz145_0 := blk_frozen BK511.out 0
                            have hfz145_1 := blk_frozen BK511.out 1
                            go_wp2_with (first | ((with_reducible refine gate_callee (f := 27) rfl ?_); refine goesL_ (some 143) rfl rfl Try.func27 (by kernel_rfl) rfl #[.agg #[.int .i64 t504, .int .i64 t505], .agg #[.int .i64 t508, .int .i64 t509]] rfl (by (try simp only [List.map_toArray, List.map_cons, List.map_nil]); first | done | rfl | (simp only [List.length_drop, List.length_take]; rfl)) ?_; (with_reducible refine (ratio_Compare.calls t504 t505 t508 t509 t512 t513 _ A134.out).mono ?_); rintro e w146 ⟨rfl, hb⟩; refine ⟨_, rfl, ?_⟩; have n0_ := Aside0.mk (blk_below (g := gb489) (o := .cells #[.int .i64 a0_0, .int .i64 a0_1] 23 (0, 0)) (by (with_reducible repeat (first | refine blk_drewN ?_ _ | refine blk_drew ?_ | refine blk_alloc ?_ _)); exact BK489.out) hb); have n1_ := Aside0.mk (blk_below (g := gb490) (o := .cells #[.int .i64 a1_0, .int .i64 a1_1] 23 (0, 0)) (by (with_reducible repeat (first | refine blk_drewN ?_ _ | refine blk_drew ?_ | refine blk_alloc ?_ _)); exact BK490.out) hb); have n2_ := Aside0.mk (blk_below (g := gb491) (o := .cells #[.int .i64 a2_0, .int .i64 a2_1] 23 (0, 0)) (by (with_reducible repeat (first | refine blk_drewN ?_ _ | refine blk_drew ?_ | refine blk_alloc ?_ _)); exact BK491.out) hb); have n3_ := Aside0.mk (blk_below (g := gb507) (o := .cells #[.int .i64 t504, .int .i64 t505] 23 (0, 0)) (by (with_reducible repeat (first | refine blk_drewN ?_ _ | refine blk_drew ?_ | refine blk_alloc ?_ _)); exact BK507.out) hb); have n4_ := Aside0.mk (blk_below (g := gb511) (o := .cells #[.int .i64 t508, .int .i64 t509] 23 (0, 0)) (by (with_reducible repeat (first | refine blk_drewN ?_ _ | refine blk_drew ?_ | refine blk_alloc ?_ _)); exact BK511.out) hb); have n5_ := Aside0.mk (below_step (by repeat (first | (with_reducible first | exact HB.out | apply below_alloc | apply pw_below_drewN | apply below_drew1 | refine below_set ?_ GE489.out | refine below_set ?_ GE490.out | refine below_set ?_ GE491.out | refine below_set ?_ GE507.out | refine below_set ?_ GE511.out) | exact HB.out)) hb); clear BK489; clear BK490; clear BK491; clear BK507; clear BK511; clear HB; have BK489 := n0_; have BK490 := n1_; have BK491 := n2_; have BK507 := n3_; have BK511 := n4_; have HB := n5_; clear n0_ n1_ n2_ n3_ n4_ n5_; (try clear hb); (try clear hb2); (try clear hk); (try clear hi)))
                            go_meet
                            case rel => exact ⟨_, H', ⟨by have := HJ5.out; have := HJ40.out; have := HJ109.out; first | omega | exact Nat.le_refl _⟩, ⟨by (with_reducible repeat (first | refine blk_drewN ?_ _ | refine blk_drew ?_ | refine blk_alloc ?_ _)); exact BK489.out⟩, ⟨by (with_reducible repeat (first | refine blk_drewN ?_ _ | refine blk_drew ?_ | refine blk_alloc ?_ _)); exact BK490.out⟩, ⟨by (with_reducible repeat (first | refine blk_drewN ?_ _ | refine blk_drew ?_ | refine blk_alloc ?_ _)); exact BK491.out⟩, ⟨by (with_reducible repeat (first | refine blk_drewN ?_ _ | refine blk_drew ?_ | refine blk_alloc ?_ _)); exact BK507.out⟩, ⟨by (with_reducible repeat (first | refine blk_drewN ?_ _ | refine blk_drew ?_ | refine blk_alloc ?_ _)); exact BK511.out⟩, ⟨by repeat (first | (with_reducible first | exact HB.out | apply below_alloc | apply pw_below_drewN | apply below_drew1 | refine below_set ?_ GE489.out | refine below_set ?_ GE490.out | refine below_set ?_ GE491.out | refine below_set ?_ GE507.out | refine below_set ?_ GE511.out) | exact HB.out)⟩⟩
                          · rw [if_neg c136] at H
                            have c136b0 : (t512 == t496) = false := beq_eq_false_iff_ne.mpr c136
                            have c136b1 : (t512 != t496) = true := bne_iff_ne.mpr c136
                            exact absurd ((Option.some.inj H).trans hrt.out) (by decide)
                        · rw [if_neg c135] at H
                          have c135b0 : (t513 == 0) = false := beq_eq_false_iff_ne.mpr c135
                          have c135b1 : (t513 != 0) = true := bne_iff_ne.mpr c135
                          (first | rw [c135b0] | (simp only [i64_w, i32_w]; rw [c135b0]) | skip)
                          exact absurd ((Option.some.inj H).trans hrt.out) (by decide)
                      · replace c133 := Bool.eq_false_iff.mpr c133
                        subst c133
                        have H1 : (sizarlaw05_RatioOrder.j3 kj109 t496 a0_0 a0_1 a1_0 a1_1 a2_0 a2_1) = some r := by rw [if_neg (show ¬ (false = true) by decide)] at H; exact H
                        clear H
                        have H := H1
                        clear H1
                        have H' := Aside0.mk H
                        clear H
                        go_wp2
                        go_meet
                        case rel => exact ⟨_, H', ⟨by have := HJ5.out; have := HJ40.out; have := HJ109.out; first | omega | exact Nat.le_refl _⟩, ⟨by (with_reducible repeat (first | refine blk_drewN ?_ _ | refine blk_drew ?_ | refine blk_alloc ?_ _)); exact BK489.out⟩, ⟨by (with_reducible repeat (first | refine blk_drewN ?_ _ | refine blk_drew ?_ | refine blk_alloc ?_ _)); exact BK490.out⟩, ⟨by (with_reducible repeat (first | refine blk_drewN ?_ _ | refine blk_drew ?_ | refine blk_alloc ?_ _)); exact BK491.out⟩, ⟨by (with_reducible repeat (first | refine blk_drewN ?_ _ | refine blk_drew ?_ | refine blk_alloc ?_ _)); exact BK507.out⟩, ⟨by (with_reducible repeat (first | refine blk_drewN ?_ _ | refine blk_drew ?_ | refine blk_alloc ?_ _)); exact BK511.out⟩, ⟨by repeat (first | (with_reducible first | exact HB.out | apply below_alloc | apply pw_below_drewN | apply below_drew1 | refine below_set ?_ GE489.out | refine below_set ?_ GE490.out | refine below_set ?_ GE491.out | refine below_set ?_ GE507.out | refine below_set ?_ GE511.out) | exact HB.out)⟩⟩
                    case rest =>
                      as_aux_lemma =>
                      clear HC132
                      try clear c1
                      try clear c2
                      try clear p2
                      try clear c3
                      try clear c4
                      try clear c5
                      try clear c6
                      try clear p6
                      try clear c7
                      try clear c8
                      try clear c9
                      try clear c10
                      try clear c11
                      try clear c12
                      try clear c12b0
                      try clear c12b1
                      try clear c13
                      try clear c14
                      try clear c14b0
                      try clear c14b1
                      try clear c16
                      try clear c17
                      try clear c18
                      try clear c20
                      try clear c21
                      try clear c23
                      try clear c25
                      try clear c26
                      try clear c27
                      try clear c29
                      try clear c32
                      try clear c33
                      try clear c36
                      try clear c42
                      try clear c43
                      try clear c45
                      try clear c57
                      try clear c57b0
                      try clear c57b1
                      try clear c58
                      try clear c58b0
                      try clear c58b1
                      try clear c59
                      try clear c59b0
                      try clear c59b1
                      try clear c60
                      try clear c60b0
                      try clear c60b1
                      try clear c61
                      try clear c61b0
                      try clear c61b1
                      try clear c62
                      try clear c62b0
                      try clear c63
                      try clear c63b0
                      try clear c64
                      try clear c64b0
                      try clear c64b1
                      try clear c64b2
                      try clear p64
                      try clear c65
                      try clear c65b0
                      try clear c66
                      try clear c66b0
                      try clear c67
                      try clear c67b0
                      try clear c68
                      try clear c68b0
                      try clear c69
                      try clear c70
                      try clear c72
                      try clear c74
                      try clear c75
                      try clear c77
                      try clear c79
                      try clear c79b0
                      try clear c80
                      try clear c81
                      try clear c83
                      try clear c85
                      try clear c86
                      try clear c88
                      try clear c90
                      try clear c90b0
                      try clear c91
                      try clear c91b0
                      try clear c92
                      try clear c93
                      try clear c95
                      try clear c97
                      try clear c98
                      try clear c100
                      try clear c102
                      try clear c103
                      try clear c105
                      try clear c107
                      try clear c111
                      try clear c112
                      try clear c114
                      try clear c118
                      try clear c119
                      try clear c120
                      try clear c126
                      try clear c127
                      try clear c128
                      try clear c129
                      try clear c131
                      try clear c131b0
                      try clear c131b1
                      try clear c133
                      try clear c135
                      try clear c135b0
                      try clear c135b1
                      try clear c136
                      try clear c136b0
                      try clear c136b1
                      try clear c137
                      try clear c138
                      try clear c139
                      try clear c140
                      try clear c142
                      try clear c143
                      try clear c144
                      try clear hcz101_0
                      try clear hcz101_1
                      try clear hcz104_0
                      try clear hcz104_1
                      try clear hcz106_0
                      try clear hcz106_1
                      try clear hcz113_0
                      try clear hcz113_1
                      try clear hcz115_0
                      try clear hcz115_1
                      try clear hcz121_0
                      try clear hcz121_1
                      try clear hcz122_0
                      try clear hcz122_1
                      try clear hcz123_0
                      try clear hcz123_1
                      try clear hcz130_0
                      try clear hcz130_1
                      try clear hcz141_0
                      try clear hcz141_1
                      try clear hcz145_0
                      try clear hcz145_1
                      try clear hcz18_0
                      try clear hcz18_1
                      try clear hcz21_0
                      try clear hcz21_1
                      try clear hcz23_0
                      try clear hcz23_1
                      try clear hcz27_0
                      try clear hcz27_1
                      try clear hcz30_0
                      try clear hcz30_1
                      try clear hcz34_0
                      try clear hcz34_1
                      try clear hcz44_0
                      try clear hcz44_1
                      try clear hcz46_0
                      try clear hcz46_1
                      try clear hcz48_0
                      try clear hcz48_1
                      try clear hcz49_0
                      try clear hcz49_1
                      try clear hcz51_0
                      try clear hcz51_1
                      try clear hcz52_0
                      try clear hcz52_1
                      try clear hcz54_0
                      try clear hcz54_1
                      try clear hcz55_0
                      try clear hcz55_1
                      try clear hcz71_0
                      try clear hcz71_1
                      try clear hcz73_0
                      try clear hcz73_1
                      try clear hcz76_0
                      try clear hcz76_1
                      try clear hcz78_0
                      try clear hcz78_1
                      try clear hcz82_0
                      try clear hcz82_1
                      try clear hcz84_0
                      try clear hcz84_1
                      try clear hcz87_0
                      try clear hcz87_1
                      try clear hcz89_0
                      try clear hcz89_1
                      try clear hcz94_0
                      try clear hcz94_1
                      try clear hcz96_0
                      try clear hcz96_1
                      try clear hcz99_0
                      try clear hcz99_1
                      try clear hfz101_0
                      try clear hfz101_1
                      try clear hfz104_0
                      try clear hfz104_1
                      try clear hfz106_0
                      try clear hfz106_1
                      try clear hfz113_0
                      try clear hfz113_1
                      try clear hfz115_0
                      try clear hfz115_1
                      try clear hfz121_0
                      try clear hfz121_1
                      try clear hfz122_0
                      try clear hfz122_1
                      try clear hfz123_0
                      try clear hfz123_1
                      try clear hfz130_0
                      try clear hfz130_1
                      try clear hfz141_0
                      try clear hfz141_1
                      try clear hfz145_0
                      try clear hfz145_1
                      try clear hfz18_0
                      try clear hfz18_1
                      try clear hfz21_0
                      try clear hfz21_1
                      try clear hfz23_0
                      try clear hfz23_1
                      try clear hfz27_0
                      try clear hfz27_1
                      try clear hfz30_0
                      try clear hfz30_1
                      try clear hfz34_0
                      try clear hfz34_1
                      try clear hfz44_0
                      try clear hfz44_1
                      try clear hfz46_0
                      try clear hfz46_1
                      try clear hfz48_0
                      try clear hfz48_1
                      try clear hfz49_0
                      try clear hfz49_1
                      try clear hfz51_0
                      try clear hfz51_1
                      try clear hfz52_0
                      try clear hfz52_1
                      try clear hfz54_0
                      try clear hfz54_1
                      try clear hfz55_0
                      try clear hfz55_1
                      try clear hfz71_0
                      try clear hfz71_1
                      try clear hfz73_0
                      try clear hfz73_1
                      try clear hfz76_0
                      try clear hfz76_1
                      try clear hfz78_0
                      try clear hfz78_1
                      try clear hfz82_0
                      try clear hfz82_1
                      try clear hfz84_0
                      try clear hfz84_1
                      try clear hfz87_0
                      try clear hfz87_1
                      try clear hfz89_0
                      try clear hfz89_1
                      try clear hfz94_0
                      try clear hfz94_1
                      try clear hfz96_0
                      try clear hfz96_1
                      try clear hfz99_0
                      try clear hfz99_1
                      try clear p2
                      try clear p6
                      try clear p64
                      obtain ⟨kq, HA, HJ131, BK489, BK490, BK491, BK507, BK511, HB⟩ := hcut
                      cases kq with
                      | zero => exact absurd HA.out (by simp [sizarlaw05_RatioOrder.j3])
                      | succ kj131 =>
                        have H := HA.out
                        clear HA
                        simp only [sizarlaw05_RatioOrder.j3] at H
                        replace H := Option.bind_eq_some_iff.mp H
                        obtain ⟨⟨t514, t515, t516⟩, A1470, H⟩ := H
                        replace H : ((ratio_Mul.f a1_0 a1_1 a2_0 a2_1).bind fun bt517 => (if t516 = 0 then (if bt517.2.2 = 0 then (sizarlaw05_RatioOrder.j4 kj131 t496 (decide (a2_0 > 0)) t514 t515 bt517.1 bt517.2.1) else (sizarlaw05_RatioOrder.j4 kj131 t496 false t514 t515 bt517.1 bt517.2.1)) else (sizarlaw05_RatioOrder.j4 kj131 t496 false t514 t515 bt517.1 bt517.2.1))) = some r := H
                        have A147 := Aside0.mk A1470
                        clear A1470
                        replace H := Option.bind_eq_some_iff.mp H
                        obtain ⟨⟨t517, t518, t519⟩, A1480, H⟩ := H
                        replace H : (if t516 = 0 then (if t519 = 0 then (sizarlaw05_RatioOrder.j4 kj131 t496 (decide (a2_0 > 0)) t514 t515 t517 t518) else (sizarlaw05_RatioOrder.j4 kj131 t496 false t514 t515 t517 t518)) else (sizarlaw05_RatioOrder.j4 kj131 t496 false t514 t515 t517 t518)) = some r := H
                        have A148 := Aside0.mk A1480
                        clear A1480
                        have HC149 := Aside0.mk H
                        clear H
                        have hnb150 := NB489_490.out
                        have hnc150 := NB490_489.out
                        have hnb151 := NB489_491.out
                        have hnc151 := NB491_489.out
                        have hnb152 := NB489_507.out
                        have hnc152 := NB507_489.out
                        have hnb153 := NB489_511.out
                        have hnc153 := NB511_489.out
                        have hcz154_0 : wc.cell? ⟨gb489, 0, none⟩ = some (.int .i64 a0_0) := (blk_cell BK489.out 0).trans rfl
                        have hcz154_1 : wc.cell? ⟨gb489, 1, none⟩ = some (.int .i64 a0_1) := (blk_cell BK489.out 1).trans rfl
                        have hfz154_0 := blk_frozen BK489.out 0
                        have hfz154_1 := blk_frozen BK489.out 1
                        have hnb155 := NB491_490.out
                        have hnc155 := NB490_491.out
                        have hnb156 := NB491_507.out
                        have hnc156 := NB507_491.out
                        have hnb157 := NB491_511.out
                        have hnc157 := NB511_491.out
                        have hcz158_0 : wc.cell? ⟨gb491, 0, none⟩ = some (.int .i64 a2_0) := (blk_cell BK491.out 0).trans rfl
                        have hcz158_1 : wc.cell? ⟨gb491, 1, none⟩ = some (.int .i64 a2_1) := (blk_cell BK491.out 1).trans rfl
                        have hfz158_0 := blk_frozen BK491.out 0
                        have hfz158_1 := blk_frozen BK491.out 1
                        go_upto_region 19 with (first | ((with_reducible refine gate_callee (f := 25) rfl ?_); refine goesL_ (some 156) rfl rfl Try.func25 (by kernel_rfl) rfl #[.agg #[.int .i64 a0_0, .int .i64 a0_1], .agg #[.int .i64 a2_0, .int .i64 a2_1]] rfl (by (try simp only [List.map_toArray, List.map_cons, List.map_nil]); first | done | rfl | (simp only [List.length_drop, List.length_take]; rfl)) ?_; (with_reducible refine (ratio_Mul.calls a0_0 a0_1 a2_0 a2_1 t514 t515 t516 _ A147.out).mono ?_); rintro e w159 ⟨rfl, hb⟩; refine ⟨_, rfl, ?_⟩; have n0_ := Aside0.mk (blk_below (g := gb489) (o := .cells #[.int .i64 a0_0, .int .i64 a0_1] 23 (0, 0)) (by (with_reducible repeat (first | refine blk_drewN ?_ _ | refine blk_drew ?_ | refine blk_alloc ?_ _)); exact BK489.out) hb); have n1_ := Aside0.mk (blk_below (g := gb490) (o := .cells #[.int .i64 a1_0, .int .i64 a1_1] 23 (0, 0)) (by (with_reducible repeat (first | refine blk_drewN ?_ _ | refine blk_drew ?_ | refine blk_alloc ?_ _)); exact BK490.out) hb); have n2_ := Aside0.mk (blk_below (g := gb491) (o := .cells #[.int .i64 a2_0, .int .i64 a2_1] 23 (0, 0)) (by (with_reducible repeat (first | refine blk_drewN ?_ _ | refine blk_drew ?_ | refine blk_alloc ?_ _)); exact BK491.out) hb); have n3_ := Aside0.mk (blk_below (g := gb507) (o := .cells #[.int .i64 t504, .int .i64 t505] 23 (0, 0)) (by (with_reducible repeat (first | refine blk_drewN ?_ _ | refine blk_drew ?_ | refine blk_alloc ?_ _)); exact BK507.out) hb); have n4_ := Aside0.mk (blk_below (g := gb511) (o := .cells #[.int .i64 t508, .int .i64 t509] 23 (0, 0)) (by (with_reducible repeat (first | refine blk_drewN ?_ _ | refine blk_drew ?_ | refine blk_alloc ?_ _)); exact BK511.out) hb); have n5_ := Aside0.mk (below_step (by repeat (first | (with_reducible first | exact HB.out | apply below_alloc | apply pw_below_drewN | apply below_drew1 | refine below_set ?_ GE489.out | refine below_set ?_ GE490.out | refine below_set ?_ GE491.out | refine below_set ?_ GE507.out | refine below_set ?_ GE511.out) | exact HB.out)) hb); clear BK489; clear BK490; clear BK491; clear BK507; clear BK511; clear HB; have BK489 := n0_; have BK490 := n1_; have BK491 := n2_; have BK507 := n3_; have BK511 := n4_; have HB := n5_; clear n0_ n1_ n2_ n3_ n4_ n5_; (try clear hb); (try clear hb2); (try clear hk); (try clear hi); have hnb160 := NB507_490.out; have hnc160 := NB490_507.out; have hnb161 := NB507_511.out; have hnc161 := NB511_507.out; have hcz162_0 : w159.cell? ⟨gb507, 0, none⟩ = some (.int .i64 t504) := (blk_cell BK507.out 0).trans rfl; have hcz162_1 : w159.cell? ⟨gb507, 1, none⟩ = some (.int .i64 t505) := (blk_cell BK507.out 1).trans rfl; have hfz162_0 := blk_frozen BK507.out 0; have hfz162_1 := blk_frozen BK507.out 1; have hnb163 := NB490_511.out; have hnc163 := NB511_490.out; have hcz164_0 : w159.cell? ⟨gb490, 0, none⟩ = some (.int .i64 a1_0) := (blk_cell BK490.out 0).trans rfl; have hcz164_1 : w159.cell? ⟨gb490, 1, none⟩ = some (.int .i64 a1_1) := (blk_cell BK490.out 1).trans rfl; have hfz164_0 := blk_frozen BK490.out 0; have hfz164_1 := blk_frozen BK490.out 1; have hcz165_0 : w159.cell? ⟨gb491, 0, none⟩ = some (.int .i64 a2_0) := (blk_cell BK491.out 0).trans rfl; have hcz165_1 : w159.cell? ⟨gb491, 1, none⟩ = some (.int .i64 a2_1) := (blk_cell BK491.out 1).trans rfl; have hfz165_0 := blk_frozen BK491.out 0; have hfz165_1 := blk_frozen BK491.out 1) | ((with_reducible refine gate_callee (f := 25) rfl ?_); refine goesL_ (some 162) rfl rfl Try.func25 (by kernel_rfl) rfl #[.agg #[.int .i64 a1_0, .int .i64 a1_1], .agg #[.int .i64 a2_0, .int .i64 a2_1]] rfl (by (try simp only [List.map_toArray, List.map_cons, List.map_nil]); first | done | rfl | (simp only [List.length_drop, List.length_take]; rfl)) ?_; (with_reducible refine (ratio_Mul.calls a1_0 a1_1 a2_0 a2_1 t517 t518 t519 _ A148.out).mono ?_); rintro e w166 ⟨rfl, hb⟩; refine ⟨_, rfl, ?_⟩; have n0_ := Aside0.mk (blk_below (g := gb489) (o := .cells #[.int .i64 a0_0, .int .i64 a0_1] 23 (0, 0)) (by (with_reducible repeat (first | refine blk_drewN ?_ _ | refine blk_drew ?_ | refine blk_alloc ?_ _)); refine blk_far ?_ NB489_507.out _; (with_reducible repeat (first | refine blk_drewN ?_ _ | refine blk_drew ?_ | refine blk_alloc ?_ _)); refine blk_far ?_ NB489_507.out _; (with_reducible repeat (first | refine blk_drewN ?_ _ | refine blk_drew ?_ | refine blk_alloc ?_ _)); exact BK489.out) hb); have n1_ := Aside0.mk (blk_below (g := gb490) (o := .cells #[.int .i64 a1_0, .int .i64 a1_1] 23 (0, 0)) (by (with_reducible repeat (first | refine blk_drewN ?_ _ | refine blk_drew ?_ | refine blk_alloc ?_ _)); refine blk_far ?_ NB490_507.out _; (with_reducible repeat (first | refine blk_drewN ?_ _ | refine blk_drew ?_ | refine blk_alloc ?_ _)); refine blk_far ?_ NB490_507.out _; (with_reducible repeat (first | refine blk_drewN ?_ _ | refine blk_drew ?_ | refine blk_alloc ?_ _)); exact BK490.out) hb); have n2_ := Aside0.mk (blk_below (g := gb491) (o := .cells #[.int .i64 a2_0, .int .i64 a2_1] 23 (0, 0)) (by (with_reducible repeat (first | refine blk_drewN ?_ _ | refine blk_drew ?_ | refine blk_alloc ?_ _)); refine blk_far ?_ NB491_507.out _; (with_reducible repeat (first | refine blk_drewN ?_ _ | refine blk_drew ?_ | refine blk_alloc ?_ _)); refine blk_far ?_ NB491_507.out _; (with_reducible repeat (first | refine blk_drewN ?_ _ | refine blk_drew ?_ | refine blk_alloc ?_ _)); exact BK491.out) hb); have n3_ := Aside0.mk (blk_below (g := gb507) (o := .cells #[.int .i64 t514, .int .i64 t515] 23 (0, 0)) (by (with_reducible repeat (first | refine blk_drewN ?_ _ | refine blk_drew ?_ | refine blk_alloc ?_ _)); refine blk_put (cs := #[.int .i64 t514, .int .i64 t505]) ?_ 1 _ rfl; (with_reducible repeat (first | refine blk_drewN ?_ _ | refine blk_drew ?_ | refine blk_alloc ?_ _)); refine blk_put (cs := #[.int .i64 t504, .int .i64 t505]) ?_ 0 _ rfl; (with_reducible repeat (first | refine blk_drewN ?_ _ | refine blk_drew ?_ | refine blk_alloc ?_ _)); exact BK507.out) hb); have n4_ := Aside0.mk (blk_below (g := gb511) (o := .cells #[.int .i64 t508, .int .i64 t509] 23 (0, 0)) (by (with_reducible repeat (first | refine blk_drewN ?_ _ | refine blk_drew ?_ | refine blk_alloc ?_ _)); refine blk_far ?_ NB511_507.out _; (with_reducible repeat (first | refine blk_drewN ?_ _ | refine blk_drew ?_ | refine blk_alloc ?_ _)); refine blk_far ?_ NB511_507.out _; (with_reducible repeat (first | refine blk_drewN ?_ _ | refine blk_drew ?_ | refine blk_alloc ?_ _)); exact BK511.out) hb); have n5_ := Aside0.mk (below_step (by repeat (first | (with_reducible first | exact HB.out | apply below_alloc | apply pw_below_drewN | apply below_drew1 | refine below_set ?_ GE489.out | refine below_set ?_ GE490.out | refine below_set ?_ GE491.out | refine below_set ?_ GE507.out | refine below_set ?_ GE511.out) | exact HB.out)) hb); clear BK489; clear BK490; clear BK491; clear BK507; clear BK511; clear HB; have BK489 := n0_; have BK490 := n1_; have BK491 := n2_; have BK507 := n3_; have BK511 := n4_; have HB := n5_; clear n0_ n1_ n2_ n3_ n4_ n5_; (try clear hb); (try clear hb2); (try clear hk); (try clear hi); have hcz167_0 : w166.cell? ⟨gb511, 0, none⟩ = some (.int .i64 t508) := (blk_cell BK511.out 0).trans rfl; have hcz167_1 : w166.cell? ⟨gb511, 1, none⟩ = some (.int .i64 t509) := (blk_cell BK511.out 1).trans rfl; have hfz167_0 := blk_frozen BK511.out 0; have hfz167_1 := blk_frozen BK511.out 1))
                        (try simp only [Act.put, List.setIfInBounds_toArray, List.set_cons_zero, List.set_cons_succ])
                        go_cut [175] (fun v175 wc => ∃ (kq : Nat) (x175_148 : Bool), v175 = .bool x175_148 ∧ Aside0 (sizarlaw05_RatioOrder.j4 kq t496 x175_148 t514 t515 t517 t518 = some r) ∧ Aside0 (kq ≤ kj131) ∧ Aside0 (wc.heap[gb489]? = some (.cells #[.int .i64 a0_0, .int .i64 a0_1] 23 (0, 0))) ∧ Aside0 (wc.heap[gb490]? = some (.cells #[.int .i64 a1_0, .int .i64 a1_1] 23 (0, 0))) ∧ Aside0 (wc.heap[gb491]? = some (.cells #[.int .i64 a2_0, .int .i64 a2_1] 23 (0, 0))) ∧ Aside0 (wc.heap[gb507]? = some (.cells #[.int .i64 t514, .int .i64 t515] 23 (0, 0))) ∧ Aside0 (wc.heap[gb511]? = some (.cells #[.int .i64 t517, .int .i64 t518] 23 (0, 0))) ∧ Aside0 (Below w.heap.size w wc))
                        case first =>
                          as_aux_lemma =>
                          have H := HC149.out
                          clear HC149
                          by_cases c168 : t516 = 0
                          · rw [if_pos c168] at H
                            have c168b0 : (t516 == 0) = true := beq_iff_eq.mpr c168
                            have c168b1 : (t516 != 0) = false := bne_eq_false_iff_eq.mpr c168
                            clear c168
                            (first | rw [c168b0] | (simp only [i64_w, i32_w]; rw [c168b0]) | skip)
                            by_cases c169 : t519 = 0
                            · rw [if_pos c169] at H
                              have c169b0 : (t519 == 0) = true := beq_iff_eq.mpr c169
                              have c169b1 : (t519 != 0) = false := bne_eq_false_iff_eq.mpr c169
                              clear c169
                              have H' := Aside0.mk H
                              clear H
                              have hnb170 := NB491_489.out
                              have hnc170 := NB489_491.out
                              have hnb171 := NB491_490.out
                              have hnc171 := NB490_491.out
                              have hnb172 := NB491_507.out
                              have hnc172 := NB507_491.out
                              have hnb173 := NB491_511.out
                              have hnc173 := NB511_491.out
                              have hcz174_0 : w166.cell? ⟨gb491, 0, none⟩ = some (.int .i64 a2_0) := (blk_cell BK491.out 0).trans rfl
                              have hcz174_1 : w166.cell? ⟨gb491, 1, none⟩ = some (.int .i64 a2_1) := (blk_cell BK491.out 1).trans rfl
                              have hfz174_0 := blk_frozen BK491.out 0
                              have hfz174_1 := blk_frozen BK491.out 1
                              go_wp2
                              go_meet
                              case rel => exact ⟨_, (decide (a2_0 > 0)), (by first | rfl | (simp; done) | (simp [*]; done)), H', ⟨by have := HJ5.out; have := HJ40.out; have := HJ109.out; have := HJ131.out; first | omega | exact Nat.le_refl _⟩, ⟨by (with_reducible repeat (first | refine blk_drewN ?_ _ | refine blk_drew ?_ | refine blk_alloc ?_ _)); refine blk_far ?_ NB489_511.out _; (with_reducible repeat (first | refine blk_drewN ?_ _ | refine blk_drew ?_ | refine blk_alloc ?_ _)); refine blk_far ?_ NB489_511.out _; (with_reducible repeat (first | refine blk_drewN ?_ _ | refine blk_drew ?_ | refine blk_alloc ?_ _)); exact BK489.out⟩, ⟨by (with_reducible repeat (first | refine blk_drewN ?_ _ | refine blk_drew ?_ | refine blk_alloc ?_ _)); refine blk_far ?_ NB490_511.out _; (with_reducible repeat (first | refine blk_drewN ?_ _ | refine blk_drew ?_ | refine blk_alloc ?_ _)); refine blk_far ?_ NB490_511.out _; (with_reducible repeat (first | refine blk_drewN ?_ _ | refine blk_drew ?_ | refine blk_alloc ?_ _)); exact BK490.out⟩, ⟨by (with_reducible repeat (first | refine blk_drewN ?_ _ | refine blk_drew ?_ | refine blk_alloc ?_ _)); refine blk_far ?_ NB491_511.out _; (with_reducible repeat (first | refine blk_drewN ?_ _ | refine blk_drew ?_ | refine blk_alloc ?_ _)); refine blk_far ?_ NB491_511.out _; (with_reducible repeat (first | refine blk_drewN ?_ _ | refine blk_drew ?_ | refine blk_alloc ?_ _)); exact BK491.out⟩, ⟨by (with_reducible repeat (first | refine blk_drewN ?_ _ | refine blk_drew ?_ | refine blk_alloc ?_ _)); refine blk_far ?_ NB507_511.out _; (with_reducible repeat (first | refine blk_drewN ?_ _ | refine blk_drew ?_ | refine blk_alloc ?_ _)); refine blk_far ?_ NB507_511.out _; (with_reducible repeat (first | refine blk_drewN ?_ _ | refine blk_drew ?_ | refine blk_alloc ?_ _)); exact BK507.out⟩, ⟨by (with_reducible repeat (first | refine blk_drewN ?_ _ | refine blk_drew ?_ | refine blk_alloc ?_ _)); refine blk_put (cs := #[.int .i64 t517, .int .i64 t509]) ?_ 1 _ rfl; (with_reducible repeat (first | refine blk_drewN ?_ _ | refine blk_drew ?_ | refine blk_alloc ?_ _)); refine blk_put (cs := #[.int .i64 t508, .int .i64 t509]) ?_ 0 _ rfl; (with_reducible repeat (first | refine blk_drewN ?_ _ | refine blk_drew ?_ | refine blk_alloc ?_ _)); exact BK511.out⟩, ⟨by repeat (first | (with_reducible first | exact HB.out | apply below_alloc | apply pw_below_drewN | apply below_drew1 | refine below_set ?_ GE489.out | refine below_set ?_ GE490.out | refine below_set ?_ GE491.out | refine below_set ?_ GE507.out | refine below_set ?_ GE511.out) | exact HB.out)⟩⟩
                            · rw [if_neg c169] at H
                              have c169b0 : (t519 == 0) = false := beq_eq_false_iff_ne.mpr c169
                              have c169b1 : (t519 != 0) = true := bne_iff_ne.mpr c169
                              have H' := Aside0.mk H
                              clear H
                              go_wp2
                              go_meet
                              case rel => exact ⟨_, (false), (by first | rfl | (simp; done) | (simp [*]; done)), H', ⟨by have := HJ5.out; have := HJ40.out; have := HJ109.out; have := HJ131.out; first | omega | exact Nat.le_refl _⟩, ⟨by (with_reducible repeat (first | refine blk_drewN ?_ _ | refine blk_drew ?_ | refine blk_alloc ?_ _)); refine blk_far ?_ NB489_511.out _; (with_reducible repeat (first | refine blk_drewN ?_ _ | refine blk_drew ?_ | refine blk_alloc ?_ _)); refine blk_far ?_ NB489_511.out _; (with_reducible repeat (first | refine blk_drewN ?_ _ | refine blk_drew ?_ | refine blk_alloc ?_ _)); exact BK489.out⟩, ⟨by (with_reducible repeat (first | refine blk_drewN ?_ _ | refine blk_drew ?_ | refine blk_alloc ?_ _)); refine blk_far ?_ NB490_511.out _; (with_reducible repeat (first | refine blk_drewN ?_ _ | refine blk_drew ?_ | refine blk_alloc ?_ _)); refine blk_far ?_ NB490_511.out _; (with_reducible repeat (first | refine blk_drewN ?_ _ | refine blk_drew ?_ | refine blk_alloc ?_ _)); exact BK490.out⟩, ⟨by (with_reducible repeat (first | refine blk_drewN ?_ _ | refine blk_drew ?_ | refine blk_alloc ?_ _)); refine blk_far ?_ NB491_511.out _; (with_reducible repeat (first | refine blk_drewN ?_ _ | refine blk_drew ?_ | refine blk_alloc ?_ _)); refine blk_far ?_ NB491_511.out _; (with_reducible repeat (first | refine blk_drewN ?_ _ | refine blk_drew ?_ | refine blk_alloc ?_ _)); exact BK491.out⟩, ⟨by (with_reducible repeat (first | refine blk_drewN ?_ _ | refine blk_drew ?_ | refine blk_alloc ?_ _)); refine blk_far ?_ NB507_511.out _; (with_reducible repeat (first | refine blk_drewN ?_ _ | refine blk_drew ?_ | refine blk_alloc ?_ _)); refine blk_far ?_ NB507_511.out _; (with_reducible repeat (first | refine blk_drewN ?_ _ | refine blk_drew ?_ | refine blk_alloc ?_ _)); exact BK507.out⟩, ⟨by (with_reducible repeat (first | refine blk_drewN ?_ _ | refine blk_drew ?_ | refine blk_alloc ?_ _)); refine blk_put (cs := #[.int .i64 t517, .int .i64 t509]) ?_ 1 _ rfl; (with_reducible repeat (first | refine blk_drewN ?_ _ | refine blk_drew ?_ | refine blk_alloc ?_ _)); refine blk_put (cs := #[.int .i64 t508, .int .i64 t509]) ?_ 0 _ rfl; (with_reducible repeat (first | refine blk_drewN ?_ _ | refine blk_drew ?_ | refine blk_alloc ?_ _)); exact BK511.out⟩, ⟨by repeat (first | (with_reducible first | exact HB.out | apply below_alloc | apply pw_below_drewN | apply below_drew1 | refine below_set ?_ GE489.out | refine below_set ?_ GE490.out | refine below_set ?_ GE491.out | refine below_set ?_ GE507.out | refine below_set ?_ GE511.out) | exact HB.out)⟩⟩
                          · rw [if_neg c168] at H
                            have c168b0 : (t516 == 0) = false := beq_eq_false_iff_ne.mpr c168
                            have c168b1 : (t516 != 0) = true := bne_iff_ne.mpr c168
                            (first | rw [c168b0] | (simp only [i64_w, i32_w]; rw [c168b0]) | skip)
                            have H' := Aside0.mk H
                            clear H
                            go_wp2
                            go_meet
                            case rel => exact ⟨_, (false), (by first | rfl | (simp; done) | (simp [*]; done)), H', ⟨by have := HJ5.out; have := HJ40.out; have := HJ109.out; have := HJ131.out; first | omega | exact Nat.le_refl _⟩, ⟨by (with_reducible repeat (first | refine blk_drewN ?_ _ | refine blk_drew ?_ | refine blk_alloc ?_ _)); refine blk_far ?_ NB489_511.out _; (with_reducible repeat (first | refine blk_drewN ?_ _ | refine blk_drew ?_ | refine blk_alloc ?_ _)); refine blk_far ?_ NB489_511.out _; (with_reducible repeat (first | refine blk_drewN ?_ _ | refine blk_drew ?_ | refine blk_alloc ?_ _)); exact BK489.out⟩, ⟨by (with_reducible repeat (first | refine blk_drewN ?_ _ | refine blk_drew ?_ | refine blk_alloc ?_ _)); refine blk_far ?_ NB490_511.out _; (with_reducible repeat (first | refine blk_drewN ?_ _ | refine blk_drew ?_ | refine blk_alloc ?_ _)); refine blk_far ?_ NB490_511.out _; (with_reducible repeat (first | refine blk_drewN ?_ _ | refine blk_drew ?_ | refine blk_alloc ?_ _)); exact BK490.out⟩, ⟨by (with_reducible repeat (first | refine blk_drewN ?_ _ | refine blk_drew ?_ | refine blk_alloc ?_ _)); refine blk_far ?_ NB491_511.out _; (with_reducible repeat (first | refine blk_drewN ?_ _ | refine blk_drew ?_ | refine blk_alloc ?_ _)); refine blk_far ?_ NB491_511.out _; (with_reducible repeat (first | refine blk_drewN ?_ _ | refine blk_drew ?_ | refine blk_alloc ?_ _)); exact BK491.out⟩, ⟨by (with_reducible repeat (first | refine blk_drewN ?_ _ | refine blk_drew ?_ | refine blk_alloc ?_ _)); refine blk_far ?_ NB507_511.out _; (with_reducible repeat (first | refine blk_drewN ?_ _ | refine blk_drew ?_ | refine blk_alloc ?_ _)); refine blk_far ?_ NB507_511.out _; (with_reducible repeat (first | refine blk_drewN ?_ _ | refine blk_drew ?_ | refine blk_alloc ?_ _)); exact BK507.out⟩, ⟨by (with_reducible repeat (first | refine blk_drewN ?_ _ | refine blk_drew ?_ | refine blk_alloc ?_ _)); refine blk_put (cs := #[.int .i64 t517, .int .i64 t509]) ?_ 1 _ rfl; (with_reducible repeat (first | refine blk_drewN ?_ _ | refine blk_drew ?_ | refine blk_alloc ?_ _)); refine blk_put (cs := #[.int .i64 t508, .int .i64 t509]) ?_ 0 _ rfl; (with_reducible repeat (first | refine blk_drewN ?_ _ | refine blk_drew ?_ | refine blk_alloc ?_ _)); exact BK511.out⟩, ⟨by repeat (first | (with_reducible first | exact HB.out | apply below_alloc | apply pw_below_drewN | apply below_drew1 | refine below_set ?_ GE489.out | refine below_set ?_ GE490.out | refine below_set ?_ GE491.out | refine below_set ?_ GE507.out | refine below_set ?_ GE511.out) | exact HB.out)⟩⟩
                        case rest =>
                          as_aux_lemma =>
                          clear HC149
                          try clear c1
                          try clear c2
                          try clear p2
                          try clear c3
                          try clear c4
                          try clear c5
                          try clear c6
                          try clear p6
                          try clear c7
                          try clear c8
                          try clear c9
                          try clear c10
                          try clear c11
                          try clear c12
                          try clear c12b0
                          try clear c12b1
                          try clear c13
                          try clear c14
                          try clear c14b0
                          try clear c14b1
                          try clear c15
                          try clear c16
                          try clear c17
                          try clear c18
                          try clear c20
                          try clear c21
                          try clear c23
                          try clear c25
                          try clear c26
                          try clear c27
                          try clear c29
                          try clear c32
                          try clear c33
                          try clear c36
                          try clear c42
                          try clear c43
                          try clear c45
                          try clear c57
                          try clear c57b0
                          try clear c57b1
                          try clear c58
                          try clear c58b0
                          try clear c58b1
                          try clear c59
                          try clear c59b0
                          try clear c59b1
                          try clear c60
                          try clear c60b0
                          try clear c60b1
                          try clear c61
                          try clear c61b0
                          try clear c61b1
                          try clear c62
                          try clear c62b0
                          try clear c63
                          try clear c63b0
                          try clear c64
                          try clear c64b0
                          try clear c64b1
                          try clear c64b2
                          try clear p64
                          try clear c65
                          try clear c65b0
                          try clear c66
                          try clear c66b0
                          try clear c67
                          try clear c67b0
                          try clear c68
                          try clear c68b0
                          try clear c69
                          try clear c70
                          try clear c72
                          try clear c74
                          try clear c75
                          try clear c77
                          try clear c79
                          try clear c79b0
                          try clear c80
                          try clear c81
                          try clear c83
                          try clear c85
                          try clear c86
                          try clear c88
                          try clear c90
                          try clear c90b0
                          try clear c91
                          try clear c91b0
                          try clear c92
                          try clear c93
                          try clear c95
                          try clear c97
                          try clear c98
                          try clear c100
                          try clear c102
                          try clear c103
                          try clear c105
                          try clear c107
                          try clear c111
                          try clear c112
                          try clear c114
                          try clear c118
                          try clear c119
                          try clear c120
                          try clear c126
                          try clear c127
                          try clear c128
                          try clear c129
                          try clear c131
                          try clear c131b0
                          try clear c131b1
                          try clear c133
                          try clear c135
                          try clear c135b0
                          try clear c135b1
                          try clear c136
                          try clear c136b0
                          try clear c136b1
                          try clear c137
                          try clear c138
                          try clear c139
                          try clear c140
                          try clear c142
                          try clear c143
                          try clear c144
                          try clear c150
                          try clear c151
                          try clear c152
                          try clear c153
                          try clear c155
                          try clear c156
                          try clear c157
                          try clear c160
                          try clear c161
                          try clear c163
                          try clear c168
                          try clear c168b0
                          try clear c168b1
                          try clear c169
                          try clear c169b0
                          try clear c169b1
                          try clear c170
                          try clear c171
                          try clear c172
                          try clear c173
                          try clear hcz101_0
                          try clear hcz101_1
                          try clear hcz104_0
                          try clear hcz104_1
                          try clear hcz106_0
                          try clear hcz106_1
                          try clear hcz113_0
                          try clear hcz113_1
                          try clear hcz115_0
                          try clear hcz115_1
                          try clear hcz121_0
                          try clear hcz121_1
                          try clear hcz122_0
                          try clear hcz122_1
                          try clear hcz123_0
                          try clear hcz123_1
                          try clear hcz130_0
                          try clear hcz130_1
                          try clear hcz141_0
                          try clear hcz141_1
                          try clear hcz145_0
                          try clear hcz145_1
                          try clear hcz154_0
                          try clear hcz154_1
                          try clear hcz158_0
                          try clear hcz158_1
                          try clear hcz162_0
                          try clear hcz162_1
                          try clear hcz164_0
                          try clear hcz164_1
                          try clear hcz165_0
                          try clear hcz165_1
                          try clear hcz167_0
                          try clear hcz167_1
                          try clear hcz174_0
                          try clear hcz174_1
                          try clear hcz18_0
                          try clear hcz18_1
                          try clear hcz21_0
                          try clear hcz21_1
                          try clear hcz23_0
                          try clear hcz23_1
                          try clear hcz27_0
                          try clear hcz27_1
                          try clear hcz30_0
                          try clear hcz30_1
                          try clear hcz34_0
                          try clear hcz34_1
                          try clear hcz44_0
                          try clear hcz44_1
                          try clear hcz46_0
                          try clear hcz46_1
                          try clear hcz48_0
                          try clear hcz48_1
                          try clear hcz49_0
                          try clear hcz49_1
                          try clear hcz51_0
                          try clear hcz51_1
                          try clear hcz52_0
                          try clear hcz52_1
                          try clear hcz54_0
                          try clear hcz54_1
                          try clear hcz55_0
                          try clear hcz55_1
                          try clear hcz71_0
                          try clear hcz71_1
                          try clear hcz73_0
                          try clear hcz73_1
                          try clear hcz76_0
                          try clear hcz76_1
                          try clear hcz78_0
                          try clear hcz78_1
                          try clear hcz82_0
                          try clear hcz82_1
                          try clear hcz84_0
                          try clear hcz84_1
                          try clear hcz87_0
                          try clear hcz87_1
                          try clear hcz89_0
                          try clear hcz89_1
                          try clear hcz94_0
                          try clear hcz94_1
                          try clear hcz96_0
                          try clear hcz96_1
                          try clear hcz99_0
                          try clear hcz99_1
                          try clear hfz101_0
                          try clear hfz101_1
                          try clear hfz104_0
                          try clear hfz104_1
                          try clear hfz106_0
                          try clear hfz106_1
                          try clear hfz113_0
                          try clear hfz113_1
                          try clear hfz115_0
                          try clear hfz115_1
                          try clear hfz121_0
                          try clear hfz121_1
                          try clear hfz122_0
                          try clear hfz122_1
                          try clear hfz123_0
                          try clear hfz123_1
                          try clear hfz130_0
                          try clear hfz130_1
                          try clear hfz141_0
                          try clear hfz141_1
                          try clear hfz145_0
                          try clear hfz145_1
                          try clear hfz154_0
                          try clear hfz154_1
                          try clear hfz158_0
                          try clear hfz158_1
                          try clear hfz162_0
                          try clear hfz162_1
                          try clear hfz164_0
                          try clear hfz164_1
                          try clear hfz165_0
                          try clear hfz165_1
                          try clear hfz167_0
                          try clear hfz167_1
                          try clear hfz174_0
                          try clear hfz174_1
                          try clear hfz18_0
                          try clear hfz18_1
                          try clear hfz21_0
                          try clear hfz21_1
                          try clear hfz23_0
                          try clear hfz23_1
                          try clear hfz27_0
                          try clear hfz27_1
                          try clear hfz30_0
                          try clear hfz30_1
                          try clear hfz34_0
                          try clear hfz34_1
                          try clear hfz44_0
                          try clear hfz44_1
                          try clear hfz46_0
                          try clear hfz46_1
                          try clear hfz48_0
                          try clear hfz48_1
                          try clear hfz49_0
                          try clear hfz49_1
                          try clear hfz51_0
                          try clear hfz51_1
                          try clear hfz52_0
                          try clear hfz52_1
                          try clear hfz54_0
                          try clear hfz54_1
                          try clear hfz55_0
                          try clear hfz55_1
                          try clear hfz71_0
                          try clear hfz71_1
                          try clear hfz73_0
                          try clear hfz73_1
                          try clear hfz76_0
                          try clear hfz76_1
                          try clear hfz78_0
                          try clear hfz78_1
                          try clear hfz82_0
                          try clear hfz82_1
                          try clear hfz84_0
                          try clear hfz84_1
                          try clear hfz87_0
                          try clear hfz87_1
                          try clear hfz89_0
                          try clear hfz89_1
                          try clear hfz94_0
                          try clear hfz94_1
                          try clear hfz96_0
                          try clear hfz96_1
                          try clear hfz99_0
                          try clear hfz99_1
                          try clear p2
                          try clear p6
                          try clear p64
                          obtain ⟨kq, x175_148, rfl, HA, HJ148, BK489, BK490, BK491, BK507, BK511, HB⟩ := hcut
                          cases kq with
                          | zero => exact absurd HA.out (by simp [sizarlaw05_RatioOrder.j4])
                          | succ kj148 =>
                            have H := HA.out
                            clear HA
                            simp only [sizarlaw05_RatioOrder.j4] at H
                            by_cases c175 : x175_148 = true
                            · subst c175
                              have H1 : ((ratio_Compare.f t514 t515 t517 t518).bind fun bt520 => (if bt520.2 = 0 then (if bt520.1 = t496 then (some true) else (some false)) else (some false))) = some r := by rw [if_pos rfl] at H; exact H
                              clear H
                              have H := H1
                              clear H1
                              replace H := Option.bind_eq_some_iff.mp H
                              obtain ⟨⟨t520, t521⟩, A1760, H⟩ := H
                              replace H : (if t521 = 0 then (if t520 = t496 then (some true) else (some false)) else (some false)) = some r := H
                              have A176 := Aside0.mk A1760
                              clear A1760
                              by_cases c177 : t521 = 0
                              · rw [if_pos c177] at H
                                have c177b0 : (t521 == 0) = true := beq_iff_eq.mpr c177
                                have c177b1 : (t521 != 0) = false := bne_eq_false_iff_eq.mpr c177
                                clear c177
                                by_cases c178 : t520 = t496
                                · rw [if_pos c178] at H
                                  have c178b0 : (t520 == t496) = true := beq_iff_eq.mpr c178
                                  have c178b1 : (t520 != t496) = false := bne_eq_false_iff_eq.mpr c178
                                  clear c178
                                  obtain rfl := Option.some.inj H
                                  have hnb179 := NB507_489.out
                                  have hnc179 := NB489_507.out
                                  have hnb180 := NB507_490.out
                                  have hnc180 := NB490_507.out
                                  have hnb181 := NB507_491.out
                                  have hnc181 := NB491_507.out
                                  have hnb182 := NB507_511.out
                                  have hnc182 := NB511_507.out
                                  have hcz183_0 : wc.cell? ⟨gb507, 0, none⟩ = some (.int .i64 t514) := (blk_cell BK507.out 0).trans rfl
                                  have hcz183_1 : wc.cell? ⟨gb507, 1, none⟩ = some (.int .i64 t515) := (blk_cell BK507.out 1).trans rfl
                                  have hfz183_0 := blk_frozen BK507.out 0
                                  have hfz183_1 := blk_frozen BK507.out 1
                                  have hnb184 := NB511_489.out
                                  have hnc184 := NB489_511.out
                                  have hnb185 := NB511_490.out
                                  have hnc185 := NB490_511.out
                                  have hnb186 := NB511_491.out
                                  have hnc186 := NB491_511.out
                                  have hcz187_0 : wc.cell? ⟨gb511, 0, none⟩ = some (.int .i64 t517) := (blk_cell BK511.out 0).trans rfl
                                  have hcz187_1 : wc.cell? ⟨gb511, 1, none⟩ = some (.int .i64 t518) := (blk_cell BK511.out 1).trans rfl
                                  have hfz187_0 := blk_frozen BK511.out 0
                                  have hfz187_1 := blk_frozen BK511.out 1
                                  go_wp2_with (first | ((with_reducible refine gate_callee (f := 27) rfl ?_); refine goesL_ (some 179) rfl rfl Try.func27 (by kernel_rfl) rfl #[.agg #[.int .i64 t514, .int .i64 t515], .agg #[.int .i64 t517, .int .i64 t518]] rfl (by (try simp only [List.map_toArray, List.map_cons, List.map_nil]); first | done | rfl | (simp only [List.length_drop, List.length_take]; rfl)) ?_; (with_reducible refine (ratio_Compare.calls t514 t515 t517 t518 t520 t521 _ A176.out).mono ?_); rintro e w188 ⟨rfl, hb⟩; refine ⟨_, rfl, ?_⟩; have n0_ := Aside0.mk (blk_below (g := gb489) (o := .cells #[.int .i64 a0_0, .int .i64 a0_1] 23 (0, 0)) (by (with_reducible repeat (first | refine blk_drewN ?_ _ | refine blk_drew ?_ | refine blk_alloc ?_ _)); exact BK489.out) hb); have n1_ := Aside0.mk (blk_below (g := gb490) (o := .cells #[.int .i64 a1_0, .int .i64 a1_1] 23 (0, 0)) (by (with_reducible repeat (first | refine blk_drewN ?_ _ | refine blk_drew ?_ | refine blk_alloc ?_ _)); exact BK490.out) hb); have n2_ := Aside0.mk (blk_below (g := gb491) (o := .cells #[.int .i64 a2_0, .int .i64 a2_1] 23 (0, 0)) (by (with_reducible repeat (first | refine blk_drewN ?_ _ | refine blk_drew ?_ | refine blk_alloc ?_ _)); exact BK491.out) hb); have n3_ := Aside0.mk (blk_below (g := gb507) (o := .cells #[.int .i64 t514, .int .i64 t515] 23 (0, 0)) (by (with_reducible repeat (first | refine blk_drewN ?_ _ | refine blk_drew ?_ | refine blk_alloc ?_ _)); exact BK507.out) hb); have n4_ := Aside0.mk (blk_below (g := gb511) (o := .cells #[.int .i64 t517, .int .i64 t518] 23 (0, 0)) (by (with_reducible repeat (first | refine blk_drewN ?_ _ | refine blk_drew ?_ | refine blk_alloc ?_ _)); exact BK511.out) hb); have n5_ := Aside0.mk (below_step (by repeat (first | (with_reducible first | exact HB.out | apply below_alloc | apply pw_below_drewN | apply below_drew1 | refine below_set ?_ GE489.out | refine below_set ?_ GE490.out | refine below_set ?_ GE491.out | refine below_set ?_ GE507.out | refine below_set ?_ GE511.out) | exact HB.out)) hb); clear BK489; clear BK490; clear BK491; clear BK507; clear BK511; clear HB; have BK489 := n0_; have BK490 := n1_; have BK491 := n2_; have BK507 := n3_; have BK511 := n4_; have HB := n5_; clear n0_ n1_ n2_ n3_ n4_ n5_; (try clear hb); (try clear hb2); (try clear hk); (try clear hi)))
                                  go_ret
                                  exact ⟨by first | rfl | (simp [errW_none, errW_some] <;> rfl) | (simp [*, errW_none, errW_some] <;> rfl), by repeat (first | (with_reducible first | exact HB.out | apply below_alloc | apply pw_below_drewN | apply below_drew1 | refine below_set ?_ GE489.out | refine below_set ?_ GE490.out | refine below_set ?_ GE491.out | refine below_set ?_ GE507.out | refine below_set ?_ GE511.out) | exact HB.out)⟩
                                · rw [if_neg c178] at H
                                  have c178b0 : (t520 == t496) = false := beq_eq_false_iff_ne.mpr c178
                                  have c178b1 : (t520 != t496) = true := bne_iff_ne.mpr c178
                                  exact absurd ((Option.some.inj H).trans hrt.out) (by decide)
                              · rw [if_neg c177] at H
                                have c177b0 : (t521 == 0) = false := beq_eq_false_iff_ne.mpr c177
                                have c177b1 : (t521 != 0) = true := bne_iff_ne.mpr c177
                                exact absurd ((Option.some.inj H).trans hrt.out) (by decide)
                            · replace c175 := Bool.eq_false_iff.mpr c175
                              subst c175
                              have H1 : (some true) = some r := by rw [if_neg (show ¬ (false = true) by decide)] at H; exact H
                              clear H
                              have H := H1
                              clear H1
                              obtain rfl := Option.some.inj H
                              go_wp2
                              go_ret
                              exact ⟨by first | rfl | (simp [errW_none, errW_some] <;> rfl) | (simp [*, errW_none, errW_some] <;> rfl), by repeat (first | (with_reducible first | exact HB.out | apply below_alloc | apply pw_below_drewN | apply below_drew1 | refine below_set ?_ GE489.out | refine below_set ?_ GE490.out | refine below_set ?_ GE491.out | refine below_set ?_ GE507.out | refine below_set ?_ GE511.out) | exact HB.out)⟩
  · replace c5 := Bool.eq_false_iff.mpr c5
    subst c5
    have H1 : (some false) = some r := by rw [if_neg (show ¬ (false = true) by decide)] at H; exact H
    clear H
    have H := H1
    clear H1
    exact absurd ((Option.some.inj H).trans hrt.out) (by decide)

end Go.Proofs.Ytgoicalffgehoaa.P
