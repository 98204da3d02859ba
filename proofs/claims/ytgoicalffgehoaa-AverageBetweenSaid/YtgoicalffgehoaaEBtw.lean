/- Contracts of Go functions and the plain Lean functions that they compute, laid by this session's own program (wip/printall.sh). Conditions: as each theorem states them. -/
import Derived.Test.YtgoicalffgehoaaP0
import Derived.Test.YtgoicalffgehoaaP1
import Derived.Test.YtgoicalffgehoaaP11
import Derived.Test.YtgoicalffgehoaaCAvg
import Derived.Test.YtgoicalffgehoaaCSen
import Derived.Test.YtgoicalffgehoaaERat
namespace Go.Proofs.Ytgoicalffgehoaa.P
open Go.RowKit Go.Proofs.YtgoicalffgehoaaW.PrintWords Go.Proofs.YtgoicalffgehoaaW.PrintLast Go.Proofs.YtgoicalffgehoaaW.PrintMore
attribute [local go_sem] max2_int min2_int max_two min_two max_three min_three max_four min_four   -- for this text's walks alone
set_option linter.unusedVariables false
set_option linter.unusedSimpArgs false

attribute [local go_sem high] eqA23
/-! ### sizarlaw15_AverageBetween: function 6 -/
mutual
def sizarlaw15_AverageBetween.l0 : Nat → List (S39) → Int → Int → Bool → Int → Int → Int → Int → Int → Int → Int → Int → Option (Bool)
 | 0, _, _, _, _, _, _, _, _, _, _, _, _ => none
 | k + 1, x0, x7, x8, x9, x10, x630000, x630001, x630002, x630003, x630004, x636000, x636001 => if x10 < (x0.length : Int) then (if 0 ≤ x10 then (if ((rd_T39 x0 x10).f4) > 0 then (sizarlaw15_AverageBetween.l0 k x0 (mn x7 ((rd_T39 x0 x10).f2)) (mx x8 ((rd_T39 x0 x10).f2)) true (wrap64 (x10 + 1)) x630000 x630001 x630002 x630003 x630004 x636000 x636001) else (sizarlaw15_AverageBetween.l0 k x0 x7 x8 x9 (wrap64 (x10 + 1)) x630000 x630001 x630002 x630003 x630004 x636000 x636001)) else (none)) else (if x9 = true then ((ratio_Compare.f x7 1 x636000 x636001).bind fun bt639 => ((ratio_Compare.f x636000 x636001 x8 1).bind fun bt641 => (if bt639.2 = 0 then (if bt641.2 = 0 then (if bt639.1 > 0 then (sizarlaw15_AverageBetween.j1 k x0 x8 true x630000 x630001 x630002 x630003 x630004 x636000 x636001) else (sizarlaw15_AverageBetween.j1 k x0 x8 (decide (bt641.1 > 0)) x630000 x630001 x630002 x630003 x630004 x636000 x636001)) else (sizarlaw15_AverageBetween.j1 k x0 x8 true x630000 x630001 x630002 x630003 x630004 x636000 x636001)) else (sizarlaw15_AverageBetween.j1 k x0 x8 true x630000 x630001 x630002 x630003 x630004 x636000 x636001)))) else (some (x636000 == 0 && (x636001 == 1))))
def sizarlaw15_AverageBetween.j1 : Nat → List (S39) → Int → Bool → Int → Int → Int → Int → Int → Int → Int → Option (Bool)
 | 0, _, _, _, _, _, _, _, _, _, _ => none
 | k + 1, x0, x8, x92, x630000, x630001, x630002, x630003, x630004, x636000, x636001 => if x92 = true then (some false) else ((some (([] : List (S39)) : List (S39))).bind fun y643 => (if y643.length + x0.length < 3518437208883 then ((some (y643 ++ x0 : List (S39))).bind fun y646 => ((some (([(⟨x630000, x630001, x630002, x630003, x630004⟩ : S39)] : List (S39)) : List (S39))).bind fun y649 => (if y646.length + y649.length < 3518437208883 then ((average_MeanC.f (y646 ++ y649)).bind fun bt655 => (if bt655.2.2 = 0 then (if x630002 < x8 then (some true) else ((ratio_Compare.f x636000 x636001 bt655.1 bt655.2.1).bind fun bt659 => (if bt659.2 = 0 then (some (decide (bt659.1 ≤ 0))) else (some false)))) else (some (bt655.2.2 == 150)))) else (none)))) else (none)))
end
def sizarlaw15_AverageBetween.f (k : Nat) (l0 : List (S39)) (a1_0 : Int) (a1_1 : Int) (a1_2 : Int) (a1_3 : Int) (a1_4 : Int) : Option (Bool) := (sizarlaw15_saneC.f).bind fun t630 => (if t630 = true then ((sizarref15_Few.f l0).bind fun t631 => (if t631 = true then ((average_MeanC.f l0).bind fun bt632 => (if bt632.2.2 = 0 then (sizarlaw15_AverageBetween.l0 k l0 12 0 false 0 a1_0 a1_1 a1_2 a1_3 a1_4 bt632.1 bt632.2.1) else (some (bt632.1 == 0 && (bt632.2.1 == 0))))) else (some true))) else (some false))
theorem sizarlaw15_AverageBetween.mono_l : ∀ k, (∀ y0 y1 y2 y3 y4 y5 y6 y7 y8 y9 y10 y11, LeO (sizarlaw15_AverageBetween.l0 k y0 y1 y2 y3 y4 y5 y6 y7 y8 y9 y10 y11) (sizarlaw15_AverageBetween.l0 (k + 1) y0 y1 y2 y3 y4 y5 y6 y7 y8 y9 y10 y11)) ∧ (∀ y0 y1 y2 y3 y4 y5 y6 y7 y8 y9, LeO (sizarlaw15_AverageBetween.j1 k y0 y1 y2 y3 y4 y5 y6 y7 y8 y9) (sizarlaw15_AverageBetween.j1 (k + 1) y0 y1 y2 y3 y4 y5 y6 y7 y8 y9))
 | 0 => ⟨fun _ _ _ _ _ _ _ _ _ _ _ _ r h => by simp [sizarlaw15_AverageBetween.l0] at h, fun _ _ _ _ _ _ _ _ _ _ r h => by simp [sizarlaw15_AverageBetween.j1] at h⟩
 | k + 1 => by
  obtain ⟨ih0, ih1⟩ := sizarlaw15_AverageBetween.mono_l k
  refine ⟨?_, ?_⟩
  ·intro y0 y1 y2 y3 y4 y5 y6 y7 y8 y9 y10 y11
   unfold sizarlaw15_AverageBetween.l0
   repeat' first
   | (with_reducible exact ih0 _ _ _ _ _ _ _ _ _ _ _ _)
   | (with_reducible exact ih1 _ _ _ _ _ _ _ _ _ _)
   | (with_reducible exact LeO.refl _)
   | (with_reducible exact LeO.none _)
   | (with_reducible refine LeO.ite ?_ ?_)
   | (with_reducible refine LeO.bind ?_ (fun _ => ?_))
   | exact ih0 _ _ _ _ _ _ _ _ _ _ _ _
   | exact ih1 _ _ _ _ _ _ _ _ _ _
   | exact LeO.none _
   | refine LeO.ite ?_ ?_
   | refine LeO.bind ?_ (fun _ => ?_)
  ·intro y0 y1 y2 y3 y4 y5 y6 y7 y8 y9
   unfold sizarlaw15_AverageBetween.j1
   repeat' first
   | (with_reducible exact ih0 _ _ _ _ _ _ _ _ _ _ _ _)
   | (with_reducible exact ih1 _ _ _ _ _ _ _ _ _ _)
   | (with_reducible exact LeO.refl _)
   | (with_reducible exact LeO.none _)
   | (with_reducible refine LeO.ite ?_ ?_)
   | (with_reducible refine LeO.bind ?_ (fun _ => ?_))
   | exact ih0 _ _ _ _ _ _ _ _ _ _ _ _
   | exact ih1 _ _ _ _ _ _ _ _ _ _
   | exact LeO.none _
   | refine LeO.ite ?_ ?_
   | refine LeO.bind ?_ (fun _ => ?_)
theorem sizarlaw15_AverageBetween.mono : ∀ a0 a1 a2 a3 a4 a5 k, LeO (sizarlaw15_AverageBetween.f k a0 a1 a2 a3 a4 a5) (sizarlaw15_AverageBetween.f (k + 1) a0 a1 a2 a3 a4 a5) := by
 intro a0 a1 a2 a3 a4 a5 k
 obtain ⟨ih0, ih1⟩ := sizarlaw15_AverageBetween.mono_l k
 unfold sizarlaw15_AverageBetween.f
 repeat' first
   | (with_reducible exact ih0 _ _ _ _ _ _ _ _ _ _ _ _)
   | (with_reducible exact ih1 _ _ _ _ _ _ _ _ _ _)
   | (with_reducible exact LeO.refl _)
   | (with_reducible exact LeO.none _)
   | (with_reducible refine LeO.ite ?_ ?_)
   | (with_reducible refine LeO.bind ?_ (fun _ => ?_))
   | exact ih0 _ _ _ _ _ _ _ _ _ _ _ _
   | exact ih1 _ _ _ _ _ _ _ _ _ _
   | exact LeO.none _
   | refine LeO.ite ?_ ?_
   | refine LeO.bind ?_ (fun _ => ?_)
def sizarlaw15_AverageBetween.T13 : Bool × List (List Nat × List Nat) := (true, [([], []), ([], []), ([], []), ([1, 2], [1, 2]), ([3], [3]), ([4], [4]), ([0, 5], [0, 5]), ([], []), ([], []), ([], []), ([8, 9], [8, 9]), ([10], [10]), ([11], [11]), ([7, 12], [7, 12]), ([6, 0, 1, 2, 3, 4, 5, 6], [0, 6]), ([13, 14, 0, 1, 2, 3, 4, 5, 6, 7, 8, 9, 10, 11, 12, 13, 14], [7, 13]), ([15, 0, 1, 2, 3, 4, 5, 6, 7, 8, 9, 10, 11, 12, 13, 14, 15], [])])
def sizarlaw15_AverageBetween.B13 : List Nat := [0, 0, 0, 6, 14, 30, 63, 0, 0, 0, 768, 1792, 3840, 8064, 127, 32767, 65535]
theorem sizarlaw15_AverageBetween.tab13 : rtab .any (opsOf Try.f6 13) = sizarlaw15_AverageBetween.T13 := by kernel_rfl
theorem sizarlaw15_AverageBetween.bits13 : waitsOk sizarlaw15_AverageBetween.T13.2 sizarlaw15_AverageBetween.B13 = true := by kernel_rfl
def sizarlaw15_AverageBetween.T20 : Bool × List (List Nat × List Nat) := (true, [([], []), ([], []), ([0, 1], [0, 1]), ([], []), ([3], [3]), ([2, 4, 2], [2, 4]), ([5, 5], [5]), ([6], [6]), ([7], [7]), ([7], [7]), ([], []), ([10, 8, 6, 0, 1, 2, 3, 4, 5, 6, 7, 8, 10], [8, 10]), ([9, 11, 0, 1, 2, 3, 4, 5, 6, 7, 8, 9, 10, 11], [9])])
def sizarlaw15_AverageBetween.B20 : List Nat := [0, 0, 3, 0, 8, 31, 63, 127, 255, 255, 0, 1535, 4095]
theorem sizarlaw15_AverageBetween.tab20 : rtab .any (opsOf Try.f6 20) = sizarlaw15_AverageBetween.T20 := by kernel_rfl
theorem sizarlaw15_AverageBetween.bits20 : waitsOk sizarlaw15_AverageBetween.T20.2 sizarlaw15_AverageBetween.B20 = true := by kernel_rfl
set_option maxHeartbeats 8000000 in
set_option maxRecDepth 100000 in
theorem sizarlaw15_AverageBetween.calls (k : Nat) (A0 : Option Addr) (c0 : Nat) (l0 : List (S39)) (a1_0 : Int) (a1_1 : Int) (a1_2 : Int) (a1_3 : Int) (a1_4 : Int) (r : Bool) (w : World) (hr0 : Kd.C k39 w A0 l0.length l0) (hc0 : l0.length ≤ c0) (hrt : Aside0 (r = true)) (h : sizarlaw15_AverageBetween.f k l0 a1_0 a1_1 a1_2 a1_3 a1_4 = some r) :
  Calls Try.prog 6 #[.slice A0 l0.length c0, .agg #[.int .i64 a1_0, .int .i64 a1_1, .int .i64 a1_2, .int .i64 a1_3, .int .i64 a1_4]] w fun e w' => e = .returned (.bool r) ∧ Below w.heap.size w w' := by
 have hu39 := Try.underlying39
 have hu23 := Try.underlying23
 have HR0 := Aside0.mk hr0
 have HC0 := Aside0.mk hc0
 clear hr0 hc0
 have HB := Aside0.mk (Below.refl w.heap.size w)
 have H : ((sizarlaw15_saneC.f).bind fun t630 => (if t630 = true then ((sizarref15_Few.f l0).bind fun t631 => (if t631 = true then ((average_MeanC.f l0).bind fun bt632 => (if bt632.2.2 = 0 then (sizarlaw15_AverageBetween.l0 k l0 12 0 false 0 a1_0 a1_1 a1_2 a1_3 a1_4 bt632.1 bt632.2.1) else (some (bt632.1 == 0 && (bt632.2.1 == 0))))) else (some true))) else (some false))) = some r := h
 clear h
 replace H := Option.bind_eq_some_iff.mp H
 obtain ⟨t630, A30, H⟩ := H
 replace H : (if t630 = true then ((sizarref15_Few.f l0).bind fun t631 => (if t631 = true then ((average_MeanC.f l0).bind fun bt632 => (if bt632.2.2 = 0 then (sizarlaw15_AverageBetween.l0 k l0 12 0 false 0 a1_0 a1_1 a1_2 a1_3 a1_4 bt632.1 bt632.2.1) else (some (bt632.1 == 0 && (bt632.2.1 == 0))))) else (some true))) else (some false)) = some r := H
 have A3 := Aside0.mk A30
 clear A30
 by_cases c4 : t630 = true
 ·subst c4
  have H1 : ((sizarref15_Few.f l0).bind fun t631 => (if t631 = true then ((average_MeanC.f l0).bind fun bt632 => (if bt632.2.2 = 0 then (sizarlaw15_AverageBetween.l0 k l0 12 0 false 0 a1_0 a1_1 a1_2 a1_3 a1_4 bt632.1 bt632.2.1) else (some (bt632.1 == 0 && (bt632.2.1 == 0))))) else (some true))) = some r := by rw [if_pos rfl] at H; exact H
  clear H
  have H := H1
  clear H1
  replace H := Option.bind_eq_some_iff.mp H
  obtain ⟨t631, A50, H⟩ := H
  replace H : (if t631 = true then ((average_MeanC.f l0).bind fun bt632 => (if bt632.2.2 = 0 then (sizarlaw15_AverageBetween.l0 k l0 12 0 false 0 a1_0 a1_1 a1_2 a1_3 a1_4 bt632.1 bt632.2.1) else (some (bt632.1 == 0 && (bt632.2.1 == 0))))) else (some true)) = some r := H
  have A5 := Aside0.mk A50
  clear A50
  by_cases c6 : t631 = true
  ·subst c6
   have H1 : ((average_MeanC.f l0).bind fun bt632 => (if bt632.2.2 = 0 then (sizarlaw15_AverageBetween.l0 k l0 12 0 false 0 a1_0 a1_1 a1_2 a1_3 a1_4 bt632.1 bt632.2.1) else (some (bt632.1 == 0 && (bt632.2.1 == 0))))) = some r := by rw [if_pos rfl] at H; exact H
   clear H
   have H := H1
   clear H1
   replace H := Option.bind_eq_some_iff.mp H
   obtain ⟨⟨t632, t633, t634⟩, A70, H⟩ := H
   replace H : (if t634 = 0 then (sizarlaw15_AverageBetween.l0 k l0 12 0 false 0 a1_0 a1_1 a1_2 a1_3 a1_4 t632 t633) else (some (t632 == 0 && (t633 == 0)))) = some r := H
   have A7 := Aside0.mk A70
   clear A70
   by_cases c8 : t634 = 0
   ·rw [if_pos c8] at H
    have c8b0 : (t634 == 0) = true := beq_iff_eq.mpr c8
    have c8b1 : (t634 != 0) = false := bne_eq_false_iff_eq.mpr c8
    clear c8
    have H' := Aside0.mk H
    clear H
    go_enter Try.func6, Try.ntmps6
    go_wp2_with (first | ((with_reducible refine gate_dst (N := 3) rfl ?_); refine box_event ?hg (N := 3) ?hd (cs := #[.int .i64 a1_0, .int .i64 a1_1, .int .i64 a1_2, .int .i64 a1_3, .int .i64 a1_4]) (t := 39) ?hr ?_; (case hd => rfl); (case hg => rfl); (case hr => first | (go_simp; done) | (go_simp; rfl)); intro gb629 hg w9 hbox hb; have n0_ := Aside0.mk (below_step (by repeat (first | (with_reducible first | exact HB.out | apply below_alloc | apply pw_below_drewN | apply below_drew1) | exact HB.out)) hb); have n1_ := Aside0.mk (hbox); have n2_ := Aside0.mk ((by rw [hg]; exact (below_size (by repeat (first | (with_reducible first | exact HB.out | apply below_alloc | apply pw_below_drewN | apply below_drew1) | exact HB.out))) : w.heap.size ≤ gb629)); have n3_ := Aside0.mk ((by rw [hg]; exact (below_size (by repeat (first | (with_reducible first | exact HB.out | apply below_alloc | apply pw_below_drewN | apply below_drew1) | exact HB.out))) : w.heap.size ≤ gb629)); clear HB; have HB := n0_; have BK629 := n1_; have GW629 := n2_; have GE629 := n3_; clear n0_ n1_ n2_ n3_; clear hb hbox hg) | ((with_reducible refine gate_callee (f := 31) rfl ?_); refine goesL_ (some 19) rfl rfl Try.func31 (by kernel_rfl) rfl #[] rfl (by (try simp only [List.map_toArray, List.map_cons, List.map_nil]); first | done | rfl | (simp only [List.length_drop, List.length_take]; rfl)) ?_; (with_reducible refine (sizarlaw15_saneC.calls  true _ A3.out).mono ?_); rintro e w10 ⟨rfl, hb⟩; refine ⟨_, rfl, ?_⟩; have n0_ := Aside0.mk (blk_below (g := gb629) (o := .cells #[.int .i64 a1_0, .int .i64 a1_1, .int .i64 a1_2, .int .i64 a1_3, .int .i64 a1_4] 39 (0, 0)) (by (with_reducible repeat (first | refine blk_drewN ?_ _ | refine blk_drew ?_ | refine blk_alloc ?_ _)); exact BK629.out) hb); have n1_ := Aside0.mk (below_step (by repeat (first | (with_reducible first | exact HB.out | apply below_alloc | apply pw_below_drewN | apply below_drew1 | refine below_set ?_ GE629.out) | exact HB.out)) hb); clear BK629; clear HB; have BK629 := n0_; have HB := n1_; clear n0_ n1_; (try clear hb); (try clear hb2); (try clear hk); (try clear hi)) | ((with_reducible refine gate_callee (f := 32) rfl ?_); refine goesL_ (some 22) rfl rfl Try.func32 (by kernel_rfl) rfl #[.slice A0 l0.length c0] rfl (by (try simp only [List.map_toArray, List.map_cons, List.map_nil]); first | done | rfl | (simp only [List.length_drop, List.length_take]; rfl)) ?_; (with_reducible refine (sizarref15_Few.calls _ _ l0 true _ ?side1 ?side2 A5.out).mono ?_); (case side1 => repeat (first | exact (Kd.C_below HR0.out HB.out) | (with_reducible refine Kd.C_alloc ?_ _) | (with_reducible refine Kd.C_drewN ?_ _) | (with_reducible refine Kd.C_drew ?_))); (case side2 => exact HC0.out); rintro e w' ⟨rfl, ⟨nd, rfl⟩⟩; refine ⟨_, rfl, ?_⟩; (try (rw [drewN_self w10]; generalize hq_ : World.drewN w10 _ = w10; have n0_ : Aside0 (w10.heap[gb629]? = some (.cells #[.int .i64 a1_0, .int .i64 a1_1, .int .i64 a1_2, .int .i64 a1_3, .int .i64 a1_4] 39 (0, 0))) := ⟨by rw [← hq_]; exact (by (with_reducible repeat (first | refine blk_drewN ?_ _ | refine blk_drew ?_ | refine blk_alloc ?_ _)); exact BK629.out)⟩; have n1_ : Aside0 (Below w.heap.size w w10) := ⟨by rw [← hq_]; exact (by repeat (first | (with_reducible first | exact HB.out | apply below_alloc | apply pw_below_drewN | apply below_drew1 | refine below_set ?_ GE629.out) | exact HB.out))⟩; clear BK629 HB hq_; have BK629 := n0_; have HB := n1_; clear n0_ n1_))) | ((with_reducible refine gate_callee (f := 33) rfl ?_); refine goesL_ (some 26) rfl rfl Try.func33 (by kernel_rfl) rfl #[.slice A0 l0.length c0] rfl (by (try simp only [List.map_toArray, List.map_cons, List.map_nil]); first | done | rfl | (simp only [List.length_drop, List.length_take]; rfl)) ?_; (with_reducible refine (average_MeanC.calls _ _ l0 t632 t633 t634 _ ?side1 ?side2 A7.out).mono ?_); (case side1 => repeat (first | exact (Kd.C_below HR0.out HB.out) | (with_reducible refine Kd.C_alloc ?_ _) | (with_reducible refine Kd.C_drewN ?_ _) | (with_reducible refine Kd.C_drew ?_))); (case side2 => exact HC0.out); rintro e w11 ⟨rfl, hb⟩; refine ⟨_, rfl, ?_⟩; have n0_ := Aside0.mk (blk_below (g := gb629) (o := .cells #[.int .i64 a1_0, .int .i64 a1_1, .int .i64 a1_2, .int .i64 a1_3, .int .i64 a1_4] 39 (0, 0)) (by (with_reducible repeat (first | refine blk_drewN ?_ _ | refine blk_drew ?_ | refine blk_alloc ?_ _)); exact BK629.out) hb); have n1_ := Aside0.mk (below_step (by repeat (first | (with_reducible first | exact HB.out | apply below_alloc | apply pw_below_drewN | apply below_drew1 | refine below_set ?_ GE629.out) | exact HB.out)) hb); clear BK629; clear HB; have BK629 := n0_; have HB := n1_; clear n0_ n1_; (try clear hb); (try clear hb2); (try clear hk); (try clear hi)) | ((with_reducible refine gate_dst (N := 5) rfl ?_); refine box_event ?hg (N := 5) ?hd (cs := #[.int .i64 0, .int .i64 0]) (t := 23) ?hr ?_; (case hd => rfl); (case hg => rfl); (case hr => first | (go_simp; done) | (go_simp; rfl)); intro gb635 hg w12 hbox hb; have n0_ := Aside0.mk (blk_below (g := gb629) (o := .cells #[.int .i64 a1_0, .int .i64 a1_1, .int .i64 a1_2, .int .i64 a1_3, .int .i64 a1_4] 39 (0, 0)) (by (with_reducible repeat (first | refine blk_drewN ?_ _ | refine blk_drew ?_ | refine blk_alloc ?_ _)); exact BK629.out) hb); have n1_ := Aside0.mk (below_step (by repeat (first | (with_reducible first | exact HB.out | apply below_alloc | apply pw_below_drewN | apply below_drew1 | refine below_set ?_ GE629.out) | exact HB.out)) hb); have n2_ := Aside0.mk (hbox); have n3_ := Aside0.mk ((by rw [hg]; exact (below_size (by repeat (first | (with_reducible first | exact HB.out | apply below_alloc | apply pw_below_drewN | apply below_drew1 | refine below_set ?_ GE629.out) | exact HB.out))) : w.heap.size ≤ gb635)); have n4_ := Aside0.mk ((by rw [hg]; exact (below_size (by repeat (first | (with_reducible first | exact HB.out | apply below_alloc | apply pw_below_drewN | apply below_drew1 | refine below_set ?_ GE629.out) | exact HB.out))) : w.heap.size ≤ gb635)); have n5_ := Aside0.mk ((by rw [hg]; exact Nat.ne_of_lt (blk_lt (g := gb629) (o := .cells #[.int .i64 a1_0, .int .i64 a1_1, .int .i64 a1_2, .int .i64 a1_3, .int .i64 a1_4] 39 (0, 0)) (by (with_reducible repeat (first | refine blk_drewN ?_ _ | refine blk_drew ?_ | refine blk_alloc ?_ _)); exact BK629.out)) : gb629 ≠ gb635)); have n6_ := Aside0.mk ((by rw [hg]; exact Nat.ne_of_gt (blk_lt (g := gb629) (o := .cells #[.int .i64 a1_0, .int .i64 a1_1, .int .i64 a1_2, .int .i64 a1_3, .int .i64 a1_4] 39 (0, 0)) (by (with_reducible repeat (first | refine blk_drewN ?_ _ | refine blk_drew ?_ | refine blk_alloc ?_ _)); exact BK629.out)) : gb635 ≠ gb629)); clear BK629; clear HB; have BK629 := n0_; have HB := n1_; have BK635 := n2_; have GW635 := n3_; have GE635 := n4_; have NB629_635 := n5_; have NB635_629 := n6_; clear n0_ n1_ n2_ n3_ n4_ n5_ n6_; clear hb hbox hg; have hnb13 := NB635_629.out; have hnc13 := NB629_635.out; have hcz14_0 : w12.cell? ⟨gb635, 0, none⟩ = some (.int .i64 0) := (blk_cell BK635.out 0).trans rfl; have hcz14_1 : w12.cell? ⟨gb635, 1, none⟩ = some (.int .i64 0) := (blk_cell BK635.out 1).trans rfl; have hfz14_0 := blk_frozen BK635.out 0; have hfz14_1 := blk_frozen BK635.out 1))
    go_loopg [7, 8, 9, 10] k (fun kq v7 v8 v9 v10 w' => ∃ (x7_1 : Int) (x8_1 : Int) (x9_1 : Bool) (x10_1 : Int), v7 = .int .i64 x7_1 ∧ v8 = .int .i64 x8_1 ∧ v9 = .bool x9_1 ∧ v10 = .int .i64 x10_1 ∧ Aside0 (sizarlaw15_AverageBetween.l0 kq l0 x7_1 x8_1 x9_1 x10_1 a1_0 a1_1 a1_2 a1_3 a1_4 t632 t633 = some r) ∧ Aside0 (kq ≤ k) ∧ Aside0 (w'.heap[gb629]? = some (.cells #[.int .i64 a1_0, .int .i64 a1_1, .int .i64 a1_2, .int .i64 a1_3, .int .i64 a1_4] 39 (0, 0))) ∧ Aside0 (w'.heap[gb635]? = some (.cells #[.int .i64 t632, .int .i64 t633] 23 (0, 0))) ∧ Aside0 (Below w.heap.size w w'))
    case atStart => exact ⟨(12), (0), (false), (0), (by first | rfl | (simp; done) | (simp [*]; done)), (by first | rfl | (simp; done) | (simp [*]; done)), (by first | rfl | (simp; done) | (simp [*]; done)), (by first | rfl | (simp; done) | (simp [*]; done)), H', ⟨Nat.le_refl _⟩, ⟨by (with_reducible repeat (first | refine blk_drewN ?_ _ | refine blk_drew ?_ | refine blk_alloc ?_ _)); refine blk_far ?_ NB629_635.out _; (with_reducible repeat (first | refine blk_drewN ?_ _ | refine blk_drew ?_ | refine blk_alloc ?_ _)); refine blk_far ?_ NB629_635.out _; (with_reducible repeat (first | refine blk_drewN ?_ _ | refine blk_drew ?_ | refine blk_alloc ?_ _)); exact BK629.out⟩, ⟨by (with_reducible repeat (first | refine blk_drewN ?_ _ | refine blk_drew ?_ | refine blk_alloc ?_ _)); refine blk_put (cs := #[.int .i64 t632, .int .i64 0]) ?_ 1 _ rfl; (with_reducible repeat (first | refine blk_drewN ?_ _ | refine blk_drew ?_ | refine blk_alloc ?_ _)); refine blk_put (cs := #[.int .i64 0, .int .i64 0]) ?_ 0 _ rfl; (with_reducible repeat (first | refine blk_drewN ?_ _ | refine blk_drew ?_ | refine blk_alloc ?_ _)); exact BK635.out⟩, ⟨by repeat (first | (with_reducible first | exact HB.out | apply below_alloc | apply pw_below_drewN | apply below_drew1 | refine below_set ?_ GE629.out | refine below_set ?_ GE635.out) | exact HB.out)⟩⟩
    case round =>
     clear H'
     try clear c1
     try clear p2
     try clear c3
     try clear c4
     try clear c6
     try clear c8
     try clear c8b0
     try clear c8b1
     try clear c13
     try clear hcz14_0
     try clear hcz14_1
     try clear hfz14_0
     try clear hfz14_1
     obtain ⟨x7_1, x8_1, x9_1, x10_1, rfl, rfl, rfl, rfl, HA, HK1, BK629, BK635, HB⟩ := hrel
     cases gk with
     | zero => exact absurd HA.out (by simp [sizarlaw15_AverageBetween.l0])
     | succ k1 =>
      have H := HA.out
      clear HA
      simp only [sizarlaw15_AverageBetween.l0] at H
      by_cases c15 : x10_1 < (l0.length : Int)
      ·rw [if_pos c15] at H
       have c15b0 : decide (x10_1 < (l0.length : Int)) = true := decide_eq_true c15
       clear c15
       by_cases c16 : 0 ≤ x10_1
       ·rw [if_pos c16] at H
        have c16b0 : decide (0 ≤ x10_1) = true := decide_eq_true c16
        clear c16
        by_cases c17 : ((rd_T39 l0 x10_1).f4) > 0
        ·rw [if_pos c17] at H
         have c17b0 : decide (0 < ((rd_T39 l0 x10_1).f4)) = true := decide_eq_true c17
         clear c17
         obtain ⟨ji18, hji18⟩ : ∃ j_ : Int, (mn x7_1 ((rd_T39 l0 x10_1).f2)) = j_ := ⟨_, rfl⟩
         replace H : (sizarlaw15_AverageBetween.l0 k1 l0 ji18 (mx x8_1 ((rd_T39 l0 x10_1).f2)) true (wrap64 (x10_1 + 1)) a1_0 a1_1 a1_2 a1_3 a1_4 t632 t633) = some r := by first | (rw [hji18] at H; exact H) | (simp only [hji18] at H ⊢; exact H)
         have hji18_ : (if ((rd_T39 l0 x10_1).f2) < x7_1 then ((rd_T39 l0 x10_1).f2) else x7_1) = ji18 := hji18
         obtain ⟨ji19, hji19⟩ : ∃ j_ : Int, (mx x8_1 ((rd_T39 l0 x10_1).f2)) = j_ := ⟨_, rfl⟩
         replace H : (sizarlaw15_AverageBetween.l0 k1 l0 ji18 ji19 true (wrap64 (x10_1 + 1)) a1_0 a1_1 a1_2 a1_3 a1_4 t632 t633) = some r := by first | (rw [hji19] at H; exact H) | (simp only [hji19] at H ⊢; exact H)
         have hji19_ : (if x8_1 < ((rd_T39 l0 x10_1).f2) then ((rd_T39 l0 x10_1).f2) else x8_1) = ji19 := hji19
         have H' := Aside0.mk H
         clear H
         have p636 : 0 ≤ (x10_1 : Int) := of_decide_eq_true (by first | (with_reducible assumption) | assumption)
         have q636 : x10_1 < (l0.length : Int) := of_decide_eq_true (by first | (with_reducible assumption) | assumption)
         obtain ⟨ad636, e636, hx636_0, hx636_1, hx636_2, hx636_3, hx636_4⟩ := at_T39 HR0.out x10_1 p636 q636
         cases e636
         replace hx636_0 := (HB.out.cell (World.block_lt_of_cell? w _ hx636_0)).trans hx636_0
         replace hx636_1 := (HB.out.cell (World.block_lt_of_cell? w _ hx636_1)).trans hx636_1
         replace hx636_2 := (HB.out.cell (World.block_lt_of_cell? w _ hx636_2)).trans hx636_2
         replace hx636_3 := (HB.out.cell (World.block_lt_of_cell? w _ hx636_3)).trans hx636_3
         replace hx636_4 := (HB.out.cell (World.block_lt_of_cell? w _ hx636_4)).trans hx636_4
         replace p636 := eq_true p636
         replace q636 := eq_true q636
         try go_wp2
         have n0_ := Aside0.mk (blk_drew BK629.out)
         have n1_ := Aside0.mk (blk_drew BK635.out)
         have n2_ := Aside0.mk (below_drew1 HB.out)
         clear BK629
         clear BK635
         clear HB
         have BK629 := n0_
         have BK635 := n1_
         have HB := n2_
         clear n0_ n1_ n2_
         have p637 : 0 ≤ (x10_1 : Int) := of_decide_eq_true (by first | (with_reducible assumption) | assumption)
         have q637 : x10_1 < (l0.length : Int) := of_decide_eq_true (by first | (with_reducible assumption) | assumption)
         obtain ⟨ad637, e637, hx637_0, hx637_1, hx637_2, hx637_3, hx637_4⟩ := at_T39 HR0.out x10_1 p637 q637
         have hw637_4 := hx637_4
         have hw637_3 := hx637_3
         have hw637_2 := hx637_2
         have hw637_1 := hx637_1
         have hw637_0 := hx637_0
         obtain rfl : ad636 = ad637 := (by injection e637)
         replace hx637_0 := (HB.out.cell (World.block_lt_of_cell? w _ hx637_0)).trans hx637_0
         replace hx637_1 := (HB.out.cell (World.block_lt_of_cell? w _ hx637_1)).trans hx637_1
         replace hx637_2 := (HB.out.cell (World.block_lt_of_cell? w _ hx637_2)).trans hx637_2
         replace hx637_3 := (HB.out.cell (World.block_lt_of_cell? w _ hx637_3)).trans hx637_3
         replace hx637_4 := (HB.out.cell (World.block_lt_of_cell? w _ hx637_4)).trans hx637_4
         replace p637 := eq_true p637
         replace q637 := eq_true q637
         have p638 : 0 ≤ (x10_1 : Int) := of_decide_eq_true (by first | (with_reducible assumption) | assumption)
         have q638 : x10_1 < (l0.length : Int) := of_decide_eq_true (by first | (with_reducible assumption) | assumption)
         obtain ⟨ad638, e638, hx638_0, hx638_1, hx638_2, hx638_3, hx638_4⟩ := at_T39 HR0.out x10_1 p638 q638
         have hw638_4 := hx638_4
         have hw638_3 := hx638_3
         have hw638_2 := hx638_2
         have hw638_1 := hx638_1
         have hw638_0 := hx638_0
         obtain rfl : ad636 = ad638 := (by injection e638)
         replace hx638_0 := (HB.out.cell (World.block_lt_of_cell? w _ hx638_0)).trans hx638_0
         replace hx638_1 := (HB.out.cell (World.block_lt_of_cell? w _ hx638_1)).trans hx638_1
         replace hx638_2 := (HB.out.cell (World.block_lt_of_cell? w _ hx638_2)).trans hx638_2
         replace hx638_3 := (HB.out.cell (World.block_lt_of_cell? w _ hx638_3)).trans hx638_3
         replace hx638_4 := (HB.out.cell (World.block_lt_of_cell? w _ hx638_4)).trans hx638_4
         replace p638 := eq_true p638
         replace q638 := eq_true q638
         refine start_ (n := 17) (S := fun w' => w'.cell? (ad636.add ((x10_1).toNat * 5)) = some (.int .i64 ((rd_T39 l0 x10_1).f0)) ∧ w'.cell? ⟨(ad636.add ((x10_1).toNat * 5)).block, (ad636.add ((x10_1).toNat * 5)).off + 1, none⟩ = some (.int .i64 ((rd_T39 l0 x10_1).f1)) ∧ w'.cell? ⟨(ad636.add ((x10_1).toNat * 5)).block, (ad636.add ((x10_1).toNat * 5)).off + 2, none⟩ = some (.int .i64 ((rd_T39 l0 x10_1).f2)) ∧ w'.cell? ⟨(ad636.add ((x10_1).toNat * 5)).block, (ad636.add ((x10_1).toNat * 5)).off + 3, none⟩ = some (.int .i64 ((rd_T39 l0 x10_1).f3)) ∧ w'.cell? ⟨(ad636.add ((x10_1).toNat * 5)).block, (ad636.add ((x10_1).toNat * 5)).off + 4, none⟩ = some (.int .i64 ((rd_T39 l0 x10_1).f4)) ∧ w'.cell? (ad636.add ((x10_1).toNat * 5)) = some (.int .i64 ((rd_T39 l0 x10_1).f0)) ∧ w'.cell? ⟨(ad636.add ((x10_1).toNat * 5)).block, (ad636.add ((x10_1).toNat * 5)).off + 1, none⟩ = some (.int .i64 ((rd_T39 l0 x10_1).f1)) ∧ w'.cell? ⟨(ad636.add ((x10_1).toNat * 5)).block, (ad636.add ((x10_1).toNat * 5)).off + 2, none⟩ = some (.int .i64 ((rd_T39 l0 x10_1).f2)) ∧ w'.cell? ⟨(ad636.add ((x10_1).toNat * 5)).block, (ad636.add ((x10_1).toNat * 5)).off + 3, none⟩ = some (.int .i64 ((rd_T39 l0 x10_1).f3)) ∧ w'.cell? ⟨(ad636.add ((x10_1).toNat * 5)).block, (ad636.add ((x10_1).toNat * 5)).off + 4, none⟩ = some (.int .i64 ((rd_T39 l0 x10_1).f4))) (ds := []) #[false, false, false, false, false, false, false, false, false, false, false, false, false, false, false, false, false] (by kernel_rfl) rfl rfl ⟨((HB.out.cell (World.block_lt_of_cell? w _ hw637_0)).trans hw637_0), ((HB.out.cell (World.block_lt_of_cell? w _ hw637_1)).trans hw637_1), ((HB.out.cell (World.block_lt_of_cell? w _ hw637_2)).trans hw637_2), ((HB.out.cell (World.block_lt_of_cell? w _ hw637_3)).trans hw637_3), ((HB.out.cell (World.block_lt_of_cell? w _ hw637_4)).trans hw637_4), ((HB.out.cell (World.block_lt_of_cell? w _ hw638_0)).trans hw638_0), ((HB.out.cell (World.block_lt_of_cell? w _ hw638_1)).trans hw638_1), ((HB.out.cell (World.block_lt_of_cell? w _ hw638_2)).trans hw638_2), ((HB.out.cell (World.block_lt_of_cell? w _ hw638_3)).trans hw638_3), ((HB.out.cell (World.block_lt_of_cell? w _ hw638_4)).trans hw638_4)⟩ (fun hHeld => ?_); refine with_tabW sizarlaw15_AverageBetween.tab13 sizarlaw15_AverageBetween.bits13 (fun HT_ HW_ => ?_)
         generalize wr.drew = w20 at BK629 BK635 HB hx637_0 hx637_1 hx637_2 hx637_3 hx637_4 hx638_0 hx638_1 hx638_2 hx638_3 hx638_4 hHeld ⊢
         refine pure_ (i := 0) (N := some 46) (v := ?_) (a' := ?_) #[true, false, false, false, false, false, false, false, false, false, false, false, false, false, false, false, false] rfl rfl (any_of HT_.out (by kernel_rfl)) (fun _ _ _ h => h) (Or.inl ⟨by rfl, ?_⟩) ?_ ?_
         rotate_left
         ·intro w'
          go_simp
          with_reducible rfl
         rotate_left
         ·simp only [Act.put, List.setIfInBounds_toArray, List.set_cons_zero, List.set_cons_succ, i64_w, i32_w]
          rfl
         refine pure_ (i := 1) (N := some 47) (v := ?_) (a' := ?_) #[true, true, false, false, false, false, false, false, false, false, false, false, false, false, false, false, false] rfl rfl (any_of HT_.out (by kernel_rfl)) (fun _ _ _ h => h) (Or.inl ⟨by rfl, ?_⟩) ?_ ?_
         rotate_left
         ·intro w'
          go_simp
          with_reducible rfl
         rotate_left
         ·simp only [Act.put, List.setIfInBounds_toArray, List.set_cons_zero, List.set_cons_succ, i64_w, i32_w]
          rfl
         refine pure_ (i := 2) (N := some 48) (v := ?_) (a' := ?_) #[true, true, true, false, false, false, false, false, false, false, false, false, false, false, false, false, false] rfl rfl (any_of HT_.out (by kernel_rfl)) (fun _ _ _ h => h) (Or.inl ⟨by rfl, ?_⟩) ?_ ?_
         rotate_left
         ·intro w'
          go_simp
          with_reducible rfl
         rotate_left
         ·simp only [Act.put, List.setIfInBounds_toArray, List.set_cons_zero, List.set_cons_succ, i64_w, i32_w]
          rfl
         refine pure_ (i := 3) (N := some 49) (v := ?_) (a' := ?_) #[true, true, true, true, false, false, false, false, false, false, false, false, false, false, false, false, false] rfl rfl (any_of HT_.out (by kernel_rfl)) (fun _ _ _ h => h) (Or.inl ⟨by rfl, ?_⟩) ?_ ?_
         rotate_left
         ·intro w'
          go_simp
          with_reducible rfl
         rotate_left
         ·simp only [Act.put, List.setIfInBounds_toArray, List.set_cons_zero, List.set_cons_succ, i64_w, i32_w]
          rfl
         refine pure_ (i := 4) (N := some 50) (v := ?_) (a' := ?_) #[true, true, true, true, true, false, false, false, false, false, false, false, false, false, false, false, false] rfl rfl (any_of HT_.out (by kernel_rfl)) (fun _ _ _ h => h) (Or.inl ⟨by rfl, ?_⟩) ?_ ?_
         rotate_left
         ·intro w'
          go_simp
          with_reducible rfl
         rotate_left
         ·simp only [Act.put, List.setIfInBounds_toArray, List.set_cons_zero, List.set_cons_succ, i64_w, i32_w]
          rfl
         refine pure_ (i := 7) (N := some 53) (v := ?_) (a' := ?_) #[true, true, true, true, true, false, false, true, false, false, false, false, false, false, false, false, false] rfl rfl (any_of HT_.out (by kernel_rfl)) (fun _ _ _ h => h) (Or.inl ⟨by rfl, ?_⟩) ?_ ?_
         rotate_left
         ·intro w'
          go_simp
          with_reducible rfl
         rotate_left
         ·simp only [Act.put, List.setIfInBounds_toArray, List.set_cons_zero, List.set_cons_succ, i64_w, i32_w]
          rfl
         refine pure_ (i := 8) (N := some 54) (v := ?_) (a' := ?_) #[true, true, true, true, true, false, false, true, true, false, false, false, false, false, false, false, false] rfl rfl (any_of HT_.out (by kernel_rfl)) (fun _ _ _ h => h) (Or.inl ⟨by rfl, ?_⟩) ?_ ?_
         rotate_left
         ·intro w'
          go_simp
          with_reducible rfl
         rotate_left
         ·simp only [Act.put, List.setIfInBounds_toArray, List.set_cons_zero, List.set_cons_succ, i64_w, i32_w]
          rfl
         refine pure_ (i := 9) (N := some 55) (v := ?_) (a' := ?_) #[true, true, true, true, true, false, false, true, true, true, false, false, false, false, false, false, false] rfl rfl (any_of HT_.out (by kernel_rfl)) (fun _ _ _ h => h) (Or.inl ⟨by rfl, ?_⟩) ?_ ?_
         rotate_left
         ·intro w'
          go_simp
          with_reducible rfl
         rotate_left
         ·simp only [Act.put, List.setIfInBounds_toArray, List.set_cons_zero, List.set_cons_succ, i64_w, i32_w]
          rfl
         refine pure_ (i := 10) (N := some 56) (v := ?_) (a' := ?_) #[true, true, true, true, true, false, false, true, true, true, true, false, false, false, false, false, false] rfl rfl (any_of HT_.out (by kernel_rfl)) (fun _ _ _ h => h) (Or.inl ⟨by rfl, ?_⟩) ?_ ?_
         rotate_left
         ·intro w'
          go_simp
          with_reducible rfl
         rotate_left
         ·simp only [Act.put, List.setIfInBounds_toArray, List.set_cons_zero, List.set_cons_succ, i64_w, i32_w]
          rfl
         refine pure_ (i := 11) (N := some 57) (v := ?_) (a' := ?_) #[true, true, true, true, true, false, false, true, true, true, true, true, false, false, false, false, false] rfl rfl (any_of HT_.out (by kernel_rfl)) (fun _ _ _ h => h) (Or.inl ⟨by rfl, ?_⟩) ?_ ?_
         rotate_left
         ·intro w'
          go_simp
          with_reducible rfl
         rotate_left
         ·simp only [Act.put, List.setIfInBounds_toArray, List.set_cons_zero, List.set_cons_succ, i64_w, i32_w]
          rfl
         refine take_ (i := 5) (N := some 51) (v := ?_) (a' := ?_) #[true, true, true, true, true, true, false, true, true, true, true, true, false, false, false, false, false] rfl rfl (take_ofW HT_.out HW_.out (by kernel_rfl)) (fun _ _ _ h => h) (Or.inl ⟨by rfl, ?_⟩) hHeld ?_ ?_
         rotate_left
         ·rintro w' ⟨s0, s1, s2, s3, s4, s5, s6, s7, s8, s9⟩
          go_simp
          with_reducible rfl
         rotate_left
         ·simp only [Act.put, List.setIfInBounds_toArray, List.set_cons_zero, List.set_cons_succ, i64_w, i32_w]
          rfl
         refine pure_ (i := 6) (N := some 52) (v := ?_) (a' := ?_) #[true, true, true, true, true, true, true, true, true, true, true, true, false, false, false, false, false] rfl rfl (any_of HT_.out (by kernel_rfl)) (fun _ _ _ h => h) (Or.inl ⟨by rfl, ?_⟩) ?_ ?_
         rotate_left
         ·intro w'
          go_simp
          with_reducible rfl
         rotate_left
         ·simp only [Act.put, List.setIfInBounds_toArray, List.set_cons_zero, List.set_cons_succ, i64_w, i32_w]
          rfl
         refine pure_ (i := 14) (N := some 7) (v := ?_) (a' := ?_) #[true, true, true, true, true, true, true, true, true, true, true, true, false, false, true, false, false] rfl rfl (any_of HT_.out (by kernel_rfl)) (fun _ _ _ h => h) (Or.inl ⟨by rfl, ?_⟩) ?_ ?_
         rotate_left
         ·intro w'
          go_simp
          with_reducible rfl
         rotate_left
         ·simp only [Act.put, List.setIfInBounds_toArray, List.set_cons_zero, List.set_cons_succ, i64_w, i32_w]
          rfl
         refine take_ (i := 12) (N := some 58) (v := ?_) (a' := ?_) #[true, true, true, true, true, true, true, true, true, true, true, true, true, false, true, false, false] rfl rfl (take_ofW HT_.out HW_.out (by kernel_rfl)) (fun _ _ _ h => h) (Or.inl ⟨by rfl, ?_⟩) hHeld ?_ ?_
         rotate_left
         ·rintro w' ⟨s0, s1, s2, s3, s4, s5, s6, s7, s8, s9⟩
          go_simp
          with_reducible rfl
         rotate_left
         ·simp only [Act.put, List.setIfInBounds_toArray, List.set_cons_zero, List.set_cons_succ, i64_w, i32_w]
          rfl
         refine pure_ (i := 13) (N := some 59) (v := ?_) (a' := ?_) #[true, true, true, true, true, true, true, true, true, true, true, true, true, true, true, false, false] rfl rfl (any_of HT_.out (by kernel_rfl)) (fun _ _ _ h => h) (Or.inl ⟨by rfl, ?_⟩) ?_ ?_
         rotate_left
         ·intro w'
          go_simp
          with_reducible rfl
         rotate_left
         ·simp only [Act.put, List.setIfInBounds_toArray, List.set_cons_zero, List.set_cons_succ, i64_w, i32_w]
          rfl
         refine pure_ (i := 15) (N := some 8) (v := ?_) (a' := ?_) #[true, true, true, true, true, true, true, true, true, true, true, true, true, true, true, true, false] rfl rfl (any_of HT_.out (by kernel_rfl)) (fun _ _ _ h => h) (Or.inl ⟨by rfl, ?_⟩) ?_ ?_
         rotate_left
         ·intro w'
          go_simp
          with_reducible rfl
         rotate_left
         ·simp only [Act.put, List.setIfInBounds_toArray, List.set_cons_zero, List.set_cons_succ, i64_w, i32_w]
          rfl
         refine pure_ (i := 16) (N := some 9) (v := ?_) (a' := ?_) #[true, true, true, true, true, true, true, true, true, true, true, true, true, true, true, true, true] rfl rfl (any_of HT_.out (by kernel_rfl)) (fun _ _ _ h => h) (Or.inl ⟨by rfl, ?_⟩) ?_ ?_
         rotate_left
         ·intro w'
          go_simp
          with_reducible rfl
         rotate_left
         ·simp only [Act.put, List.setIfInBounds_toArray, List.set_cons_zero, List.set_cons_succ, i64_w, i32_w]
          rfl
         refine done_ (done_of HT_.out (by kernel_rfl)) ?_
         try go_wp2
         go_roundg k1
         case measure => have := HK1.out; omega
         case rel => exact ⟨(ji18), (ji19), (true), (wrap64 (x10_1 + 1)), (by first | rfl | (simp; done) | (simp only [← hji18] <;> (first | rfl | simp)) | (simp [*]; done)), (by first | rfl | (simp; done) | (simp only [← hji19] <;> (first | rfl | simp)) | (simp [*]; done)), (by first | rfl | (simp; done) | (simp [*]; done)), (by first | rfl | (simp; done) | (simp [*]; done)), H', ⟨by have := HK1.out; omega⟩, ⟨by (with_reducible repeat (first | refine blk_drewN ?_ _ | refine blk_drew ?_ | refine blk_alloc ?_ _)); exact BK629.out⟩, ⟨by (with_reducible repeat (first | refine blk_drewN ?_ _ | refine blk_drew ?_ | refine blk_alloc ?_ _)); exact BK635.out⟩, ⟨by repeat (first | (with_reducible first | exact HB.out | apply below_alloc | apply pw_below_drewN | apply below_drew1 | refine below_set ?_ GE629.out | refine below_set ?_ GE635.out) | exact HB.out)⟩⟩
        ·rw [if_neg c17] at H
         have c17b0 : decide (0 < ((rd_T39 l0 x10_1).f4)) = false := decide_eq_false c17
         clear c17
         have H' := Aside0.mk H
         clear H
         have p636 : 0 ≤ (x10_1 : Int) := of_decide_eq_true (by first | (with_reducible assumption) | assumption)
         have q636 : x10_1 < (l0.length : Int) := of_decide_eq_true (by first | (with_reducible assumption) | assumption)
         obtain ⟨ad636, e636, hx636_0, hx636_1, hx636_2, hx636_3, hx636_4⟩ := at_T39 HR0.out x10_1 p636 q636
         cases e636
         replace hx636_0 := (HB.out.cell (World.block_lt_of_cell? w _ hx636_0)).trans hx636_0
         replace hx636_1 := (HB.out.cell (World.block_lt_of_cell? w _ hx636_1)).trans hx636_1
         replace hx636_2 := (HB.out.cell (World.block_lt_of_cell? w _ hx636_2)).trans hx636_2
         replace hx636_3 := (HB.out.cell (World.block_lt_of_cell? w _ hx636_3)).trans hx636_3
         replace hx636_4 := (HB.out.cell (World.block_lt_of_cell? w _ hx636_4)).trans hx636_4
         replace p636 := eq_true p636
         replace q636 := eq_true q636
         go_wp2
         go_roundg k1
         case measure => have := HK1.out; omega
         case rel => exact ⟨(x7_1), (x8_1), (x9_1), (wrap64 (x10_1 + 1)), (by first | rfl | (simp; done) | (simp [*]; done)), (by first | rfl | (simp; done) | (simp [*]; done)), (by first | rfl | (simp; done) | (simp [*]; done)), (by first | rfl | (simp; done) | (simp [*]; done)), H', ⟨by have := HK1.out; omega⟩, ⟨by (with_reducible repeat (first | refine blk_drewN ?_ _ | refine blk_drew ?_ | refine blk_alloc ?_ _)); exact BK629.out⟩, ⟨by (with_reducible repeat (first | refine blk_drewN ?_ _ | refine blk_drew ?_ | refine blk_alloc ?_ _)); exact BK635.out⟩, ⟨by repeat (first | (with_reducible first | exact HB.out | apply below_alloc | apply pw_below_drewN | apply below_drew1 | refine below_set ?_ GE629.out | refine below_set ?_ GE635.out) | exact HB.out)⟩⟩
       ·rw [if_neg c16] at H
        exact absurd H (by simp)
      ·rw [if_neg c15] at H
       have c15b0 : decide (x10_1 < (l0.length : Int)) = false := decide_eq_false c15
       clear c15
       by_cases c21 : x9_1 = true
       ·subst c21
        have H1 : ((ratio_Compare.f x7_1 1 t632 t633).bind fun bt639 => ((ratio_Compare.f t632 t633 x8_1 1).bind fun bt641 => (if bt639.2 = 0 then (if bt641.2 = 0 then (if bt639.1 > 0 then (sizarlaw15_AverageBetween.j1 k1 l0 x8_1 true a1_0 a1_1 a1_2 a1_3 a1_4 t632 t633) else (sizarlaw15_AverageBetween.j1 k1 l0 x8_1 (decide (bt641.1 > 0)) a1_0 a1_1 a1_2 a1_3 a1_4 t632 t633)) else (sizarlaw15_AverageBetween.j1 k1 l0 x8_1 true a1_0 a1_1 a1_2 a1_3 a1_4 t632 t633)) else (sizarlaw15_AverageBetween.j1 k1 l0 x8_1 true a1_0 a1_1 a1_2 a1_3 a1_4 t632 t633)))) = some r := by rw [if_pos rfl] at H; exact H
        clear H
        have H := H1
        clear H1
        replace H := Option.bind_eq_some_iff.mp H
        obtain ⟨⟨t639, t640⟩, A220, H⟩ := H
        replace H : ((ratio_Compare.f t632 t633 x8_1 1).bind fun bt641 => (if t640 = 0 then (if bt641.2 = 0 then (if t639 > 0 then (sizarlaw15_AverageBetween.j1 k1 l0 x8_1 true a1_0 a1_1 a1_2 a1_3 a1_4 t632 t633) else (sizarlaw15_AverageBetween.j1 k1 l0 x8_1 (decide (bt641.1 > 0)) a1_0 a1_1 a1_2 a1_3 a1_4 t632 t633)) else (sizarlaw15_AverageBetween.j1 k1 l0 x8_1 true a1_0 a1_1 a1_2 a1_3 a1_4 t632 t633)) else (sizarlaw15_AverageBetween.j1 k1 l0 x8_1 true a1_0 a1_1 a1_2 a1_3 a1_4 t632 t633))) = some r := H
        have A22 := Aside0.mk A220
        clear A220
        replace H := Option.bind_eq_some_iff.mp H
        obtain ⟨⟨t641, t642⟩, A230, H⟩ := H
        replace H : (if t640 = 0 then (if t642 = 0 then (if t639 > 0 then (sizarlaw15_AverageBetween.j1 k1 l0 x8_1 true a1_0 a1_1 a1_2 a1_3 a1_4 t632 t633) else (sizarlaw15_AverageBetween.j1 k1 l0 x8_1 (decide (t641 > 0)) a1_0 a1_1 a1_2 a1_3 a1_4 t632 t633)) else (sizarlaw15_AverageBetween.j1 k1 l0 x8_1 true a1_0 a1_1 a1_2 a1_3 a1_4 t632 t633)) else (sizarlaw15_AverageBetween.j1 k1 l0 x8_1 true a1_0 a1_1 a1_2 a1_3 a1_4 t632 t633)) = some r := H
        have A23 := Aside0.mk A230
        clear A230
        have HC24 := Aside0.mk H
        clear H
        have hnb25 := NB635_629.out
        have hnc25 := NB629_635.out
        have hcz26_0 : wr.cell? ⟨gb635, 0, none⟩ = some (.int .i64 t632) := (blk_cell BK635.out 0).trans rfl
        have hcz26_1 : wr.cell? ⟨gb635, 1, none⟩ = some (.int .i64 t633) := (blk_cell BK635.out 1).trans rfl
        have hfz26_0 := blk_frozen BK635.out 0
        have hfz26_1 := blk_frozen BK635.out 1
        go_upto_region 18 with (first | ((with_reducible refine gate_callee (f := 27) rfl ?_); refine goesL_ (some 69) rfl rfl Try.func27 (by kernel_rfl) rfl #[.agg #[.int .i64 x7_1, .int .i64 1], .agg #[.int .i64 t632, .int .i64 t633]] rfl (by (try simp only [List.map_toArray, List.map_cons, List.map_nil]); first | done | rfl | (simp only [List.length_drop, List.length_take]; rfl)) ?_; (with_reducible refine (ratio_Compare.calls x7_1 1 t632 t633 t639 t640 _ A22.out).mono ?_); rintro e w27 ⟨rfl, hb⟩; refine ⟨_, rfl, ?_⟩; have n0_ := Aside0.mk (blk_below (g := gb629) (o := .cells #[.int .i64 a1_0, .int .i64 a1_1, .int .i64 a1_2, .int .i64 a1_3, .int .i64 a1_4] 39 (0, 0)) (by (with_reducible repeat (first | refine blk_drewN ?_ _ | refine blk_drew ?_ | refine blk_alloc ?_ _)); exact BK629.out) hb); have n1_ := Aside0.mk (blk_below (g := gb635) (o := .cells #[.int .i64 t632, .int .i64 t633] 23 (0, 0)) (by (with_reducible repeat (first | refine blk_drewN ?_ _ | refine blk_drew ?_ | refine blk_alloc ?_ _)); exact BK635.out) hb); have n2_ := Aside0.mk (below_step (by repeat (first | (with_reducible first | exact HB.out | apply below_alloc | apply pw_below_drewN | apply below_drew1 | refine below_set ?_ GE629.out | refine below_set ?_ GE635.out) | exact HB.out)) hb); clear BK629; clear BK635; clear HB; have BK629 := n0_; have BK635 := n1_; have HB := n2_; clear n0_ n1_ n2_; (try clear hb); (try clear hb2); (try clear hk); (try clear hi); have hcz28_0 : w27.cell? ⟨gb635, 0, none⟩ = some (.int .i64 t632) := (blk_cell BK635.out 0).trans rfl; have hcz28_1 : w27.cell? ⟨gb635, 1, none⟩ = some (.int .i64 t633) := (blk_cell BK635.out 1).trans rfl; have hfz28_0 := blk_frozen BK635.out 0; have hfz28_1 := blk_frozen BK635.out 1) | ((with_reducible refine gate_callee (f := 27) rfl ?_); refine goesL_ (some 76) rfl rfl Try.func27 (by kernel_rfl) rfl #[.agg #[.int .i64 t632, .int .i64 t633], .agg #[.int .i64 x8_1, .int .i64 1]] rfl (by (try simp only [List.map_toArray, List.map_cons, List.map_nil]); first | done | rfl | (simp only [List.length_drop, List.length_take]; rfl)) ?_; (with_reducible refine (ratio_Compare.calls t632 t633 x8_1 1 t641 t642 _ A23.out).mono ?_); rintro e w29 ⟨rfl, hb⟩; refine ⟨_, rfl, ?_⟩; have n0_ := Aside0.mk (blk_below (g := gb629) (o := .cells #[.int .i64 a1_0, .int .i64 a1_1, .int .i64 a1_2, .int .i64 a1_3, .int .i64 a1_4] 39 (0, 0)) (by (with_reducible repeat (first | refine blk_drewN ?_ _ | refine blk_drew ?_ | refine blk_alloc ?_ _)); exact BK629.out) hb); have n1_ := Aside0.mk (blk_below (g := gb635) (o := .cells #[.int .i64 t632, .int .i64 t633] 23 (0, 0)) (by (with_reducible repeat (first | refine blk_drewN ?_ _ | refine blk_drew ?_ | refine blk_alloc ?_ _)); exact BK635.out) hb); have n2_ := Aside0.mk (below_step (by repeat (first | (with_reducible first | exact HB.out | apply below_alloc | apply pw_below_drewN | apply below_drew1 | refine below_set ?_ GE629.out | refine below_set ?_ GE635.out) | exact HB.out)) hb); clear BK629; clear BK635; clear HB; have BK629 := n0_; have BK635 := n1_; have HB := n2_; clear n0_ n1_ n2_; (try clear hb); (try clear hb2); (try clear hk); (try clear hi)))
        (try simp only [Act.put, List.setIfInBounds_toArray, List.set_cons_zero, List.set_cons_succ])
        go_cut [92] (fun v92 wc => ∃ (kq : Nat) (x92_23 : Bool), v92 = .bool x92_23 ∧ Aside0 (sizarlaw15_AverageBetween.j1 kq l0 x8_1 x92_23 a1_0 a1_1 a1_2 a1_3 a1_4 t632 t633 = some r) ∧ Aside0 (kq ≤ k1) ∧ Aside0 (wc.heap[gb629]? = some (.cells #[.int .i64 a1_0, .int .i64 a1_1, .int .i64 a1_2, .int .i64 a1_3, .int .i64 a1_4] 39 (0, 0))) ∧ Aside0 (wc.heap[gb635]? = some (.cells #[.int .i64 t632, .int .i64 t633] 23 (0, 0))) ∧ Aside0 (Below w.heap.size w wc))
        case first =>
         as_aux_lemma =>
         have H := HC24.out
         clear HC24
         by_cases c30 : t640 = 0
         ·rw [if_pos c30] at H
          have c30b0 : (t640 == 0) = true := beq_iff_eq.mpr c30
          have c30b1 : (t640 != 0) = false := bne_eq_false_iff_eq.mpr c30
          clear c30
          (first | rw [c30b0] | (simp only [i64_w, i32_w]; rw [c30b0]) | skip)
          by_cases c31 : t642 = 0
          ·rw [if_pos c31] at H
           have c31b0 : (t642 == 0) = true := beq_iff_eq.mpr c31
           have c31b1 : (t642 != 0) = false := bne_eq_false_iff_eq.mpr c31
           clear c31
           by_cases c32 : t639 > 0
           ·rw [if_pos c32] at H
            have c32b0 : decide (0 < t639) = true := decide_eq_true c32
            clear c32
            cases k1 with
            | zero => exact absurd H (by simp [sizarlaw15_AverageBetween.j1])
            | succ kd_ =>
             simp only [sizarlaw15_AverageBetween.j1, if_true] at H
             exact absurd ((Option.some.inj H).trans hrt.out) (by decide)
           ·rw [if_neg c32] at H
            have c32b0 : decide (0 < t639) = false := decide_eq_false c32
            clear c32
            have H' := Aside0.mk H
            clear H
            go_wp2
            go_meet
            case rel => exact ⟨_, (decide (t641 > 0)), (by first | rfl | (simp; done) | (simp [*]; done)), H', ⟨by have := HK1.out; first | omega | exact Nat.le_refl _⟩, ⟨by (with_reducible repeat (first | refine blk_drewN ?_ _ | refine blk_drew ?_ | refine blk_alloc ?_ _)); exact BK629.out⟩, ⟨by (with_reducible repeat (first | refine blk_drewN ?_ _ | refine blk_drew ?_ | refine blk_alloc ?_ _)); exact BK635.out⟩, ⟨by repeat (first | (with_reducible first | exact HB.out | apply below_alloc | apply pw_below_drewN | apply below_drew1 | refine below_set ?_ GE629.out | refine below_set ?_ GE635.out) | exact HB.out)⟩⟩
          ·rw [if_neg c31] at H
           have c31b0 : (t642 == 0) = false := beq_eq_false_iff_ne.mpr c31
           have c31b1 : (t642 != 0) = true := bne_iff_ne.mpr c31
           cases k1 with
           | zero => exact absurd H (by simp [sizarlaw15_AverageBetween.j1])
           | succ kd_ =>
            simp only [sizarlaw15_AverageBetween.j1, if_true] at H
            exact absurd ((Option.some.inj H).trans hrt.out) (by decide)
         ·rw [if_neg c30] at H
          have c30b0 : (t640 == 0) = false := beq_eq_false_iff_ne.mpr c30
          have c30b1 : (t640 != 0) = true := bne_iff_ne.mpr c30
          (first | rw [c30b0] | (simp only [i64_w, i32_w]; rw [c30b0]) | skip)
          cases k1 with
          | zero => exact absurd H (by simp [sizarlaw15_AverageBetween.j1])
          | succ kd_ =>
           simp only [sizarlaw15_AverageBetween.j1, if_true] at H
           exact absurd ((Option.some.inj H).trans hrt.out) (by decide)
        case rest =>
         clear HC24
         try clear c1
         try clear c2
         try clear p2
         try clear c3
         try clear c4
         try clear c6
         try clear p6
         try clear q6
         try clear hx6
         try clear c8
         try clear c8b0
         try clear c8b1
         try clear c13
         try clear c15
         try clear c15b0
         try clear c16
         try clear c16b0
         try clear c17
         try clear c17b0
         try clear c21
         try clear c25
         try clear c27
         try clear c30
         try clear c30b0
         try clear c30b1
         try clear c31
         try clear c31b0
         try clear c31b1
         try clear c32
         try clear c32b0
         try clear hcz14_0
         try clear hcz14_1
         try clear hcz26_0
         try clear hcz26_1
         try clear hcz28_0
         try clear hcz28_1
         try clear hfz14_0
         try clear hfz14_1
         try clear hfz26_0
         try clear hfz26_1
         try clear hfz28_0
         try clear hfz28_1
         try clear hx636_0
         try clear hx636_1
         try clear hx636_2
         try clear hx636_3
         try clear hx636_4
         try clear hx637_0
         try clear hx637_1
         try clear hx637_2
         try clear hx637_3
         try clear hx637_4
         try clear hx638_0
         try clear hx638_1
         try clear hx638_2
         try clear hx638_3
         try clear hx638_4
         try clear p2
         try clear p636
         try clear p637
         try clear p638
         try clear q636
         try clear q637
         try clear q638
         obtain ⟨kq, x92_23, rfl, HA, HJ23, BK629, BK635, HB⟩ := hcut
         cases kq with
         | zero => exact absurd HA.out (by simp [sizarlaw15_AverageBetween.j1])
         | succ kj23 =>
          have H := HA.out
          clear HA
          simp only [sizarlaw15_AverageBetween.j1] at H
          by_cases c33 : x92_23 = true
          ·subst c33
           have H1 : (some false) = some r := by rw [if_pos rfl] at H; exact H
           clear H
           have H := H1
           clear H1
           exact absurd ((Option.some.inj H).trans hrt.out) (by decide)
          ·replace c33 := Bool.eq_false_iff.mpr c33
           subst c33
           have H1 : ((some (([] : List (S39)) : List (S39))).bind fun y643 => (if y643.length + l0.length < 3518437208883 then ((some (y643 ++ l0 : List (S39))).bind fun y646 => ((some (([(⟨a1_0, a1_1, a1_2, a1_3, a1_4⟩ : S39)] : List (S39)) : List (S39))).bind fun y649 => (if y646.length + y649.length < 3518437208883 then ((average_MeanC.f (y646 ++ y649)).bind fun bt655 => (if bt655.2.2 = 0 then (if a1_2 < x8_1 then (some true) else ((ratio_Compare.f t632 t633 bt655.1 bt655.2.1).bind fun bt659 => (if bt659.2 = 0 then (some (decide (bt659.1 ≤ 0))) else (some false)))) else (some (bt655.2.2 == 150)))) else (none)))) else (none))) = some r := by rw [if_neg (show ¬ (false = true) by decide)] at H; exact H
           clear H
           have H := H1
           clear H1
           obtain ⟨y643, hy643⟩ : ∃ y_ : List (S39), y_ = (([] : List (S39))) := ⟨_, rfl⟩
           replace H : (if y643.length + l0.length < 3518437208883 then ((some (y643 ++ l0 : List (S39))).bind fun y646 => ((some (([(⟨a1_0, a1_1, a1_2, a1_3, a1_4⟩ : S39)] : List (S39)) : List (S39))).bind fun y649 => (if y646.length + y649.length < 3518437208883 then ((average_MeanC.f (y646 ++ y649)).bind fun bt655 => (if bt655.2.2 = 0 then (if a1_2 < x8_1 then (some true) else ((ratio_Compare.f t632 t633 bt655.1 bt655.2.1).bind fun bt659 => (if bt659.2 = 0 then (some (decide (bt659.1 ≤ 0))) else (some false)))) else (some (bt655.2.2 == 150)))) else (none)))) else (none)) = some r := by first | (rw [hy643]; with_reducible exact H) | (have H2_ := (Option.bind_some _ _).symm.trans H; rw [hy643]; with_reducible exact H2_) | (have H2_ := (Option.bind_some _ _).symm.trans H; with_reducible exact H2_) | with_reducible exact H | (rw [hy643]; exact H) | exact H
           have Ny643 := Aside0.mk hy643
           clear hy643
           by_cases c34 : y643.length + l0.length < 3518437208883
           ·rw [if_pos c34] at H
            have LMc34 := Aside0.mk c34
            clear c34
            obtain ⟨y646, hy646⟩ : ∃ y_ : List (S39), y_ = (y643 ++ l0) := ⟨_, rfl⟩
            replace H : ((some (([(⟨a1_0, a1_1, a1_2, a1_3, a1_4⟩ : S39)] : List (S39)) : List (S39))).bind fun y649 => (if y646.length + y649.length < 3518437208883 then ((average_MeanC.f (y646 ++ y649)).bind fun bt655 => (if bt655.2.2 = 0 then (if a1_2 < x8_1 then (some true) else ((ratio_Compare.f t632 t633 bt655.1 bt655.2.1).bind fun bt659 => (if bt659.2 = 0 then (some (decide (bt659.1 ≤ 0))) else (some false)))) else (some (bt655.2.2 == 150)))) else (none))) = some r := by first | (rw [hy646]; with_reducible exact H) | (have H2_ := (Option.bind_some _ _).symm.trans H; rw [hy646]; with_reducible exact H2_) | (have H2_ := (Option.bind_some _ _).symm.trans H; with_reducible exact H2_) | with_reducible exact H | (rw [hy646]; exact H) | exact H
            have Ny646 := Aside0.mk hy646
            clear hy646
            obtain ⟨y649, hy649⟩ : ∃ y_ : List (S39), y_ = (([(⟨a1_0, a1_1, a1_2, a1_3, a1_4⟩ : S39)] : List (S39))) := ⟨_, rfl⟩
            replace H : (if y646.length + y649.length < 3518437208883 then ((average_MeanC.f (y646 ++ y649)).bind fun bt655 => (if bt655.2.2 = 0 then (if a1_2 < x8_1 then (some true) else ((ratio_Compare.f t632 t633 bt655.1 bt655.2.1).bind fun bt659 => (if bt659.2 = 0 then (some (decide (bt659.1 ≤ 0))) else (some false)))) else (some (bt655.2.2 == 150)))) else (none)) = some r := by first | (rw [hy649]; with_reducible exact H) | (have H2_ := (Option.bind_some _ _).symm.trans H; rw [hy649]; with_reducible exact H2_) | (have H2_ := (Option.bind_some _ _).symm.trans H; with_reducible exact H2_) | with_reducible exact H | (rw [hy649]; exact H) | exact H
            have Ny649 := Aside0.mk hy649
            clear hy649
            by_cases c35 : y646.length + y649.length < 3518437208883
            ·rw [if_pos c35] at H
             have LMc35 := Aside0.mk c35
             clear c35
             obtain ⟨y652, hy652⟩ : ∃ y_ : List (S39), y_ = (y646 ++ y649) := ⟨_, rfl⟩
             replace H : ((average_MeanC.f y652).bind fun bt655 => (if bt655.2.2 = 0 then (if a1_2 < x8_1 then (some true) else ((ratio_Compare.f t632 t633 bt655.1 bt655.2.1).bind fun bt659 => (if bt659.2 = 0 then (some (decide (bt659.1 ≤ 0))) else (some false)))) else (some (bt655.2.2 == 150)))) = some r := by first | (rw [hy652]; with_reducible exact H) | (have H2_ := (Option.bind_some _ _).symm.trans H; rw [hy652]; with_reducible exact H2_) | (have H2_ := (Option.bind_some _ _).symm.trans H; with_reducible exact H2_) | with_reducible exact H | (rw [hy652]; exact H) | exact H
             have Ny652 := Aside0.mk hy652
             clear hy652
             replace H := Option.bind_eq_some_iff.mp H
             obtain ⟨⟨t655, t656, t657⟩, A360, H⟩ := H
             replace H : (if t657 = 0 then (if a1_2 < x8_1 then (some true) else ((ratio_Compare.f t632 t633 t655 t656).bind fun bt659 => (if bt659.2 = 0 then (some (decide (bt659.1 ≤ 0))) else (some false)))) else (some (t657 == 150))) = some r := H
             have A36 := Aside0.mk A360
             clear A360
             have HC36 := Aside0.mk H
             clear H
             try go_wp2
             go_cut [15, 16] (fun v15 v16 wd => ∃ gd : Nat, v15 = .pointer (some ⟨gd, 0, none⟩) ∧ v16 = .int .i64 t657 ∧ Aside0 (w.heap.size ≤ gd) ∧ Aside0 (wd.heap[gb629]? = some (.cells #[.int .i64 a1_0, .int .i64 a1_1, .int .i64 a1_2, .int .i64 a1_3, .int .i64 a1_4] 39 (0, 0))) ∧ Aside0 (wd.heap[gb635]? = some (.cells #[.int .i64 t632, .int .i64 t633] 23 (0, 0))) ∧ Aside0 (wd.heap[gd]? = some (.cells #[.int .i64 t655, .int .i64 t656] 23 (0, 0))) ∧ Aside0 (Below w.heap.size w wd))
             case first =>
              have n0_ := Aside0.mk (blk_drew BK629.out)
              have n1_ := Aside0.mk (blk_drew BK635.out)
              have n2_ := Aside0.mk (below_drew1 HB.out)
              clear BK629
              clear BK635
              clear HB
              have BK629 := n0_
              have BK635 := n1_
              have HB := n2_
              clear n0_ n1_ n2_
              refine start_ (n := 13) (S := fun w' => w'.cell? ⟨gb629, 0, none⟩ = some (.int .i64 a1_0) ∧ w'.cell? ⟨gb629, 1, none⟩ = some (.int .i64 a1_1) ∧ w'.cell? ⟨gb629, 2, none⟩ = some (.int .i64 a1_2) ∧ w'.cell? ⟨gb629, 3, none⟩ = some (.int .i64 a1_3) ∧ w'.cell? ⟨gb629, 4, none⟩ = some (.int .i64 a1_4)) (ds := []) #[false, false, false, false, false, false, false, false, false, false, false, false, false] (by kernel_rfl) rfl rfl ⟨(blk_cell BK629.out 0).trans rfl, (blk_cell BK629.out 1).trans rfl, (blk_cell BK629.out 2).trans rfl, (blk_cell BK629.out 3).trans rfl, (blk_cell BK629.out 4).trans rfl⟩ (fun hHeld => ?_); refine with_tabW sizarlaw15_AverageBetween.tab20 sizarlaw15_AverageBetween.bits20 (fun HT_ HW_ => ?_)
              generalize wc.drew = w39 at BK629 BK635 HB hHeld ⊢
              refine pure_ (i := 1) (N := some 95) (v := ?_) (a' := ?_) #[false, true, false, false, false, false, false, false, false, false, false, false, false] rfl rfl (any_of HT_.out (by kernel_rfl)) (fun _ _ _ h => h) (Or.inl ⟨by rfl, ?_⟩) ?_ ?_
              rotate_left
              ·intro w'
               go_simp
               with_reducible rfl
              rotate_left
              ·simp only [Act.put, List.setIfInBounds_toArray, List.set_cons_zero, List.set_cons_succ, i64_w, i32_w]
               rfl
              refine take_ (i := 3) (N := some 97) (v := ?_) (a' := ?_) #[false, true, false, true, false, false, false, false, false, false, false, false, false] rfl rfl (take_ofW HT_.out HW_.out (by kernel_rfl)) (fun _ _ _ h => h) (Or.inl ⟨by rfl, ?_⟩) hHeld ?_ ?_
              rotate_left
              ·rintro w' ⟨s0, s1, s2, s3, s4⟩
               go_simp
               with_reducible rfl
              rotate_left
              ·simp only [Act.put, List.setIfInBounds_toArray, List.set_cons_zero, List.set_cons_succ, i64_w, i32_w]
               rfl
              refine join_ (σ := Value × Value × Value × Value × Nat) 2 #[true, true, true, true, true, true, true, true, true, true, true, false, false] (fun s_ => [(94, s_.1), (96, s_.2.1), (98, s_.2.2.1), (99, s_.2.2.2.1), (100, .tuple #[.agg #[.int .i64 t655, .int .i64 t656], .int .i64 t657]), (15, .pointer (some ⟨s_.2.2.2.2, 0, none⟩)), (93, .tuple #[.agg #[.int .i64 t655, .int .i64 t656], .int .i64 t657]), (101, .agg #[.int .i64 t655, .int .i64 t656]), (102, .int .i64 t657)]) (fun s_ w' => (w'.cell? ⟨gb629, 0, none⟩ = some (.int .i64 a1_0) ∧ w'.cell? ⟨gb629, 1, none⟩ = some (.int .i64 a1_1) ∧ w'.cell? ⟨gb629, 2, none⟩ = some (.int .i64 a1_2) ∧ w'.cell? ⟨gb629, 3, none⟩ = some (.int .i64 a1_3) ∧ w'.cell? ⟨gb629, 4, none⟩ = some (.int .i64 a1_4)) ∧ (Kd.R k39 39 w' w.heap.size (fun k_ => some k_ ≠ (s_.2.2.2.1 : Value).ownBlock ∧ k_ ≠ gb629) s_.2.2.1 y649) ∧ (Kd.R k39 39 w' w.heap.size (fun k_ => some k_ ≠ (s_.2.2.1 : Value).ownBlock ∧ k_ ≠ gb629) s_.2.2.2.1 y652) ∧ (w'.heap[gb629]? = some (.cells #[.int .i64 a1_0, .int .i64 a1_1, .int .i64 a1_2, .int .i64 a1_3, .int .i64 a1_4] 39 (0, 0))) ∧ (w'.heap[gb635]? = some (.cells #[.int .i64 t632, .int .i64 t633] 23 (0, 0))) ∧ (w'.heap[s_.2.2.2.2]? = some (.cells #[.int .i64 0, .int .i64 0] 23 (0, 0))) ∧ (w.heap.size ≤ s_.2.2.2.2) ∧ (w.heap.size ≤ s_.2.2.2.2) ∧ (gb629 ≠ s_.2.2.2.2) ∧ (s_.2.2.2.2 ≠ gb629) ∧ (gb635 ≠ s_.2.2.2.2) ∧ (s_.2.2.2.2 ≠ gb635) ∧ (Below w.heap.size w w')) ?_ ?_
              rotate_left
              ·intro hJ0_2_4_5_6_10
               refine join_ (σ := Value × Value × Value × Value) 3 #[true, true, true, true, true, true, true, true, true, true, false, false, false] (fun s_ => [(94, s_.1), (96, s_.2.1), (98, s_.2.2.1), (99, s_.2.2.2), (100, .tuple #[.agg #[.int .i64 t655, .int .i64 t656], .int .i64 t657]), (93, .tuple #[.agg #[.int .i64 t655, .int .i64 t656], .int .i64 t657]), (101, .agg #[.int .i64 t655, .int .i64 t656]), (102, .int .i64 t657)]) (fun s_ w' => (w'.cell? ⟨gb629, 0, none⟩ = some (.int .i64 a1_0) ∧ w'.cell? ⟨gb629, 1, none⟩ = some (.int .i64 a1_1) ∧ w'.cell? ⟨gb629, 2, none⟩ = some (.int .i64 a1_2) ∧ w'.cell? ⟨gb629, 3, none⟩ = some (.int .i64 a1_3) ∧ w'.cell? ⟨gb629, 4, none⟩ = some (.int .i64 a1_4)) ∧ (Kd.R k39 39 w' w.heap.size (fun k_ => some k_ ≠ (s_.2.2.2 : Value).ownBlock ∧ k_ ≠ gb629) s_.2.2.1 y649) ∧ (Kd.R k39 39 w' w.heap.size (fun k_ => some k_ ≠ (s_.2.2.1 : Value).ownBlock ∧ k_ ≠ gb629) s_.2.2.2 y652) ∧ (w'.heap[gb629]? = some (.cells #[.int .i64 a1_0, .int .i64 a1_1, .int .i64 a1_2, .int .i64 a1_3, .int .i64 a1_4] 39 (0, 0))) ∧ (w'.heap[gb635]? = some (.cells #[.int .i64 t632, .int .i64 t633] 23 (0, 0))) ∧ (Below w.heap.size w w')) ?_ ?_
               rotate_left
               ·intro hJ0_2_4_5_6
                refine join_ (σ := Value × Value × Value × Value × Nat) 6 #[true, true, true, true, true, true, false, false, false, false, true, false, false] (fun s_ => [(94, s_.1), (96, s_.2.1), (98, s_.2.2.1), (99, s_.2.2.2.1), (15, .pointer (some ⟨s_.2.2.2.2, 0, none⟩))]) (fun s_ w' => (w'.cell? ⟨gb629, 0, none⟩ = some (.int .i64 a1_0) ∧ w'.cell? ⟨gb629, 1, none⟩ = some (.int .i64 a1_1) ∧ w'.cell? ⟨gb629, 2, none⟩ = some (.int .i64 a1_2) ∧ w'.cell? ⟨gb629, 3, none⟩ = some (.int .i64 a1_3) ∧ w'.cell? ⟨gb629, 4, none⟩ = some (.int .i64 a1_4)) ∧ (Kd.R k39 39 w' w.heap.size (fun k_ => some k_ ≠ (s_.2.2.2.1 : Value).ownBlock ∧ k_ ≠ gb629) s_.2.2.1 y649) ∧ (Kd.R k39 39 w' w.heap.size (fun k_ => some k_ ≠ (s_.2.2.1 : Value).ownBlock ∧ k_ ≠ gb629) s_.2.2.2.1 y652) ∧ (w'.heap[gb629]? = some (.cells #[.int .i64 a1_0, .int .i64 a1_1, .int .i64 a1_2, .int .i64 a1_3, .int .i64 a1_4] 39 (0, 0))) ∧ (w'.heap[gb635]? = some (.cells #[.int .i64 t632, .int .i64 t633] 23 (0, 0))) ∧ (w'.heap[s_.2.2.2.2]? = some (.cells #[.int .i64 0, .int .i64 0] 23 (0, 0))) ∧ (w.heap.size ≤ s_.2.2.2.2) ∧ (w.heap.size ≤ s_.2.2.2.2) ∧ (gb629 ≠ s_.2.2.2.2) ∧ (s_.2.2.2.2 ≠ gb629) ∧ (gb635 ≠ s_.2.2.2.2) ∧ (s_.2.2.2.2 ≠ gb635) ∧ (Below w.heap.size w w')) ?_ ?_
                rotate_left
                ·intro hJ0_2_4_5_10
                 refine join_ (σ := Value × Value × Value × Value) 7 #[true, true, true, true, true, true, false, false, false, false, false, false, false] (fun s_ => [(94, s_.1), (96, s_.2.1), (98, s_.2.2.1), (99, s_.2.2.2)]) (fun s_ w' => (w'.cell? ⟨gb629, 0, none⟩ = some (.int .i64 a1_0) ∧ w'.cell? ⟨gb629, 1, none⟩ = some (.int .i64 a1_1) ∧ w'.cell? ⟨gb629, 2, none⟩ = some (.int .i64 a1_2) ∧ w'.cell? ⟨gb629, 3, none⟩ = some (.int .i64 a1_3) ∧ w'.cell? ⟨gb629, 4, none⟩ = some (.int .i64 a1_4)) ∧ (Kd.R k39 39 w' w.heap.size (fun k_ => some k_ ≠ (s_.2.2.2 : Value).ownBlock ∧ k_ ≠ gb629) s_.2.2.1 y649) ∧ (Kd.R k39 39 w' w.heap.size (fun k_ => some k_ ≠ (s_.2.2.1 : Value).ownBlock ∧ k_ ≠ gb629) s_.2.2.2 y652) ∧ (w'.heap[gb629]? = some (.cells #[.int .i64 a1_0, .int .i64 a1_1, .int .i64 a1_2, .int .i64 a1_3, .int .i64 a1_4] 39 (0, 0))) ∧ (w'.heap[gb635]? = some (.cells #[.int .i64 t632, .int .i64 t633] 23 (0, 0))) ∧ (Below w.heap.size w w')) ?_ ?_
                 rotate_left
                 ·intro hJ0_2_4_5
                  refine join_ (σ := Value × Value × Value × Nat) 7 #[true, true, true, true, true, false, false, false, false, false, true, false, false] (fun s_ => [(94, s_.1), (96, s_.2.1), (98, s_.2.2.1), (15, .pointer (some ⟨s_.2.2.2, 0, none⟩))]) (fun s_ w' => (w'.cell? ⟨gb629, 0, none⟩ = some (.int .i64 a1_0) ∧ w'.cell? ⟨gb629, 1, none⟩ = some (.int .i64 a1_1) ∧ w'.cell? ⟨gb629, 2, none⟩ = some (.int .i64 a1_2) ∧ w'.cell? ⟨gb629, 3, none⟩ = some (.int .i64 a1_3) ∧ w'.cell? ⟨gb629, 4, none⟩ = some (.int .i64 a1_4)) ∧ (Kd.R k39 39 w' w.heap.size (fun k_ => some k_ ≠ (s_.2.2.1 : Value).ownBlock ∧ k_ ≠ gb629) s_.2.1 y646) ∧ (Kd.R k39 39 w' w.heap.size (fun k_ => some k_ ≠ (s_.2.1 : Value).ownBlock ∧ k_ ≠ gb629) s_.2.2.1 y649) ∧ (w'.heap[gb629]? = some (.cells #[.int .i64 a1_0, .int .i64 a1_1, .int .i64 a1_2, .int .i64 a1_3, .int .i64 a1_4] 39 (0, 0))) ∧ (w'.heap[gb635]? = some (.cells #[.int .i64 t632, .int .i64 t633] 23 (0, 0))) ∧ (w'.heap[s_.2.2.2]? = some (.cells #[.int .i64 0, .int .i64 0] 23 (0, 0))) ∧ (w.heap.size ≤ s_.2.2.2) ∧ (w.heap.size ≤ s_.2.2.2) ∧ (gb629 ≠ s_.2.2.2) ∧ (s_.2.2.2 ≠ gb629) ∧ (gb635 ≠ s_.2.2.2) ∧ (s_.2.2.2 ≠ gb635) ∧ (Below w.heap.size w w')) ?_ ?_
                  rotate_left
                  ·intro hJ0_2_4_10
                   refine join_ (σ := Value × Value × Value) 8 #[true, true, true, true, true, false, false, false, false, false, false, false, false] (fun s_ => [(94, s_.1), (96, s_.2.1), (98, s_.2.2)]) (fun s_ w' => (w'.cell? ⟨gb629, 0, none⟩ = some (.int .i64 a1_0) ∧ w'.cell? ⟨gb629, 1, none⟩ = some (.int .i64 a1_1) ∧ w'.cell? ⟨gb629, 2, none⟩ = some (.int .i64 a1_2) ∧ w'.cell? ⟨gb629, 3, none⟩ = some (.int .i64 a1_3) ∧ w'.cell? ⟨gb629, 4, none⟩ = some (.int .i64 a1_4)) ∧ (Kd.R k39 39 w' w.heap.size (fun k_ => some k_ ≠ (s_.2.2 : Value).ownBlock ∧ k_ ≠ gb629) s_.2.1 y646) ∧ (Kd.R k39 39 w' w.heap.size (fun k_ => some k_ ≠ (s_.2.1 : Value).ownBlock ∧ k_ ≠ gb629) s_.2.2 y649) ∧ (w'.heap[gb629]? = some (.cells #[.int .i64 a1_0, .int .i64 a1_1, .int .i64 a1_2, .int .i64 a1_3, .int .i64 a1_4] 39 (0, 0))) ∧ (w'.heap[gb635]? = some (.cells #[.int .i64 t632, .int .i64 t633] 23 (0, 0))) ∧ (Below w.heap.size w w')) ?_ ?_
                   rotate_left
                   ·intro hJ0_2_4
                    refine join_ (σ := Value × Value × Nat) 8 #[true, true, true, true, false, false, false, false, false, false, true, false, false] (fun s_ => [(94, s_.1), (96, s_.2.1), (15, .pointer (some ⟨s_.2.2, 0, none⟩))]) (fun s_ w' => (w'.cell? ⟨gb629, 0, none⟩ = some (.int .i64 a1_0) ∧ w'.cell? ⟨gb629, 1, none⟩ = some (.int .i64 a1_1) ∧ w'.cell? ⟨gb629, 2, none⟩ = some (.int .i64 a1_2) ∧ w'.cell? ⟨gb629, 3, none⟩ = some (.int .i64 a1_3) ∧ w'.cell? ⟨gb629, 4, none⟩ = some (.int .i64 a1_4)) ∧ (Kd.R k39 39 w' w.heap.size (fun k_ => k_ ≠ gb629) s_.2.1 y646) ∧ (w'.heap[gb629]? = some (.cells #[.int .i64 a1_0, .int .i64 a1_1, .int .i64 a1_2, .int .i64 a1_3, .int .i64 a1_4] 39 (0, 0))) ∧ (w'.heap[gb635]? = some (.cells #[.int .i64 t632, .int .i64 t633] 23 (0, 0))) ∧ (w'.heap[s_.2.2]? = some (.cells #[.int .i64 0, .int .i64 0] 23 (0, 0))) ∧ (w.heap.size ≤ s_.2.2) ∧ (w.heap.size ≤ s_.2.2) ∧ (gb629 ≠ s_.2.2) ∧ (s_.2.2 ≠ gb629) ∧ (gb635 ≠ s_.2.2) ∧ (s_.2.2 ≠ gb635) ∧ (Below w.heap.size w w')) ?_ ?_
                    rotate_left
                    ·intro hJ0_2_10
                     refine join_ (σ := Value × Value × Nat) 8 #[true, true, false, true, true, false, false, false, false, false, true, false, false] (fun s_ => [(94, s_.1), (98, s_.2.1), (15, .pointer (some ⟨s_.2.2, 0, none⟩))]) (fun s_ w' => (w'.cell? ⟨gb629, 0, none⟩ = some (.int .i64 a1_0) ∧ w'.cell? ⟨gb629, 1, none⟩ = some (.int .i64 a1_1) ∧ w'.cell? ⟨gb629, 2, none⟩ = some (.int .i64 a1_2) ∧ w'.cell? ⟨gb629, 3, none⟩ = some (.int .i64 a1_3) ∧ w'.cell? ⟨gb629, 4, none⟩ = some (.int .i64 a1_4)) ∧ (Kd.R k39 39 w' w.heap.size (fun k_ => some k_ ≠ (s_.2.1 : Value).ownBlock ∧ k_ ≠ gb629) s_.1 y643) ∧ (Kd.R k39 39 w' w.heap.size (fun k_ => some k_ ≠ (s_.1 : Value).ownBlock ∧ k_ ≠ gb629) s_.2.1 y649) ∧ (w'.heap[gb629]? = some (.cells #[.int .i64 a1_0, .int .i64 a1_1, .int .i64 a1_2, .int .i64 a1_3, .int .i64 a1_4] 39 (0, 0))) ∧ (w'.heap[gb635]? = some (.cells #[.int .i64 t632, .int .i64 t633] 23 (0, 0))) ∧ (w'.heap[s_.2.2]? = some (.cells #[.int .i64 0, .int .i64 0] 23 (0, 0))) ∧ (w.heap.size ≤ s_.2.2) ∧ (w.heap.size ≤ s_.2.2) ∧ (gb629 ≠ s_.2.2) ∧ (s_.2.2 ≠ gb629) ∧ (gb635 ≠ s_.2.2) ∧ (s_.2.2 ≠ gb635) ∧ (Below w.heap.size w w')) ?_ ?_
                     rotate_left
                     ·intro hJ0_4_10
                      refine join_ (σ := Value × Value) 9 #[true, true, true, true, false, false, false, false, false, false, false, false, false] (fun s_ => [(94, s_.1), (96, s_.2)]) (fun s_ w' => (w'.cell? ⟨gb629, 0, none⟩ = some (.int .i64 a1_0) ∧ w'.cell? ⟨gb629, 1, none⟩ = some (.int .i64 a1_1) ∧ w'.cell? ⟨gb629, 2, none⟩ = some (.int .i64 a1_2) ∧ w'.cell? ⟨gb629, 3, none⟩ = some (.int .i64 a1_3) ∧ w'.cell? ⟨gb629, 4, none⟩ = some (.int .i64 a1_4)) ∧ (Kd.R k39 39 w' w.heap.size (fun k_ => k_ ≠ gb629) s_.2 y646) ∧ (w'.heap[gb629]? = some (.cells #[.int .i64 a1_0, .int .i64 a1_1, .int .i64 a1_2, .int .i64 a1_3, .int .i64 a1_4] 39 (0, 0))) ∧ (w'.heap[gb635]? = some (.cells #[.int .i64 t632, .int .i64 t633] 23 (0, 0))) ∧ (Below w.heap.size w w')) ?_ ?_
                      rotate_left
                      ·intro hJ0_2
                       refine join_ (σ := Value × Value) 9 #[true, true, false, true, true, false, false, false, false, false, false, false, false] (fun s_ => [(94, s_.1), (98, s_.2)]) (fun s_ w' => (w'.cell? ⟨gb629, 0, none⟩ = some (.int .i64 a1_0) ∧ w'.cell? ⟨gb629, 1, none⟩ = some (.int .i64 a1_1) ∧ w'.cell? ⟨gb629, 2, none⟩ = some (.int .i64 a1_2) ∧ w'.cell? ⟨gb629, 3, none⟩ = some (.int .i64 a1_3) ∧ w'.cell? ⟨gb629, 4, none⟩ = some (.int .i64 a1_4)) ∧ (Kd.R k39 39 w' w.heap.size (fun k_ => some k_ ≠ (s_.2 : Value).ownBlock ∧ k_ ≠ gb629) s_.1 y643) ∧ (Kd.R k39 39 w' w.heap.size (fun k_ => some k_ ≠ (s_.1 : Value).ownBlock ∧ k_ ≠ gb629) s_.2 y649) ∧ (w'.heap[gb629]? = some (.cells #[.int .i64 a1_0, .int .i64 a1_1, .int .i64 a1_2, .int .i64 a1_3, .int .i64 a1_4] 39 (0, 0))) ∧ (w'.heap[gb635]? = some (.cells #[.int .i64 t632, .int .i64 t633] 23 (0, 0))) ∧ (Below w.heap.size w w')) ?_ ?_
                       rotate_left
                       ·intro hJ0_4
                        refine join_ (σ := Value × Nat) 9 #[true, true, false, true, false, false, false, false, false, false, true, false, false] (fun s_ => [(94, s_.1), (15, .pointer (some ⟨s_.2, 0, none⟩))]) (fun s_ w' => (w'.cell? ⟨gb629, 0, none⟩ = some (.int .i64 a1_0) ∧ w'.cell? ⟨gb629, 1, none⟩ = some (.int .i64 a1_1) ∧ w'.cell? ⟨gb629, 2, none⟩ = some (.int .i64 a1_2) ∧ w'.cell? ⟨gb629, 3, none⟩ = some (.int .i64 a1_3) ∧ w'.cell? ⟨gb629, 4, none⟩ = some (.int .i64 a1_4)) ∧ (Kd.R k39 39 w' w.heap.size (fun k_ => k_ ≠ gb629) s_.1 y643) ∧ (w'.heap[gb629]? = some (.cells #[.int .i64 a1_0, .int .i64 a1_1, .int .i64 a1_2, .int .i64 a1_3, .int .i64 a1_4] 39 (0, 0))) ∧ (w'.heap[gb635]? = some (.cells #[.int .i64 t632, .int .i64 t633] 23 (0, 0))) ∧ (w'.heap[s_.2]? = some (.cells #[.int .i64 0, .int .i64 0] 23 (0, 0))) ∧ (w.heap.size ≤ s_.2) ∧ (w.heap.size ≤ s_.2) ∧ (gb629 ≠ s_.2) ∧ (s_.2 ≠ gb629) ∧ (gb635 ≠ s_.2) ∧ (s_.2 ≠ gb635) ∧ (Below w.heap.size w w')) ?_ ?_
                        rotate_left
                        ·intro hJ0_10
                         refine join_ (σ := Value × Nat) 9 #[false, true, false, true, true, false, false, false, false, false, true, false, false] (fun s_ => [(98, s_.1), (15, .pointer (some ⟨s_.2, 0, none⟩))]) (fun s_ w' => (w'.cell? ⟨gb629, 0, none⟩ = some (.int .i64 a1_0) ∧ w'.cell? ⟨gb629, 1, none⟩ = some (.int .i64 a1_1) ∧ w'.cell? ⟨gb629, 2, none⟩ = some (.int .i64 a1_2) ∧ w'.cell? ⟨gb629, 3, none⟩ = some (.int .i64 a1_3) ∧ w'.cell? ⟨gb629, 4, none⟩ = some (.int .i64 a1_4)) ∧ (Kd.R k39 39 w' w.heap.size (fun k_ => k_ ≠ gb629) s_.1 y649) ∧ (w'.heap[gb629]? = some (.cells #[.int .i64 a1_0, .int .i64 a1_1, .int .i64 a1_2, .int .i64 a1_3, .int .i64 a1_4] 39 (0, 0))) ∧ (w'.heap[gb635]? = some (.cells #[.int .i64 t632, .int .i64 t633] 23 (0, 0))) ∧ (w'.heap[s_.2]? = some (.cells #[.int .i64 0, .int .i64 0] 23 (0, 0))) ∧ (w.heap.size ≤ s_.2) ∧ (w.heap.size ≤ s_.2) ∧ (gb629 ≠ s_.2) ∧ (s_.2 ≠ gb629) ∧ (gb635 ≠ s_.2) ∧ (s_.2 ≠ gb635) ∧ (Below w.heap.size w w')) ?_ ?_
                         rotate_left
                         ·intro hJ4_10
                          refine join_ (σ := Value) 10 #[true, true, false, true, false, false, false, false, false, false, false, false, false] (fun s_ => [(94, s_)]) (fun s_ w' => (w'.cell? ⟨gb629, 0, none⟩ = some (.int .i64 a1_0) ∧ w'.cell? ⟨gb629, 1, none⟩ = some (.int .i64 a1_1) ∧ w'.cell? ⟨gb629, 2, none⟩ = some (.int .i64 a1_2) ∧ w'.cell? ⟨gb629, 3, none⟩ = some (.int .i64 a1_3) ∧ w'.cell? ⟨gb629, 4, none⟩ = some (.int .i64 a1_4)) ∧ (Kd.R k39 39 w' w.heap.size (fun k_ => k_ ≠ gb629) s_ y643) ∧ (w'.heap[gb629]? = some (.cells #[.int .i64 a1_0, .int .i64 a1_1, .int .i64 a1_2, .int .i64 a1_3, .int .i64 a1_4] 39 (0, 0))) ∧ (w'.heap[gb635]? = some (.cells #[.int .i64 t632, .int .i64 t633] 23 (0, 0))) ∧ (Below w.heap.size w w')) ?_ ?_
                          rotate_left
                          ·intro hJ0
                           refine join_ (σ := Value) 10 #[false, true, false, true, true, false, false, false, false, false, false, false, false] (fun s_ => [(98, s_)]) (fun s_ w' => (w'.cell? ⟨gb629, 0, none⟩ = some (.int .i64 a1_0) ∧ w'.cell? ⟨gb629, 1, none⟩ = some (.int .i64 a1_1) ∧ w'.cell? ⟨gb629, 2, none⟩ = some (.int .i64 a1_2) ∧ w'.cell? ⟨gb629, 3, none⟩ = some (.int .i64 a1_3) ∧ w'.cell? ⟨gb629, 4, none⟩ = some (.int .i64 a1_4)) ∧ (Kd.R k39 39 w' w.heap.size (fun k_ => k_ ≠ gb629) s_ y649) ∧ (w'.heap[gb629]? = some (.cells #[.int .i64 a1_0, .int .i64 a1_1, .int .i64 a1_2, .int .i64 a1_3, .int .i64 a1_4] 39 (0, 0))) ∧ (w'.heap[gb635]? = some (.cells #[.int .i64 t632, .int .i64 t633] 23 (0, 0))) ∧ (Below w.heap.size w w')) ?_ ?_
                           rotate_left
                           ·intro hJ4
                            refine join_ (σ := Nat) 10 #[false, true, false, true, false, false, false, false, false, false, true, false, false] (fun s_ => [(15, .pointer (some ⟨s_, 0, none⟩))]) (fun s_ w' => (w'.cell? ⟨gb629, 0, none⟩ = some (.int .i64 a1_0) ∧ w'.cell? ⟨gb629, 1, none⟩ = some (.int .i64 a1_1) ∧ w'.cell? ⟨gb629, 2, none⟩ = some (.int .i64 a1_2) ∧ w'.cell? ⟨gb629, 3, none⟩ = some (.int .i64 a1_3) ∧ w'.cell? ⟨gb629, 4, none⟩ = some (.int .i64 a1_4)) ∧ (w'.heap[gb629]? = some (.cells #[.int .i64 a1_0, .int .i64 a1_1, .int .i64 a1_2, .int .i64 a1_3, .int .i64 a1_4] 39 (0, 0))) ∧ (w'.heap[gb635]? = some (.cells #[.int .i64 t632, .int .i64 t633] 23 (0, 0))) ∧ (w'.heap[s_]? = some (.cells #[.int .i64 0, .int .i64 0] 23 (0, 0))) ∧ (w.heap.size ≤ s_) ∧ (w.heap.size ≤ s_) ∧ (gb629 ≠ s_) ∧ (s_ ≠ gb629) ∧ (gb635 ≠ s_) ∧ (s_ ≠ gb635) ∧ (Below w.heap.size w w')) ?_ ?_
                            rotate_left
                            ·intro hJ10
                             refine three_ (i := 0) (j := 4) (k := 10) (Ni := some 94) (Nj := some 98) (Nk := some 15) #[true, true, false, true, false, false, false, false, false, false, false, false, false] #[false, true, false, true, true, false, false, false, false, false, false, false, false] #[false, true, false, true, false, false, false, false, false, false, true, false, false] rfl rfl rfl rfl rfl rfl (three_of HT_.out (by kernel_rfl)) (by decide) (by decide) (by decide) (fun K hK => ?_) (fun K hK => ?_) (fun K hK => ?_)
                             ·skip
                              refine Kd.R_lit_step k39 _ 39 ?hg (N := 94) ?hd (xs := ([] : List (S39))) (inner := []) (ok := fun _ => True) (okp := fun _ => True) ?hr ?hp (fun _ hk => hk) trivial (Below.refl _ _) (Nat.le_refl _) (by simp) ?_; (case hd => rfl); (case hg => rfl); (case hr => first | (go_simp; done) | (go_simp; rfl)); (case hp => exact (Reps.none _ _))
                              intro v644 w40 ho41 hb hg_ hnew_
                              clear hg_ hnew_
                              (first | rw [← Ny643.out] at ho41 | (simp only [Int.reduceToNat] at ho41; rw [← Ny643.out] at ho41))
                              have n0_ := Aside0.mk (Kd.R_lower (Kd.R_newB ho41 (g := gb629) (o := .cells #[.int .i64 a1_0, .int .i64 a1_1, .int .i64 a1_2, .int .i64 a1_3, .int .i64 a1_4] 39 (0, 0)) (by (with_reducible repeat (first | refine blk_drewN ?_ _ | refine blk_drew ?_ | refine blk_alloc ?_ _)); exact BK629.out)) (below_size (by repeat (first | (with_reducible first | exact HB.out | apply below_alloc | apply pw_below_drewN | apply below_drew1 | refine below_set ?_ GE629.out | refine below_set ?_ GE635.out) | exact HB.out))))
                              have n1_ := Aside0.mk (blk_below (g := gb629) (o := .cells #[.int .i64 a1_0, .int .i64 a1_1, .int .i64 a1_2, .int .i64 a1_3, .int .i64 a1_4] 39 (0, 0)) (by (with_reducible repeat (first | refine blk_drewN ?_ _ | refine blk_drew ?_ | refine blk_alloc ?_ _)); exact BK629.out) hb)
                              have n2_ := Aside0.mk (blk_below (g := gb635) (o := .cells #[.int .i64 t632, .int .i64 t633] 23 (0, 0)) (by (with_reducible repeat (first | refine blk_drewN ?_ _ | refine blk_drew ?_ | refine blk_alloc ?_ _)); exact BK635.out) hb)
                              have n3_ := Aside0.mk (below_step (by repeat (first | (with_reducible first | exact HB.out | apply below_alloc | apply pw_below_drewN | apply below_drew1 | refine below_set ?_ GE629.out | refine below_set ?_ GE635.out) | exact HB.out)) hb)
                              clear BK629
                              clear BK635
                              clear HB
                              have HO645 := n0_
                              have BK629 := n1_
                              have BK635 := n2_
                              have HB := n3_
                              clear n0_ n1_ n2_ n3_
                              clear hb ho41
                              refine hK.out _ _ ⟨(blk_cell BK629.out 0).trans rfl, (blk_cell BK629.out 1).trans rfl, (blk_cell BK629.out 2).trans rfl, (blk_cell BK629.out 3).trans rfl, (blk_cell BK629.out 4).trans rfl⟩ (fun hHeld => ?_)
                              clear hK K
                              refine norm_ (a' := ?_) ?_ ?_
                              rotate_left
                              ·show Act.put _ (some 94) _ = _
                               simp only [Act.put, List.setIfInBounds_toArray, List.set_cons_zero, List.set_cons_succ, i64_w, i32_w]
                               rfl
                              exact norm_ (by first | (simp only [putAll, Act.put, List.setIfInBounds_toArray, List.set_cons_zero, List.set_cons_succ]; done) | (simp only [putAll, Act.put, List.setIfInBounds_toArray, List.set_cons_zero, List.set_cons_succ]; rfl)) (hJ0 (v644) _ ⟨hHeld, (by (with_reducible repeat (first | apply Kd.R_alloc | apply Kd.R_drewN | apply Kd.R_drew)); exact Kd.R_mono HO645.out (fun _ hk => hk.2)), (by (with_reducible repeat (first | refine blk_drewN ?_ _ | refine blk_drew ?_ | refine blk_alloc ?_ _)); exact BK629.out), (by (with_reducible repeat (first | refine blk_drewN ?_ _ | refine blk_drew ?_ | refine blk_alloc ?_ _)); exact BK635.out), (by repeat (first | (with_reducible first | exact HB.out | apply below_alloc | apply pw_below_drewN | apply below_drew1 | refine below_set ?_ GE629.out | refine below_set ?_ GE635.out) | exact HB.out))⟩)
                             ·skip
                              refine Kd.R_lit_step k39 _ 39 ?hg (N := 98) ?hd (xs := ([(⟨a1_0, a1_1, a1_2, a1_3, a1_4⟩ : S39)] : List (S39))) (inner := [.int .i64 a1_0, .int .i64 a1_1, .int .i64 a1_2, .int .i64 a1_3, .int .i64 a1_4]) (ok := fun _ => True) (okp := fun _ => True) ?hr ?hp (fun _ hk => hk) trivial (Below.refl _ _) (Nat.le_refl _) (by simp) ?_; (case hd => rfl); (case hg => rfl); (case hr => first | (go_simp; done) | (go_simp; rfl)); (case hp => exact (Reps.c5 (show Kd.M k39 _ _ _ (⟨a1_0, a1_1, a1_2, a1_3, a1_4⟩ : S39) [.int .i64 a1_0, .int .i64 a1_1, .int .i64 a1_2, .int .i64 a1_3, .int .i64 a1_4] from (k39_mkM _ _ _ (⟨a1_0, a1_1, a1_2, a1_3, a1_4⟩ : S39) )) (Reps.none _ _)))
                              intro v650 w40 ho41 hb hg_ hnew_
                              clear hg_ hnew_
                              (first | rw [← Ny649.out] at ho41 | (simp only [Int.reduceToNat] at ho41; rw [← Ny649.out] at ho41))
                              have n0_ := Aside0.mk (Kd.R_lower (Kd.R_newB ho41 (g := gb629) (o := .cells #[.int .i64 a1_0, .int .i64 a1_1, .int .i64 a1_2, .int .i64 a1_3, .int .i64 a1_4] 39 (0, 0)) (by (with_reducible repeat (first | refine blk_drewN ?_ _ | refine blk_drew ?_ | refine blk_alloc ?_ _)); exact BK629.out)) (below_size (by repeat (first | (with_reducible first | exact HB.out | apply below_alloc | apply pw_below_drewN | apply below_drew1 | refine below_set ?_ GE629.out | refine below_set ?_ GE635.out) | exact HB.out))))
                              have n1_ := Aside0.mk (blk_below (g := gb629) (o := .cells #[.int .i64 a1_0, .int .i64 a1_1, .int .i64 a1_2, .int .i64 a1_3, .int .i64 a1_4] 39 (0, 0)) (by (with_reducible repeat (first | refine blk_drewN ?_ _ | refine blk_drew ?_ | refine blk_alloc ?_ _)); exact BK629.out) hb)
                              have n2_ := Aside0.mk (blk_below (g := gb635) (o := .cells #[.int .i64 t632, .int .i64 t633] 23 (0, 0)) (by (with_reducible repeat (first | refine blk_drewN ?_ _ | refine blk_drew ?_ | refine blk_alloc ?_ _)); exact BK635.out) hb)
                              have n3_ := Aside0.mk (below_step (by repeat (first | (with_reducible first | exact HB.out | apply below_alloc | apply pw_below_drewN | apply below_drew1 | refine below_set ?_ GE629.out | refine below_set ?_ GE635.out) | exact HB.out)) hb)
                              clear BK629
                              clear BK635
                              clear HB
                              have HO651 := n0_
                              have BK629 := n1_
                              have BK635 := n2_
                              have HB := n3_
                              clear n0_ n1_ n2_ n3_
                              clear hb ho41
                              refine hK.out _ _ ⟨(blk_cell BK629.out 0).trans rfl, (blk_cell BK629.out 1).trans rfl, (blk_cell BK629.out 2).trans rfl, (blk_cell BK629.out 3).trans rfl, (blk_cell BK629.out 4).trans rfl⟩ (fun hHeld => ?_)
                              clear hK K
                              refine norm_ (a' := ?_) ?_ ?_
                              rotate_left
                              ·show Act.put _ (some 98) _ = _
                               simp only [Act.put, List.setIfInBounds_toArray, List.set_cons_zero, List.set_cons_succ, i64_w, i32_w]
                               rfl
                              exact norm_ (by first | (simp only [putAll, Act.put, List.setIfInBounds_toArray, List.set_cons_zero, List.set_cons_succ]; done) | (simp only [putAll, Act.put, List.setIfInBounds_toArray, List.set_cons_zero, List.set_cons_succ]; rfl)) (hJ4 (v650) _ ⟨hHeld, (by (with_reducible repeat (first | apply Kd.R_alloc | apply Kd.R_drewN | apply Kd.R_drew)); exact Kd.R_mono HO651.out (fun _ hk => hk.2)), (by (with_reducible repeat (first | refine blk_drewN ?_ _ | refine blk_drew ?_ | refine blk_alloc ?_ _)); exact BK629.out), (by (with_reducible repeat (first | refine blk_drewN ?_ _ | refine blk_drew ?_ | refine blk_alloc ?_ _)); exact BK635.out), (by repeat (first | (with_reducible first | exact HB.out | apply below_alloc | apply pw_below_drewN | apply below_drew1 | refine below_set ?_ GE629.out | refine below_set ?_ GE635.out) | exact HB.out))⟩)
                             ·skip
                              refine box_step ?hg (N := 15) ?hd (cs := #[.int .i64 0, .int .i64 0]) (t := 23) ?hr ?_; (case hd => rfl); (case hg => rfl); (case hr => first | (go_simp; done) | (go_simp; rfl))
                              intro gb658 hg w40 hbox hb
                              have n0_ := Aside0.mk (blk_below (g := gb629) (o := .cells #[.int .i64 a1_0, .int .i64 a1_1, .int .i64 a1_2, .int .i64 a1_3, .int .i64 a1_4] 39 (0, 0)) (by (with_reducible repeat (first | refine blk_drewN ?_ _ | refine blk_drew ?_ | refine blk_alloc ?_ _)); exact BK629.out) hb)
                              have n1_ := Aside0.mk (blk_below (g := gb635) (o := .cells #[.int .i64 t632, .int .i64 t633] 23 (0, 0)) (by (with_reducible repeat (first | refine blk_drewN ?_ _ | refine blk_drew ?_ | refine blk_alloc ?_ _)); exact BK635.out) hb)
                              have n2_ := Aside0.mk (below_step (by repeat (first | (with_reducible first | exact HB.out | apply below_alloc | apply pw_below_drewN | apply below_drew1 | refine below_set ?_ GE629.out | refine below_set ?_ GE635.out) | exact HB.out)) hb)
                              have n3_ := Aside0.mk (hbox)
                              have n4_ := Aside0.mk ((by rw [hg]; exact (below_size (by repeat (first | (with_reducible first | exact HB.out | apply below_alloc | apply pw_below_drewN | apply below_drew1 | refine below_set ?_ GE629.out | refine below_set ?_ GE635.out) | exact HB.out))) : w.heap.size ≤ gb658))
                              have n5_ := Aside0.mk ((by rw [hg]; exact (below_size (by repeat (first | (with_reducible first | exact HB.out | apply below_alloc | apply pw_below_drewN | apply below_drew1 | refine below_set ?_ GE629.out | refine below_set ?_ GE635.out) | exact HB.out))) : w.heap.size ≤ gb658))
                              have n6_ := Aside0.mk ((by rw [hg]; exact Nat.ne_of_lt (blk_lt (g := gb629) (o := .cells #[.int .i64 a1_0, .int .i64 a1_1, .int .i64 a1_2, .int .i64 a1_3, .int .i64 a1_4] 39 (0, 0)) (by (with_reducible repeat (first | refine blk_drewN ?_ _ | refine blk_drew ?_ | refine blk_alloc ?_ _)); exact BK629.out)) : gb629 ≠ gb658))
                              have n7_ := Aside0.mk ((by rw [hg]; exact Nat.ne_of_gt (blk_lt (g := gb629) (o := .cells #[.int .i64 a1_0, .int .i64 a1_1, .int .i64 a1_2, .int .i64 a1_3, .int .i64 a1_4] 39 (0, 0)) (by (with_reducible repeat (first | refine blk_drewN ?_ _ | refine blk_drew ?_ | refine blk_alloc ?_ _)); exact BK629.out)) : gb658 ≠ gb629))
                              have n8_ := Aside0.mk ((by rw [hg]; exact Nat.ne_of_lt (blk_lt (g := gb635) (o := .cells #[.int .i64 t632, .int .i64 t633] 23 (0, 0)) (by (with_reducible repeat (first | refine blk_drewN ?_ _ | refine blk_drew ?_ | refine blk_alloc ?_ _)); exact BK635.out)) : gb635 ≠ gb658))
                              have n9_ := Aside0.mk ((by rw [hg]; exact Nat.ne_of_gt (blk_lt (g := gb635) (o := .cells #[.int .i64 t632, .int .i64 t633] 23 (0, 0)) (by (with_reducible repeat (first | refine blk_drewN ?_ _ | refine blk_drew ?_ | refine blk_alloc ?_ _)); exact BK635.out)) : gb658 ≠ gb635))
                              clear BK629
                              clear BK635
                              clear HB
                              have BK629 := n0_
                              have BK635 := n1_
                              have HB := n2_
                              have BK658 := n3_
                              have GW658 := n4_
                              have GE658 := n5_
                              have NB629_658 := n6_
                              have NB658_629 := n7_
                              have NB635_658 := n8_
                              have NB658_635 := n9_
                              clear n0_ n1_ n2_ n3_ n4_ n5_ n6_ n7_ n8_ n9_
                              clear hb hbox hg
                              refine hK.out _ _ ⟨(blk_cell BK629.out 0).trans rfl, (blk_cell BK629.out 1).trans rfl, (blk_cell BK629.out 2).trans rfl, (blk_cell BK629.out 3).trans rfl, (blk_cell BK629.out 4).trans rfl⟩ (fun hHeld => ?_)
                              clear hK K
                              refine norm_ (a' := ?_) ?_ ?_
                              rotate_left
                              ·show Act.put _ (some 15) _ = _
                               simp only [Act.put, List.setIfInBounds_toArray, List.set_cons_zero, List.set_cons_succ, i64_w, i32_w]
                               rfl
                              exact norm_ (by first | (simp only [putAll, Act.put, List.setIfInBounds_toArray, List.set_cons_zero, List.set_cons_succ]; done) | (simp only [putAll, Act.put, List.setIfInBounds_toArray, List.set_cons_zero, List.set_cons_succ]; rfl)) (hJ10 (gb658) _ ⟨hHeld, (by (with_reducible repeat (first | refine blk_drewN ?_ _ | refine blk_drew ?_ | refine blk_alloc ?_ _)); exact BK629.out), (by (with_reducible repeat (first | refine blk_drewN ?_ _ | refine blk_drew ?_ | refine blk_alloc ?_ _)); exact BK635.out), (by (with_reducible repeat (first | refine blk_drewN ?_ _ | refine blk_drew ?_ | refine blk_alloc ?_ _)); exact BK658.out), GW658.out, GE658.out, NB629_658.out, NB658_629.out, NB635_658.out, NB658_635.out, (by repeat (first | (with_reducible first | exact HB.out | apply below_alloc | apply pw_below_drewN | apply below_drew1 | refine below_set ?_ GE629.out | refine below_set ?_ GE635.out | refine below_set ?_ GE658.out) | exact HB.out))⟩)
                            ·skip
                             rintro gb658 w41 ⟨hS_, h0_, h1_, h2_, h3_, h4_, h5_, h6_, h7_, h8_, h9_⟩
                             have n0_ : Aside0 (w41.heap[gb629]? = some (.cells #[.int .i64 a1_0, .int .i64 a1_1, .int .i64 a1_2, .int .i64 a1_3, .int .i64 a1_4] 39 (0, 0))) := ⟨h0_⟩
                             have n1_ : Aside0 (w41.heap[gb635]? = some (.cells #[.int .i64 t632, .int .i64 t633] 23 (0, 0))) := ⟨h1_⟩
                             have n2_ : Aside0 (w41.heap[gb658]? = some (.cells #[.int .i64 0, .int .i64 0] 23 (0, 0))) := ⟨h2_⟩
                             have n3_ : Aside0 (w.heap.size ≤ gb658) := ⟨h3_⟩
                             have n4_ : Aside0 (w.heap.size ≤ gb658) := ⟨h4_⟩
                             have n5_ : Aside0 (gb629 ≠ gb658) := ⟨h5_⟩
                             have n6_ : Aside0 (gb658 ≠ gb629) := ⟨h6_⟩
                             have n7_ : Aside0 (gb635 ≠ gb658) := ⟨h7_⟩
                             have n8_ : Aside0 (gb658 ≠ gb635) := ⟨h8_⟩
                             have n9_ : Aside0 (Below w.heap.size w w41) := ⟨h9_⟩
                             clear BK629
                             clear BK635
                             clear HB
                             clear h0_ h1_ h2_ h3_ h4_ h5_ h6_ h7_ h8_ h9_
                             have BK629 := n0_
                             have BK635 := n1_
                             have BK658 := n2_
                             have GW658 := n3_
                             have GE658 := n4_
                             have NB629_658 := n5_
                             have NB658_629 := n6_
                             have NB635_658 := n7_
                             have NB658_635 := n8_
                             have HB := n9_
                             clear n0_ n1_ n2_ n3_ n4_ n5_ n6_ n7_ n8_ n9_
                             have hHeld : w41.cell? ⟨gb629, 0, none⟩ = some (.int .i64 a1_0) ∧ w41.cell? ⟨gb629, 1, none⟩ = some (.int .i64 a1_1) ∧ w41.cell? ⟨gb629, 2, none⟩ = some (.int .i64 a1_2) ∧ w41.cell? ⟨gb629, 3, none⟩ = some (.int .i64 a1_3) ∧ w41.cell? ⟨gb629, 4, none⟩ = some (.int .i64 a1_4) := hS_
                             refine norm_ (a' := ?_) ?_ ?_
                             rotate_left
                             ·simp only [putAll, Act.put, List.setIfInBounds_toArray, List.set_cons_zero, List.set_cons_succ]
                              rfl
                             refine two_ (i := 0) (j := 4) (Ni := some 94) (Nj := some 98) #[true, true, false, true, false, false, false, false, false, false, true, false, false] #[false, true, false, true, true, false, false, false, false, false, true, false, false] rfl rfl rfl rfl (two_of HT_.out (by kernel_rfl)) (by decide) (by decide) (fun K hK => ?_) (fun K hK => ?_)
                             ·skip
                              refine Kd.R_lit_step k39 _ 39 ?hg (N := 94) ?hd (xs := ([] : List (S39))) (inner := []) (ok := fun _ => True) (okp := fun _ => True) ?hr ?hp (fun _ hk => hk) trivial (Below.refl _ _) (Nat.le_refl _) (by simp) ?_; (case hd => rfl); (case hg => rfl); (case hr => first | (go_simp; done) | (go_simp; rfl)); (case hp => exact (Reps.none _ _))
                              intro v644 w42 ho43 hb hg_ hnew_
                              clear hg_ hnew_
                              (first | rw [← Ny643.out] at ho43 | (simp only [Int.reduceToNat] at ho43; rw [← Ny643.out] at ho43))
                              have n0_ := Aside0.mk (Kd.R_lower (Kd.R_newB ho43 (g := gb629) (o := .cells #[.int .i64 a1_0, .int .i64 a1_1, .int .i64 a1_2, .int .i64 a1_3, .int .i64 a1_4] 39 (0, 0)) (by (with_reducible repeat (first | refine blk_drewN ?_ _ | refine blk_drew ?_ | refine blk_alloc ?_ _)); exact BK629.out)) (below_size (by repeat (first | (with_reducible first | exact HB.out | apply below_alloc | apply pw_below_drewN | apply below_drew1 | refine below_set ?_ GE629.out | refine below_set ?_ GE635.out | refine below_set ?_ GE658.out) | exact HB.out))))
                              have n1_ := Aside0.mk (blk_below (g := gb629) (o := .cells #[.int .i64 a1_0, .int .i64 a1_1, .int .i64 a1_2, .int .i64 a1_3, .int .i64 a1_4] 39 (0, 0)) (by (with_reducible repeat (first | refine blk_drewN ?_ _ | refine blk_drew ?_ | refine blk_alloc ?_ _)); exact BK629.out) hb)
                              have n2_ := Aside0.mk (blk_below (g := gb635) (o := .cells #[.int .i64 t632, .int .i64 t633] 23 (0, 0)) (by (with_reducible repeat (first | refine blk_drewN ?_ _ | refine blk_drew ?_ | refine blk_alloc ?_ _)); exact BK635.out) hb)
                              have n3_ := Aside0.mk (blk_below (g := gb658) (o := .cells #[.int .i64 0, .int .i64 0] 23 (0, 0)) (by (with_reducible repeat (first | refine blk_drewN ?_ _ | refine blk_drew ?_ | refine blk_alloc ?_ _)); exact BK658.out) hb)
                              have n4_ := Aside0.mk (below_step (by repeat (first | (with_reducible first | exact HB.out | apply below_alloc | apply pw_below_drewN | apply below_drew1 | refine below_set ?_ GE629.out | refine below_set ?_ GE635.out | refine below_set ?_ GE658.out) | exact HB.out)) hb)
                              clear BK629
                              clear BK635
                              clear BK658
                              clear HB
                              have HO645 := n0_
                              have BK629 := n1_
                              have BK635 := n2_
                              have BK658 := n3_
                              have HB := n4_
                              clear n0_ n1_ n2_ n3_ n4_
                              clear hb ho43
                              refine hK.out _ _ ⟨(blk_cell BK629.out 0).trans rfl, (blk_cell BK629.out 1).trans rfl, (blk_cell BK629.out 2).trans rfl, (blk_cell BK629.out 3).trans rfl, (blk_cell BK629.out 4).trans rfl⟩ (fun hHeld => ?_)
                              clear hK K
                              refine norm_ (a' := ?_) ?_ ?_
                              rotate_left
                              ·show Act.put _ (some 94) _ = _
                               simp only [Act.put, List.setIfInBounds_toArray, List.set_cons_zero, List.set_cons_succ, i64_w, i32_w]
                               rfl
                              exact norm_ (by first | (simp only [putAll, Act.put, List.setIfInBounds_toArray, List.set_cons_zero, List.set_cons_succ]; done) | (simp only [putAll, Act.put, List.setIfInBounds_toArray, List.set_cons_zero, List.set_cons_succ]; rfl)) (hJ0_10 (v644, gb658) _ ⟨hHeld, (by (with_reducible repeat (first | apply Kd.R_alloc | apply Kd.R_drewN | apply Kd.R_drew)); exact Kd.R_mono HO645.out (fun _ hk => hk.2)), (by (with_reducible repeat (first | refine blk_drewN ?_ _ | refine blk_drew ?_ | refine blk_alloc ?_ _)); exact BK629.out), (by (with_reducible repeat (first | refine blk_drewN ?_ _ | refine blk_drew ?_ | refine blk_alloc ?_ _)); exact BK635.out), (by (with_reducible repeat (first | refine blk_drewN ?_ _ | refine blk_drew ?_ | refine blk_alloc ?_ _)); exact BK658.out), GW658.out, GE658.out, NB629_658.out, NB658_629.out, NB635_658.out, NB658_635.out, (by repeat (first | (with_reducible first | exact HB.out | apply below_alloc | apply pw_below_drewN | apply below_drew1 | refine below_set ?_ GE629.out | refine below_set ?_ GE635.out | refine below_set ?_ GE658.out) | exact HB.out))⟩)
                             ·skip
                              refine Kd.R_lit_step k39 _ 39 ?hg (N := 98) ?hd (xs := ([(⟨a1_0, a1_1, a1_2, a1_3, a1_4⟩ : S39)] : List (S39))) (inner := [.int .i64 a1_0, .int .i64 a1_1, .int .i64 a1_2, .int .i64 a1_3, .int .i64 a1_4]) (ok := fun _ => True) (okp := fun _ => True) ?hr ?hp (fun _ hk => hk) trivial (Below.refl _ _) (Nat.le_refl _) (by simp) ?_; (case hd => rfl); (case hg => rfl); (case hr => first | (go_simp; done) | (go_simp; rfl)); (case hp => exact (Reps.c5 (show Kd.M k39 _ _ _ (⟨a1_0, a1_1, a1_2, a1_3, a1_4⟩ : S39) [.int .i64 a1_0, .int .i64 a1_1, .int .i64 a1_2, .int .i64 a1_3, .int .i64 a1_4] from (k39_mkM _ _ _ (⟨a1_0, a1_1, a1_2, a1_3, a1_4⟩ : S39) )) (Reps.none _ _)))
                              intro v650 w42 ho43 hb hg_ hnew_
                              clear hg_ hnew_
                              (first | rw [← Ny649.out] at ho43 | (simp only [Int.reduceToNat] at ho43; rw [← Ny649.out] at ho43))
                              have n0_ := Aside0.mk (Kd.R_lower (Kd.R_newB ho43 (g := gb629) (o := .cells #[.int .i64 a1_0, .int .i64 a1_1, .int .i64 a1_2, .int .i64 a1_3, .int .i64 a1_4] 39 (0, 0)) (by (with_reducible repeat (first | refine blk_drewN ?_ _ | refine blk_drew ?_ | refine blk_alloc ?_ _)); exact BK629.out)) (below_size (by repeat (first | (with_reducible first | exact HB.out | apply below_alloc | apply pw_below_drewN | apply below_drew1 | refine below_set ?_ GE629.out | refine below_set ?_ GE635.out | refine below_set ?_ GE658.out) | exact HB.out))))
                              have n1_ := Aside0.mk (blk_below (g := gb629) (o := .cells #[.int .i64 a1_0, .int .i64 a1_1, .int .i64 a1_2, .int .i64 a1_3, .int .i64 a1_4] 39 (0, 0)) (by (with_reducible repeat (first | refine blk_drewN ?_ _ | refine blk_drew ?_ | refine blk_alloc ?_ _)); exact BK629.out) hb)
                              have n2_ := Aside0.mk (blk_below (g := gb635) (o := .cells #[.int .i64 t632, .int .i64 t633] 23 (0, 0)) (by (with_reducible repeat (first | refine blk_drewN ?_ _ | refine blk_drew ?_ | refine blk_alloc ?_ _)); exact BK635.out) hb)
                              have n3_ := Aside0.mk (blk_below (g := gb658) (o := .cells #[.int .i64 0, .int .i64 0] 23 (0, 0)) (by (with_reducible repeat (first | refine blk_drewN ?_ _ | refine blk_drew ?_ | refine blk_alloc ?_ _)); exact BK658.out) hb)
                              have n4_ := Aside0.mk (below_step (by repeat (first | (with_reducible first | exact HB.out | apply below_alloc | apply pw_below_drewN | apply below_drew1 | refine below_set ?_ GE629.out | refine below_set ?_ GE635.out | refine below_set ?_ GE658.out) | exact HB.out)) hb)
                              clear BK629
                              clear BK635
                              clear BK658
                              clear HB
                              have HO651 := n0_
                              have BK629 := n1_
                              have BK635 := n2_
                              have BK658 := n3_
                              have HB := n4_
                              clear n0_ n1_ n2_ n3_ n4_
                              clear hb ho43
                              refine hK.out _ _ ⟨(blk_cell BK629.out 0).trans rfl, (blk_cell BK629.out 1).trans rfl, (blk_cell BK629.out 2).trans rfl, (blk_cell BK629.out 3).trans rfl, (blk_cell BK629.out 4).trans rfl⟩ (fun hHeld => ?_)
                              clear hK K
                              refine norm_ (a' := ?_) ?_ ?_
                              rotate_left
                              ·show Act.put _ (some 98) _ = _
                               simp only [Act.put, List.setIfInBounds_toArray, List.set_cons_zero, List.set_cons_succ, i64_w, i32_w]
                               rfl
                              exact norm_ (by first | (simp only [putAll, Act.put, List.setIfInBounds_toArray, List.set_cons_zero, List.set_cons_succ]; done) | (simp only [putAll, Act.put, List.setIfInBounds_toArray, List.set_cons_zero, List.set_cons_succ]; rfl)) (hJ4_10 (v650, gb658) _ ⟨hHeld, (by (with_reducible repeat (first | apply Kd.R_alloc | apply Kd.R_drewN | apply Kd.R_drew)); exact Kd.R_mono HO651.out (fun _ hk => hk.2)), (by (with_reducible repeat (first | refine blk_drewN ?_ _ | refine blk_drew ?_ | refine blk_alloc ?_ _)); exact BK629.out), (by (with_reducible repeat (first | refine blk_drewN ?_ _ | refine blk_drew ?_ | refine blk_alloc ?_ _)); exact BK635.out), (by (with_reducible repeat (first | refine blk_drewN ?_ _ | refine blk_drew ?_ | refine blk_alloc ?_ _)); exact BK658.out), GW658.out, GE658.out, NB629_658.out, NB658_629.out, NB635_658.out, NB658_635.out, (by repeat (first | (with_reducible first | exact HB.out | apply below_alloc | apply pw_below_drewN | apply below_drew1 | refine below_set ?_ GE629.out | refine below_set ?_ GE635.out | refine below_set ?_ GE658.out) | exact HB.out))⟩)
                           ·skip
                            rintro v650 w42 ⟨hS_, h0_, h1_, h2_, h3_⟩
                            have n0_ : Aside0 (Kd.R k39 39 w42 w.heap.size (fun k_ => k_ ≠ gb629) v650 y649) := ⟨h0_⟩
                            have n1_ : Aside0 (w42.heap[gb629]? = some (.cells #[.int .i64 a1_0, .int .i64 a1_1, .int .i64 a1_2, .int .i64 a1_3, .int .i64 a1_4] 39 (0, 0))) := ⟨h1_⟩
                            have n2_ : Aside0 (w42.heap[gb635]? = some (.cells #[.int .i64 t632, .int .i64 t633] 23 (0, 0))) := ⟨h2_⟩
                            have n3_ : Aside0 (Below w.heap.size w w42) := ⟨h3_⟩
                            clear BK629
                            clear BK635
                            clear HB
                            clear h0_ h1_ h2_ h3_
                            have HO651 := n0_
                            have BK629 := n1_
                            have BK635 := n2_
                            have HB := n3_
                            clear n0_ n1_ n2_ n3_
                            have hHeld : w42.cell? ⟨gb629, 0, none⟩ = some (.int .i64 a1_0) ∧ w42.cell? ⟨gb629, 1, none⟩ = some (.int .i64 a1_1) ∧ w42.cell? ⟨gb629, 2, none⟩ = some (.int .i64 a1_2) ∧ w42.cell? ⟨gb629, 3, none⟩ = some (.int .i64 a1_3) ∧ w42.cell? ⟨gb629, 4, none⟩ = some (.int .i64 a1_4) := hS_
                            refine norm_ (a' := ?_) ?_ ?_
                            rotate_left
                            ·simp only [putAll, Act.put, List.setIfInBounds_toArray, List.set_cons_zero, List.set_cons_succ]
                             rfl
                            refine two_ (i := 0) (j := 10) (Ni := some 94) (Nj := some 15) #[true, true, false, true, true, false, false, false, false, false, false, false, false] #[false, true, false, true, true, false, false, false, false, false, true, false, false] rfl rfl rfl rfl (two_of HT_.out (by kernel_rfl)) (by decide) (by decide) (fun K hK => ?_) (fun K hK => ?_)
                            ·skip
                             refine Kd.R_lit_step k39 _ 39 ?hg (N := 94) ?hd (xs := ([] : List (S39))) (inner := []) (ok := fun _ => True) (okp := fun _ => True) ?hr ?hp (fun _ hk => hk) trivial (Below.refl _ _) (Nat.le_refl _) (by simp) ?_; (case hd => rfl); (case hg => rfl); (case hr => first | (go_simp; done) | (go_simp; rfl)); (case hp => exact (Reps.none _ _))
                             intro v644 w43 ho44 hb hg_ hnew_
                             clear hg_ hnew_
                             (first | rw [← Ny643.out] at ho44 | (simp only [Int.reduceToNat] at ho44; rw [← Ny643.out] at ho44))
                             have n0_ := Aside0.mk (Kd.R_elder' (by (with_reducible repeat (first | apply Kd.R_alloc | apply Kd.R_drewN | apply Kd.R_drew)); exact HO651.out) (Kd.R_base ho44) hb)
                             have n1_ := Aside0.mk (Kd.R_lower (Kd.R_newB (Kd.R_new' ho44 (Kd.R_lt (by (with_reducible repeat (first | apply Kd.R_alloc | apply Kd.R_drewN | apply Kd.R_drew)); exact HO651.out))) (g := gb629) (o := .cells #[.int .i64 a1_0, .int .i64 a1_1, .int .i64 a1_2, .int .i64 a1_3, .int .i64 a1_4] 39 (0, 0)) (by (with_reducible repeat (first | refine blk_drewN ?_ _ | refine blk_drew ?_ | refine blk_alloc ?_ _)); exact BK629.out)) (below_size (by repeat (first | (with_reducible first | exact HB.out | apply below_alloc | apply pw_below_drewN | apply below_drew1 | refine below_set ?_ GE629.out | refine below_set ?_ GE635.out) | exact HB.out))))
                             have n2_ := Aside0.mk (blk_below (g := gb629) (o := .cells #[.int .i64 a1_0, .int .i64 a1_1, .int .i64 a1_2, .int .i64 a1_3, .int .i64 a1_4] 39 (0, 0)) (by (with_reducible repeat (first | refine blk_drewN ?_ _ | refine blk_drew ?_ | refine blk_alloc ?_ _)); exact BK629.out) hb)
                             have n3_ := Aside0.mk (blk_below (g := gb635) (o := .cells #[.int .i64 t632, .int .i64 t633] 23 (0, 0)) (by (with_reducible repeat (first | refine blk_drewN ?_ _ | refine blk_drew ?_ | refine blk_alloc ?_ _)); exact BK635.out) hb)
                             have n4_ := Aside0.mk (below_step (by repeat (first | (with_reducible first | exact HB.out | apply below_alloc | apply pw_below_drewN | apply below_drew1 | refine below_set ?_ GE629.out | refine below_set ?_ GE635.out) | exact HB.out)) hb)
                             clear HO651
                             clear BK629
                             clear BK635
                             clear HB
                             have HO651 := n0_
                             have HO645 := n1_
                             have BK629 := n2_
                             have BK635 := n3_
                             have HB := n4_
                             clear n0_ n1_ n2_ n3_ n4_
                             clear hb ho44
                             refine hK.out _ _ ⟨(blk_cell BK629.out 0).trans rfl, (blk_cell BK629.out 1).trans rfl, (blk_cell BK629.out 2).trans rfl, (blk_cell BK629.out 3).trans rfl, (blk_cell BK629.out 4).trans rfl⟩ (fun hHeld => ?_)
                             clear hK K
                             refine norm_ (a' := ?_) ?_ ?_
                             rotate_left
                             ·show Act.put _ (some 94) _ = _
                              simp only [Act.put, List.setIfInBounds_toArray, List.set_cons_zero, List.set_cons_succ, i64_w, i32_w]
                              rfl
                             exact norm_ (by first | (simp only [putAll, Act.put, List.setIfInBounds_toArray, List.set_cons_zero, List.set_cons_succ]; done) | (simp only [putAll, Act.put, List.setIfInBounds_toArray, List.set_cons_zero, List.set_cons_succ]; rfl)) (hJ0_4 (v644, v650) _ ⟨hHeld, (by (with_reducible repeat (first | apply Kd.R_alloc | apply Kd.R_drewN | apply Kd.R_drew)); exact Kd.R_mono HO645.out (fun _ hk => ⟨hk.1.2, hk.2⟩)), (by (with_reducible repeat (first | apply Kd.R_alloc | apply Kd.R_drewN | apply Kd.R_drew)); exact Kd.R_mono HO651.out (fun _ hk => ⟨hk.2, hk.1⟩)), (by (with_reducible repeat (first | refine blk_drewN ?_ _ | refine blk_drew ?_ | refine blk_alloc ?_ _)); exact BK629.out), (by (with_reducible repeat (first | refine blk_drewN ?_ _ | refine blk_drew ?_ | refine blk_alloc ?_ _)); exact BK635.out), (by repeat (first | (with_reducible first | exact HB.out | apply below_alloc | apply pw_below_drewN | apply below_drew1 | refine below_set ?_ GE629.out | refine below_set ?_ GE635.out) | exact HB.out))⟩)
                            ·skip
                             refine box_step ?hg (N := 15) ?hd (cs := #[.int .i64 0, .int .i64 0]) (t := 23) ?hr ?_; (case hd => rfl); (case hg => rfl); (case hr => first | (go_simp; done) | (go_simp; rfl))
                             intro gb658 hg w43 hbox hb
                             have n0_ := Aside0.mk (Kd.R_below (by (with_reducible repeat (first | apply Kd.R_alloc | apply Kd.R_drewN | apply Kd.R_drew)); exact HO651.out) hb)
                             have n1_ := Aside0.mk (blk_below (g := gb629) (o := .cells #[.int .i64 a1_0, .int .i64 a1_1, .int .i64 a1_2, .int .i64 a1_3, .int .i64 a1_4] 39 (0, 0)) (by (with_reducible repeat (first | refine blk_drewN ?_ _ | refine blk_drew ?_ | refine blk_alloc ?_ _)); exact BK629.out) hb)
                             have n2_ := Aside0.mk (blk_below (g := gb635) (o := .cells #[.int .i64 t632, .int .i64 t633] 23 (0, 0)) (by (with_reducible repeat (first | refine blk_drewN ?_ _ | refine blk_drew ?_ | refine blk_alloc ?_ _)); exact BK635.out) hb)
                             have n3_ := Aside0.mk (below_step (by repeat (first | (with_reducible first | exact HB.out | apply below_alloc | apply pw_below_drewN | apply below_drew1 | refine below_set ?_ GE629.out | refine below_set ?_ GE635.out) | exact HB.out)) hb)
                             have n4_ := Aside0.mk (hbox)
                             have n5_ := Aside0.mk ((by rw [hg]; exact (below_size (by repeat (first | (with_reducible first | exact HB.out | apply below_alloc | apply pw_below_drewN | apply below_drew1 | refine below_set ?_ GE629.out | refine below_set ?_ GE635.out) | exact HB.out))) : w.heap.size ≤ gb658))
                             have n6_ := Aside0.mk ((by rw [hg]; exact (below_size (by repeat (first | (with_reducible first | exact HB.out | apply below_alloc | apply pw_below_drewN | apply below_drew1 | refine below_set ?_ GE629.out | refine below_set ?_ GE635.out) | exact HB.out))) : w.heap.size ≤ gb658))
                             have n7_ := Aside0.mk ((by rw [hg]; exact Nat.ne_of_lt (blk_lt (g := gb629) (o := .cells #[.int .i64 a1_0, .int .i64 a1_1, .int .i64 a1_2, .int .i64 a1_3, .int .i64 a1_4] 39 (0, 0)) (by (with_reducible repeat (first | refine blk_drewN ?_ _ | refine blk_drew ?_ | refine blk_alloc ?_ _)); exact BK629.out)) : gb629 ≠ gb658))
                             have n8_ := Aside0.mk ((by rw [hg]; exact Nat.ne_of_gt (blk_lt (g := gb629) (o := .cells #[.int .i64 a1_0, .int .i64 a1_1, .int .i64 a1_2, .int .i64 a1_3, .int .i64 a1_4] 39 (0, 0)) (by (with_reducible repeat (first | refine blk_drewN ?_ _ | refine blk_drew ?_ | refine blk_alloc ?_ _)); exact BK629.out)) : gb658 ≠ gb629))
                             have n9_ := Aside0.mk ((by rw [hg]; exact Nat.ne_of_lt (blk_lt (g := gb635) (o := .cells #[.int .i64 t632, .int .i64 t633] 23 (0, 0)) (by (with_reducible repeat (first | refine blk_drewN ?_ _ | refine blk_drew ?_ | refine blk_alloc ?_ _)); exact BK635.out)) : gb635 ≠ gb658))
                             have n10_ := Aside0.mk ((by rw [hg]; exact Nat.ne_of_gt (blk_lt (g := gb635) (o := .cells #[.int .i64 t632, .int .i64 t633] 23 (0, 0)) (by (with_reducible repeat (first | refine blk_drewN ?_ _ | refine blk_drew ?_ | refine blk_alloc ?_ _)); exact BK635.out)) : gb658 ≠ gb635))
                             clear HO651
                             clear BK629
                             clear BK635
                             clear HB
                             have HO651 := n0_
                             have BK629 := n1_
                             have BK635 := n2_
                             have HB := n3_
                             have BK658 := n4_
                             have GW658 := n5_
                             have GE658 := n6_
                             have NB629_658 := n7_
                             have NB658_629 := n8_
                             have NB635_658 := n9_
                             have NB658_635 := n10_
                             clear n0_ n1_ n2_ n3_ n4_ n5_ n6_ n7_ n8_ n9_ n10_
                             clear hb hbox hg
                             refine hK.out _ _ ⟨(blk_cell BK629.out 0).trans rfl, (blk_cell BK629.out 1).trans rfl, (blk_cell BK629.out 2).trans rfl, (blk_cell BK629.out 3).trans rfl, (blk_cell BK629.out 4).trans rfl⟩ (fun hHeld => ?_)
                             clear hK K
                             refine norm_ (a' := ?_) ?_ ?_
                             rotate_left
                             ·show Act.put _ (some 15) _ = _
                              simp only [Act.put, List.setIfInBounds_toArray, List.set_cons_zero, List.set_cons_succ, i64_w, i32_w]
                              rfl
                             exact norm_ (by first | (simp only [putAll, Act.put, List.setIfInBounds_toArray, List.set_cons_zero, List.set_cons_succ]; done) | (simp only [putAll, Act.put, List.setIfInBounds_toArray, List.set_cons_zero, List.set_cons_succ]; rfl)) (hJ4_10 (v650, gb658) _ ⟨hHeld, (by (with_reducible repeat (first | apply Kd.R_alloc | apply Kd.R_drewN | apply Kd.R_drew)); exact HO651.out), (by (with_reducible repeat (first | refine blk_drewN ?_ _ | refine blk_drew ?_ | refine blk_alloc ?_ _)); exact BK629.out), (by (with_reducible repeat (first | refine blk_drewN ?_ _ | refine blk_drew ?_ | refine blk_alloc ?_ _)); exact BK635.out), (by (with_reducible repeat (first | refine blk_drewN ?_ _ | refine blk_drew ?_ | refine blk_alloc ?_ _)); exact BK658.out), GW658.out, GE658.out, NB629_658.out, NB658_629.out, NB635_658.out, NB658_635.out, (by repeat (first | (with_reducible first | exact HB.out | apply below_alloc | apply pw_below_drewN | apply below_drew1 | refine below_set ?_ GE629.out | refine below_set ?_ GE635.out | refine below_set ?_ GE658.out) | exact HB.out))⟩)
                          ·skip
                           rintro v644 w42 ⟨hS_, h0_, h1_, h2_, h3_⟩
                           have n0_ : Aside0 (Kd.R k39 39 w42 w.heap.size (fun k_ => k_ ≠ gb629) v644 y643) := ⟨h0_⟩
                           have n1_ : Aside0 (w42.heap[gb629]? = some (.cells #[.int .i64 a1_0, .int .i64 a1_1, .int .i64 a1_2, .int .i64 a1_3, .int .i64 a1_4] 39 (0, 0))) := ⟨h1_⟩
                           have n2_ : Aside0 (w42.heap[gb635]? = some (.cells #[.int .i64 t632, .int .i64 t633] 23 (0, 0))) := ⟨h2_⟩
                           have n3_ : Aside0 (Below w.heap.size w w42) := ⟨h3_⟩
                           clear BK629
                           clear BK635
                           clear HB
                           clear h0_ h1_ h2_ h3_
                           have HO645 := n0_
                           have BK629 := n1_
                           have BK635 := n2_
                           have HB := n3_
                           clear n0_ n1_ n2_ n3_
                           have hHeld : w42.cell? ⟨gb629, 0, none⟩ = some (.int .i64 a1_0) ∧ w42.cell? ⟨gb629, 1, none⟩ = some (.int .i64 a1_1) ∧ w42.cell? ⟨gb629, 2, none⟩ = some (.int .i64 a1_2) ∧ w42.cell? ⟨gb629, 3, none⟩ = some (.int .i64 a1_3) ∧ w42.cell? ⟨gb629, 4, none⟩ = some (.int .i64 a1_4) := hS_
                           refine norm_ (a' := ?_) ?_ ?_
                           rotate_left
                           ·simp only [putAll, Act.put, List.setIfInBounds_toArray, List.set_cons_zero, List.set_cons_succ]
                            rfl
                           refine three_ (i := 2) (j := 4) (k := 10) (Ni := some 96) (Nj := some 98) (Nk := some 15) #[true, true, true, true, false, false, false, false, false, false, false, false, false] #[true, true, false, true, true, false, false, false, false, false, false, false, false] #[true, true, false, true, false, false, false, false, false, false, true, false, false] rfl rfl rfl rfl rfl rfl (three_of HT_.out (by kernel_rfl)) (by decide) (by decide) (by decide) (fun K hK => ?_) (fun K hK => ?_) (fun K hK => ?_)
                           ·skip
                            refine Kd.R_append_rows_step k39 (w0 := w) w.heap.size (by rfl) (.tmp 94) (.tmp 95) 37 39 (.agg #[(.int .i64 0), (.int .i64 0), (.int .i64 0), (.int .i64 0), (.int .i64 0)]) 40 rfl Try.underlying37 info39 rfl (by decide) (by omega) v644 y643 l0 _ _ _ (fun k_ => k_ ≠ gb629) (fun _ => False) rfl rfl ?aO ?aR (fun _ _ h => h) (fun _ h => h.elim) ?aF ?aB ?aS ?aL ?_
                            (case aR => repeat (first | exact (Kd.C_below HR0.out HB.out) | (with_reducible refine Kd.C_alloc ?_ _) | (with_reducible refine Kd.C_drewN ?_ _) | (with_reducible refine Kd.C_drew ?_)))
                            (case aB => exact (by repeat (first | (with_reducible first | exact HB.out | apply below_alloc | apply pw_below_drewN | apply below_drew1 | refine below_set ?_ GE629.out | refine below_set ?_ GE635.out) | exact HB.out)))
                            (case aF => exact (fun k_ hk => Kd.freshB (g := gb629) (o := .cells #[.int .i64 a1_0, .int .i64 a1_1, .int .i64 a1_2, .int .i64 a1_3, .int .i64 a1_4] 39 (0, 0)) (by (with_reducible repeat (first | refine blk_drewN ?_ _ | refine blk_drew ?_ | refine blk_alloc ?_ _)); exact BK629.out) k_ hk))
                            (case aO => exact (by (with_reducible repeat (first | apply Kd.R_alloc | apply Kd.R_drewN | apply Kd.R_drew)); exact HO645.out))
                            (case aS => exact (below_size (by repeat (first | (with_reducible first | exact HB.out | apply below_alloc | apply pw_below_drewN | apply below_drew1 | refine below_set ?_ GE629.out | refine below_set ?_ GE635.out) | exact HB.out))))
                            (case aL => have := LMc34.out; omega)
                            intro v647 w43 ho hb hg hat
                            rw [← Ny646.out] at ho
                            have n0_ := Aside0.mk (blk_grown (g := gb629) (o := .cells #[.int .i64 a1_0, .int .i64 a1_1, .int .i64 a1_2, .int .i64 a1_3, .int .i64 a1_4] 39 (0, 0)) (by (with_reducible repeat (first | refine blk_drewN ?_ _ | refine blk_drew ?_ | refine blk_alloc ?_ _)); exact BK629.out) hg (Kd.R_away HO645.out (fun _ hk => hk)))
                            have n1_ := Aside0.mk (blk_grown (g := gb635) (o := .cells #[.int .i64 t632, .int .i64 t633] 23 (0, 0)) (by (with_reducible repeat (first | refine blk_drewN ?_ _ | refine blk_drew ?_ | refine blk_alloc ?_ _)); exact BK635.out) hg (Kd.R_ne HO645.out BK635.out (by decide)))
                            have n2_ := Aside0.mk (hb)
                            have n3_ := Aside0.mk (ho)
                            clear BK629
                            clear BK635
                            clear HB
                            clear HO645
                            have BK629 := n0_
                            have BK635 := n1_
                            have HB := n2_
                            have HO648 := n3_
                            clear n0_ n1_ n2_ n3_
                            clear ho hb hg hat
                            refine hK.out _ _ ⟨(blk_cell BK629.out 0).trans rfl, (blk_cell BK629.out 1).trans rfl, (blk_cell BK629.out 2).trans rfl, (blk_cell BK629.out 3).trans rfl, (blk_cell BK629.out 4).trans rfl⟩ (fun hHeld => ?_)
                            clear hK K
                            refine norm_ (a' := ?_) ?_ ?_
                            rotate_left
                            ·show Act.put _ (some 96) _ = _
                             simp only [Act.put, List.setIfInBounds_toArray, List.set_cons_zero, List.set_cons_succ, i64_w, i32_w]
                             rfl
                            exact norm_ (by first | (simp only [putAll, Act.put, List.setIfInBounds_toArray, List.set_cons_zero, List.set_cons_succ]; done) | (simp only [putAll, Act.put, List.setIfInBounds_toArray, List.set_cons_zero, List.set_cons_succ]; rfl)) (hJ0_2 (v644, v647) _ ⟨hHeld, (by (with_reducible repeat (first | apply Kd.R_alloc | apply Kd.R_drewN | apply Kd.R_drew)); exact HO648.out), (by (with_reducible repeat (first | refine blk_drewN ?_ _ | refine blk_drew ?_ | refine blk_alloc ?_ _)); exact BK629.out), (by (with_reducible repeat (first | refine blk_drewN ?_ _ | refine blk_drew ?_ | refine blk_alloc ?_ _)); exact BK635.out), (by repeat (first | (with_reducible first | exact HB.out | apply below_alloc | apply pw_below_drewN | apply below_drew1 | refine below_set ?_ GE629.out | refine below_set ?_ GE635.out) | exact HB.out))⟩)
                           ·skip
                            refine Kd.R_lit_step k39 _ 39 ?hg (N := 98) ?hd (xs := ([(⟨a1_0, a1_1, a1_2, a1_3, a1_4⟩ : S39)] : List (S39))) (inner := [.int .i64 a1_0, .int .i64 a1_1, .int .i64 a1_2, .int .i64 a1_3, .int .i64 a1_4]) (ok := fun _ => True) (okp := fun _ => True) ?hr ?hp (fun _ hk => hk) trivial (Below.refl _ _) (Nat.le_refl _) (by simp) ?_; (case hd => rfl); (case hg => rfl); (case hr => first | (go_simp; done) | (go_simp; rfl)); (case hp => exact (Reps.c5 (show Kd.M k39 _ _ _ (⟨a1_0, a1_1, a1_2, a1_3, a1_4⟩ : S39) [.int .i64 a1_0, .int .i64 a1_1, .int .i64 a1_2, .int .i64 a1_3, .int .i64 a1_4] from (k39_mkM _ _ _ (⟨a1_0, a1_1, a1_2, a1_3, a1_4⟩ : S39) )) (Reps.none _ _)))
                            intro v650 w43 ho44 hb hg_ hnew_
                            clear hg_ hnew_
                            (first | rw [← Ny649.out] at ho44 | (simp only [Int.reduceToNat] at ho44; rw [← Ny649.out] at ho44))
                            have n0_ := Aside0.mk (Kd.R_elder' (by (with_reducible repeat (first | apply Kd.R_alloc | apply Kd.R_drewN | apply Kd.R_drew)); exact HO645.out) (Kd.R_base ho44) hb)
                            have n1_ := Aside0.mk (Kd.R_lower (Kd.R_newB (Kd.R_new' ho44 (Kd.R_lt (by (with_reducible repeat (first | apply Kd.R_alloc | apply Kd.R_drewN | apply Kd.R_drew)); exact HO645.out))) (g := gb629) (o := .cells #[.int .i64 a1_0, .int .i64 a1_1, .int .i64 a1_2, .int .i64 a1_3, .int .i64 a1_4] 39 (0, 0)) (by (with_reducible repeat (first | refine blk_drewN ?_ _ | refine blk_drew ?_ | refine blk_alloc ?_ _)); exact BK629.out)) (below_size (by repeat (first | (with_reducible first | exact HB.out | apply below_alloc | apply pw_below_drewN | apply below_drew1 | refine below_set ?_ GE629.out | refine below_set ?_ GE635.out) | exact HB.out))))
                            have n2_ := Aside0.mk (blk_below (g := gb629) (o := .cells #[.int .i64 a1_0, .int .i64 a1_1, .int .i64 a1_2, .int .i64 a1_3, .int .i64 a1_4] 39 (0, 0)) (by (with_reducible repeat (first | refine blk_drewN ?_ _ | refine blk_drew ?_ | refine blk_alloc ?_ _)); exact BK629.out) hb)
                            have n3_ := Aside0.mk (blk_below (g := gb635) (o := .cells #[.int .i64 t632, .int .i64 t633] 23 (0, 0)) (by (with_reducible repeat (first | refine blk_drewN ?_ _ | refine blk_drew ?_ | refine blk_alloc ?_ _)); exact BK635.out) hb)
                            have n4_ := Aside0.mk (below_step (by repeat (first | (with_reducible first | exact HB.out | apply below_alloc | apply pw_below_drewN | apply below_drew1 | refine below_set ?_ GE629.out | refine below_set ?_ GE635.out) | exact HB.out)) hb)
                            clear HO645
                            clear BK629
                            clear BK635
                            clear HB
                            have HO645 := n0_
                            have HO651 := n1_
                            have BK629 := n2_
                            have BK635 := n3_
                            have HB := n4_
                            clear n0_ n1_ n2_ n3_ n4_
                            clear hb ho44
                            refine hK.out _ _ ⟨(blk_cell BK629.out 0).trans rfl, (blk_cell BK629.out 1).trans rfl, (blk_cell BK629.out 2).trans rfl, (blk_cell BK629.out 3).trans rfl, (blk_cell BK629.out 4).trans rfl⟩ (fun hHeld => ?_)
                            clear hK K
                            refine norm_ (a' := ?_) ?_ ?_
                            rotate_left
                            ·show Act.put _ (some 98) _ = _
                             simp only [Act.put, List.setIfInBounds_toArray, List.set_cons_zero, List.set_cons_succ, i64_w, i32_w]
                             rfl
                            exact norm_ (by first | (simp only [putAll, Act.put, List.setIfInBounds_toArray, List.set_cons_zero, List.set_cons_succ]; done) | (simp only [putAll, Act.put, List.setIfInBounds_toArray, List.set_cons_zero, List.set_cons_succ]; rfl)) (hJ0_4 (v644, v650) _ ⟨hHeld, (by (with_reducible repeat (first | apply Kd.R_alloc | apply Kd.R_drewN | apply Kd.R_drew)); exact Kd.R_mono HO645.out (fun _ hk => ⟨hk.2, hk.1⟩)), (by (with_reducible repeat (first | apply Kd.R_alloc | apply Kd.R_drewN | apply Kd.R_drew)); exact Kd.R_mono HO651.out (fun _ hk => ⟨hk.1.2, hk.2⟩)), (by (with_reducible repeat (first | refine blk_drewN ?_ _ | refine blk_drew ?_ | refine blk_alloc ?_ _)); exact BK629.out), (by (with_reducible repeat (first | refine blk_drewN ?_ _ | refine blk_drew ?_ | refine blk_alloc ?_ _)); exact BK635.out), (by repeat (first | (with_reducible first | exact HB.out | apply below_alloc | apply pw_below_drewN | apply below_drew1 | refine below_set ?_ GE629.out | refine below_set ?_ GE635.out) | exact HB.out))⟩)
                           ·skip
                            refine box_step ?hg (N := 15) ?hd (cs := #[.int .i64 0, .int .i64 0]) (t := 23) ?hr ?_; (case hd => rfl); (case hg => rfl); (case hr => first | (go_simp; done) | (go_simp; rfl))
                            intro gb658 hg w43 hbox hb
                            have n0_ := Aside0.mk (Kd.R_below (by (with_reducible repeat (first | apply Kd.R_alloc | apply Kd.R_drewN | apply Kd.R_drew)); exact HO645.out) hb)
                            have n1_ := Aside0.mk (blk_below (g := gb629) (o := .cells #[.int .i64 a1_0, .int .i64 a1_1, .int .i64 a1_2, .int .i64 a1_3, .int .i64 a1_4] 39 (0, 0)) (by (with_reducible repeat (first | refine blk_drewN ?_ _ | refine blk_drew ?_ | refine blk_alloc ?_ _)); exact BK629.out) hb)
                            have n2_ := Aside0.mk (blk_below (g := gb635) (o := .cells #[.int .i64 t632, .int .i64 t633] 23 (0, 0)) (by (with_reducible repeat (first | refine blk_drewN ?_ _ | refine blk_drew ?_ | refine blk_alloc ?_ _)); exact BK635.out) hb)
                            have n3_ := Aside0.mk (below_step (by repeat (first | (with_reducible first | exact HB.out | apply below_alloc | apply pw_below_drewN | apply below_drew1 | refine below_set ?_ GE629.out | refine below_set ?_ GE635.out) | exact HB.out)) hb)
                            have n4_ := Aside0.mk (hbox)
                            have n5_ := Aside0.mk ((by rw [hg]; exact (below_size (by repeat (first | (with_reducible first | exact HB.out | apply below_alloc | apply pw_below_drewN | apply below_drew1 | refine below_set ?_ GE629.out | refine below_set ?_ GE635.out) | exact HB.out))) : w.heap.size ≤ gb658))
                            have n6_ := Aside0.mk ((by rw [hg]; exact (below_size (by repeat (first | (with_reducible first | exact HB.out | apply below_alloc | apply pw_below_drewN | apply below_drew1 | refine below_set ?_ GE629.out | refine below_set ?_ GE635.out) | exact HB.out))) : w.heap.size ≤ gb658))
                            have n7_ := Aside0.mk ((by rw [hg]; exact Nat.ne_of_lt (blk_lt (g := gb629) (o := .cells #[.int .i64 a1_0, .int .i64 a1_1, .int .i64 a1_2, .int .i64 a1_3, .int .i64 a1_4] 39 (0, 0)) (by (with_reducible repeat (first | refine blk_drewN ?_ _ | refine blk_drew ?_ | refine blk_alloc ?_ _)); exact BK629.out)) : gb629 ≠ gb658))
                            have n8_ := Aside0.mk ((by rw [hg]; exact Nat.ne_of_gt (blk_lt (g := gb629) (o := .cells #[.int .i64 a1_0, .int .i64 a1_1, .int .i64 a1_2, .int .i64 a1_3, .int .i64 a1_4] 39 (0, 0)) (by (with_reducible repeat (first | refine blk_drewN ?_ _ | refine blk_drew ?_ | refine blk_alloc ?_ _)); exact BK629.out)) : gb658 ≠ gb629))
                            have n9_ := Aside0.mk ((by rw [hg]; exact Nat.ne_of_lt (blk_lt (g := gb635) (o := .cells #[.int .i64 t632, .int .i64 t633] 23 (0, 0)) (by (with_reducible repeat (first | refine blk_drewN ?_ _ | refine blk_drew ?_ | refine blk_alloc ?_ _)); exact BK635.out)) : gb635 ≠ gb658))
                            have n10_ := Aside0.mk ((by rw [hg]; exact Nat.ne_of_gt (blk_lt (g := gb635) (o := .cells #[.int .i64 t632, .int .i64 t633] 23 (0, 0)) (by (with_reducible repeat (first | refine blk_drewN ?_ _ | refine blk_drew ?_ | refine blk_alloc ?_ _)); exact BK635.out)) : gb658 ≠ gb635))
                            clear HO645
                            clear BK629
                            clear BK635
                            clear HB
                            have HO645 := n0_
                            have BK629 := n1_
                            have BK635 := n2_
                            have HB := n3_
                            have BK658 := n4_
                            have GW658 := n5_
                            have GE658 := n6_
                            have NB629_658 := n7_
                            have NB658_629 := n8_
                            have NB635_658 := n9_
                            have NB658_635 := n10_
                            clear n0_ n1_ n2_ n3_ n4_ n5_ n6_ n7_ n8_ n9_ n10_
                            clear hb hbox hg
                            refine hK.out _ _ ⟨(blk_cell BK629.out 0).trans rfl, (blk_cell BK629.out 1).trans rfl, (blk_cell BK629.out 2).trans rfl, (blk_cell BK629.out 3).trans rfl, (blk_cell BK629.out 4).trans rfl⟩ (fun hHeld => ?_)
                            clear hK K
                            refine norm_ (a' := ?_) ?_ ?_
                            rotate_left
                            ·show Act.put _ (some 15) _ = _
                             simp only [Act.put, List.setIfInBounds_toArray, List.set_cons_zero, List.set_cons_succ, i64_w, i32_w]
                             rfl
                            exact norm_ (by first | (simp only [putAll, Act.put, List.setIfInBounds_toArray, List.set_cons_zero, List.set_cons_succ]; done) | (simp only [putAll, Act.put, List.setIfInBounds_toArray, List.set_cons_zero, List.set_cons_succ]; rfl)) (hJ0_10 (v644, gb658) _ ⟨hHeld, (by (with_reducible repeat (first | apply Kd.R_alloc | apply Kd.R_drewN | apply Kd.R_drew)); exact HO645.out), (by (with_reducible repeat (first | refine blk_drewN ?_ _ | refine blk_drew ?_ | refine blk_alloc ?_ _)); exact BK629.out), (by (with_reducible repeat (first | refine blk_drewN ?_ _ | refine blk_drew ?_ | refine blk_alloc ?_ _)); exact BK635.out), (by (with_reducible repeat (first | refine blk_drewN ?_ _ | refine blk_drew ?_ | refine blk_alloc ?_ _)); exact BK658.out), GW658.out, GE658.out, NB629_658.out, NB658_629.out, NB635_658.out, NB658_635.out, (by repeat (first | (with_reducible first | exact HB.out | apply below_alloc | apply pw_below_drewN | apply below_drew1 | refine below_set ?_ GE629.out | refine below_set ?_ GE635.out | refine below_set ?_ GE658.out) | exact HB.out))⟩)
                         ·skip
                          rintro ⟨v650, gb658⟩ w43 ⟨hS_, h0_, h1_, h2_, h3_, h4_, h5_, h6_, h7_, h8_, h9_, h10_⟩
                          have n0_ : Aside0 (Kd.R k39 39 w43 w.heap.size (fun k_ => k_ ≠ gb629) v650 y649) := ⟨h0_⟩
                          have n1_ : Aside0 (w43.heap[gb629]? = some (.cells #[.int .i64 a1_0, .int .i64 a1_1, .int .i64 a1_2, .int .i64 a1_3, .int .i64 a1_4] 39 (0, 0))) := ⟨h1_⟩
                          have n2_ : Aside0 (w43.heap[gb635]? = some (.cells #[.int .i64 t632, .int .i64 t633] 23 (0, 0))) := ⟨h2_⟩
                          have n3_ : Aside0 (w43.heap[gb658]? = some (.cells #[.int .i64 0, .int .i64 0] 23 (0, 0))) := ⟨h3_⟩
                          have n4_ : Aside0 (w.heap.size ≤ gb658) := ⟨h4_⟩
                          have n5_ : Aside0 (w.heap.size ≤ gb658) := ⟨h5_⟩
                          have n6_ : Aside0 (gb629 ≠ gb658) := ⟨h6_⟩
                          have n7_ : Aside0 (gb658 ≠ gb629) := ⟨h7_⟩
                          have n8_ : Aside0 (gb635 ≠ gb658) := ⟨h8_⟩
                          have n9_ : Aside0 (gb658 ≠ gb635) := ⟨h9_⟩
                          have n10_ : Aside0 (Below w.heap.size w w43) := ⟨h10_⟩
                          clear BK629
                          clear BK635
                          clear HB
                          clear h0_ h1_ h2_ h3_ h4_ h5_ h6_ h7_ h8_ h9_ h10_
                          have HO651 := n0_
                          have BK629 := n1_
                          have BK635 := n2_
                          have BK658 := n3_
                          have GW658 := n4_
                          have GE658 := n5_
                          have NB629_658 := n6_
                          have NB658_629 := n7_
                          have NB635_658 := n8_
                          have NB658_635 := n9_
                          have HB := n10_
                          clear n0_ n1_ n2_ n3_ n4_ n5_ n6_ n7_ n8_ n9_ n10_
                          have hHeld : w43.cell? ⟨gb629, 0, none⟩ = some (.int .i64 a1_0) ∧ w43.cell? ⟨gb629, 1, none⟩ = some (.int .i64 a1_1) ∧ w43.cell? ⟨gb629, 2, none⟩ = some (.int .i64 a1_2) ∧ w43.cell? ⟨gb629, 3, none⟩ = some (.int .i64 a1_3) ∧ w43.cell? ⟨gb629, 4, none⟩ = some (.int .i64 a1_4) := hS_
                          refine norm_ (a' := ?_) ?_ ?_
                          rotate_left
                          ·simp only [putAll, Act.put, List.setIfInBounds_toArray, List.set_cons_zero, List.set_cons_succ]
                           rfl
                          refine one_ (i := 0) (N := some 94) #[true, true, false, true, true, false, false, false, false, false, true, false, false] rfl rfl (one_of HT_.out (by kernel_rfl)) (by decide) (fun K hK => ?_)
                          refine Kd.R_lit_step k39 _ 39 ?hg (N := 94) ?hd (xs := ([] : List (S39))) (inner := []) (ok := fun _ => True) (okp := fun _ => True) ?hr ?hp (fun _ hk => hk) trivial (Below.refl _ _) (Nat.le_refl _) (by simp) ?_; (case hd => rfl); (case hg => rfl); (case hr => first | (go_simp; done) | (go_simp; rfl)); (case hp => exact (Reps.none _ _))
                          intro v644 w44 ho45 hb hg_ hnew_
                          clear hg_ hnew_
                          (first | rw [← Ny643.out] at ho45 | (simp only [Int.reduceToNat] at ho45; rw [← Ny643.out] at ho45))
                          have n0_ := Aside0.mk (Kd.R_elder' (by (with_reducible repeat (first | apply Kd.R_alloc | apply Kd.R_drewN | apply Kd.R_drew)); exact HO651.out) (Kd.R_base ho45) hb)
                          have n1_ := Aside0.mk (Kd.R_lower (Kd.R_newB (Kd.R_new' ho45 (Kd.R_lt (by (with_reducible repeat (first | apply Kd.R_alloc | apply Kd.R_drewN | apply Kd.R_drew)); exact HO651.out))) (g := gb629) (o := .cells #[.int .i64 a1_0, .int .i64 a1_1, .int .i64 a1_2, .int .i64 a1_3, .int .i64 a1_4] 39 (0, 0)) (by (with_reducible repeat (first | refine blk_drewN ?_ _ | refine blk_drew ?_ | refine blk_alloc ?_ _)); exact BK629.out)) (below_size (by repeat (first | (with_reducible first | exact HB.out | apply below_alloc | apply pw_below_drewN | apply below_drew1 | refine below_set ?_ GE629.out | refine below_set ?_ GE635.out | refine below_set ?_ GE658.out) | exact HB.out))))
                          have n2_ := Aside0.mk (blk_below (g := gb629) (o := .cells #[.int .i64 a1_0, .int .i64 a1_1, .int .i64 a1_2, .int .i64 a1_3, .int .i64 a1_4] 39 (0, 0)) (by (with_reducible repeat (first | refine blk_drewN ?_ _ | refine blk_drew ?_ | refine blk_alloc ?_ _)); exact BK629.out) hb)
                          have n3_ := Aside0.mk (blk_below (g := gb635) (o := .cells #[.int .i64 t632, .int .i64 t633] 23 (0, 0)) (by (with_reducible repeat (first | refine blk_drewN ?_ _ | refine blk_drew ?_ | refine blk_alloc ?_ _)); exact BK635.out) hb)
                          have n4_ := Aside0.mk (blk_below (g := gb658) (o := .cells #[.int .i64 0, .int .i64 0] 23 (0, 0)) (by (with_reducible repeat (first | refine blk_drewN ?_ _ | refine blk_drew ?_ | refine blk_alloc ?_ _)); exact BK658.out) hb)
                          have n5_ := Aside0.mk (below_step (by repeat (first | (with_reducible first | exact HB.out | apply below_alloc | apply pw_below_drewN | apply below_drew1 | refine below_set ?_ GE629.out | refine below_set ?_ GE635.out | refine below_set ?_ GE658.out) | exact HB.out)) hb)
                          clear HO651
                          clear BK629
                          clear BK635
                          clear BK658
                          clear HB
                          have HO651 := n0_
                          have HO645 := n1_
                          have BK629 := n2_
                          have BK635 := n3_
                          have BK658 := n4_
                          have HB := n5_
                          clear n0_ n1_ n2_ n3_ n4_ n5_
                          clear hb ho45
                          refine hK.out _ _ ⟨(blk_cell BK629.out 0).trans rfl, (blk_cell BK629.out 1).trans rfl, (blk_cell BK629.out 2).trans rfl, (blk_cell BK629.out 3).trans rfl, (blk_cell BK629.out 4).trans rfl⟩ (fun hHeld => ?_)
                          clear hK K
                          refine norm_ (a' := ?_) ?_ ?_
                          rotate_left
                          ·show Act.put _ (some 94) _ = _
                           simp only [Act.put, List.setIfInBounds_toArray, List.set_cons_zero, List.set_cons_succ, i64_w, i32_w]
                           rfl
                          exact norm_ (by first | (simp only [putAll, Act.put, List.setIfInBounds_toArray, List.set_cons_zero, List.set_cons_succ]; done) | (simp only [putAll, Act.put, List.setIfInBounds_toArray, List.set_cons_zero, List.set_cons_succ]; rfl)) (hJ0_4_10 (v644, v650, gb658) _ ⟨hHeld, (by (with_reducible repeat (first | apply Kd.R_alloc | apply Kd.R_drewN | apply Kd.R_drew)); exact Kd.R_mono HO645.out (fun _ hk => ⟨hk.1.2, hk.2⟩)), (by (with_reducible repeat (first | apply Kd.R_alloc | apply Kd.R_drewN | apply Kd.R_drew)); exact Kd.R_mono HO651.out (fun _ hk => ⟨hk.2, hk.1⟩)), (by (with_reducible repeat (first | refine blk_drewN ?_ _ | refine blk_drew ?_ | refine blk_alloc ?_ _)); exact BK629.out), (by (with_reducible repeat (first | refine blk_drewN ?_ _ | refine blk_drew ?_ | refine blk_alloc ?_ _)); exact BK635.out), (by (with_reducible repeat (first | refine blk_drewN ?_ _ | refine blk_drew ?_ | refine blk_alloc ?_ _)); exact BK658.out), GW658.out, GE658.out, NB629_658.out, NB658_629.out, NB635_658.out, NB658_635.out, (by repeat (first | (with_reducible first | exact HB.out | apply below_alloc | apply pw_below_drewN | apply below_drew1 | refine below_set ?_ GE629.out | refine below_set ?_ GE635.out | refine below_set ?_ GE658.out) | exact HB.out))⟩)
                        ·skip
                         rintro ⟨v644, gb658⟩ w43 ⟨hS_, h0_, h1_, h2_, h3_, h4_, h5_, h6_, h7_, h8_, h9_, h10_⟩
                         have n0_ : Aside0 (Kd.R k39 39 w43 w.heap.size (fun k_ => k_ ≠ gb629) v644 y643) := ⟨h0_⟩
                         have n1_ : Aside0 (w43.heap[gb629]? = some (.cells #[.int .i64 a1_0, .int .i64 a1_1, .int .i64 a1_2, .int .i64 a1_3, .int .i64 a1_4] 39 (0, 0))) := ⟨h1_⟩
                         have n2_ : Aside0 (w43.heap[gb635]? = some (.cells #[.int .i64 t632, .int .i64 t633] 23 (0, 0))) := ⟨h2_⟩
                         have n3_ : Aside0 (w43.heap[gb658]? = some (.cells #[.int .i64 0, .int .i64 0] 23 (0, 0))) := ⟨h3_⟩
                         have n4_ : Aside0 (w.heap.size ≤ gb658) := ⟨h4_⟩
                         have n5_ : Aside0 (w.heap.size ≤ gb658) := ⟨h5_⟩
                         have n6_ : Aside0 (gb629 ≠ gb658) := ⟨h6_⟩
                         have n7_ : Aside0 (gb658 ≠ gb629) := ⟨h7_⟩
                         have n8_ : Aside0 (gb635 ≠ gb658) := ⟨h8_⟩
                         have n9_ : Aside0 (gb658 ≠ gb635) := ⟨h9_⟩
                         have n10_ : Aside0 (Below w.heap.size w w43) := ⟨h10_⟩
                         clear BK629
                         clear BK635
                         clear HB
                         clear h0_ h1_ h2_ h3_ h4_ h5_ h6_ h7_ h8_ h9_ h10_
                         have HO645 := n0_
                         have BK629 := n1_
                         have BK635 := n2_
                         have BK658 := n3_
                         have GW658 := n4_
                         have GE658 := n5_
                         have NB629_658 := n6_
                         have NB658_629 := n7_
                         have NB635_658 := n8_
                         have NB658_635 := n9_
                         have HB := n10_
                         clear n0_ n1_ n2_ n3_ n4_ n5_ n6_ n7_ n8_ n9_ n10_
                         have hHeld : w43.cell? ⟨gb629, 0, none⟩ = some (.int .i64 a1_0) ∧ w43.cell? ⟨gb629, 1, none⟩ = some (.int .i64 a1_1) ∧ w43.cell? ⟨gb629, 2, none⟩ = some (.int .i64 a1_2) ∧ w43.cell? ⟨gb629, 3, none⟩ = some (.int .i64 a1_3) ∧ w43.cell? ⟨gb629, 4, none⟩ = some (.int .i64 a1_4) := hS_
                         refine norm_ (a' := ?_) ?_ ?_
                         rotate_left
                         ·simp only [putAll, Act.put, List.setIfInBounds_toArray, List.set_cons_zero, List.set_cons_succ]
                          rfl
                         refine two_ (i := 2) (j := 4) (Ni := some 96) (Nj := some 98) #[true, true, true, true, false, false, false, false, false, false, true, false, false] #[true, true, false, true, true, false, false, false, false, false, true, false, false] rfl rfl rfl rfl (two_of HT_.out (by kernel_rfl)) (by decide) (by decide) (fun K hK => ?_) (fun K hK => ?_)
                         ·skip
                          refine Kd.R_append_rows_step k39 (w0 := w) w.heap.size (by rfl) (.tmp 94) (.tmp 95) 37 39 (.agg #[(.int .i64 0), (.int .i64 0), (.int .i64 0), (.int .i64 0), (.int .i64 0)]) 40 rfl Try.underlying37 info39 rfl (by decide) (by omega) v644 y643 l0 _ _ _ (fun k_ => k_ ≠ gb629) (fun _ => False) rfl rfl ?aO ?aR (fun _ _ h => h) (fun _ h => h.elim) ?aF ?aB ?aS ?aL ?_
                          (case aR => repeat (first | exact (Kd.C_below HR0.out HB.out) | (with_reducible refine Kd.C_alloc ?_ _) | (with_reducible refine Kd.C_drewN ?_ _) | (with_reducible refine Kd.C_drew ?_)))
                          (case aB => exact (by repeat (first | (with_reducible first | exact HB.out | apply below_alloc | apply pw_below_drewN | apply below_drew1 | refine below_set ?_ GE629.out | refine below_set ?_ GE635.out | refine below_set ?_ GE658.out) | exact HB.out)))
                          (case aF => exact (fun k_ hk => Kd.freshB (g := gb629) (o := .cells #[.int .i64 a1_0, .int .i64 a1_1, .int .i64 a1_2, .int .i64 a1_3, .int .i64 a1_4] 39 (0, 0)) (by (with_reducible repeat (first | refine blk_drewN ?_ _ | refine blk_drew ?_ | refine blk_alloc ?_ _)); exact BK629.out) k_ hk))
                          (case aO => exact (by (with_reducible repeat (first | apply Kd.R_alloc | apply Kd.R_drewN | apply Kd.R_drew)); exact HO645.out))
                          (case aS => exact (below_size (by repeat (first | (with_reducible first | exact HB.out | apply below_alloc | apply pw_below_drewN | apply below_drew1 | refine below_set ?_ GE629.out | refine below_set ?_ GE635.out | refine below_set ?_ GE658.out) | exact HB.out))))
                          (case aL => have := LMc34.out; omega)
                          intro v647 w44 ho hb hg hat
                          rw [← Ny646.out] at ho
                          have n0_ := Aside0.mk (blk_grown (g := gb629) (o := .cells #[.int .i64 a1_0, .int .i64 a1_1, .int .i64 a1_2, .int .i64 a1_3, .int .i64 a1_4] 39 (0, 0)) (by (with_reducible repeat (first | refine blk_drewN ?_ _ | refine blk_drew ?_ | refine blk_alloc ?_ _)); exact BK629.out) hg (Kd.R_away HO645.out (fun _ hk => hk)))
                          have n1_ := Aside0.mk (blk_grown (g := gb635) (o := .cells #[.int .i64 t632, .int .i64 t633] 23 (0, 0)) (by (with_reducible repeat (first | refine blk_drewN ?_ _ | refine blk_drew ?_ | refine blk_alloc ?_ _)); exact BK635.out) hg (Kd.R_ne HO645.out BK635.out (by decide)))
                          have n2_ := Aside0.mk (blk_grown (g := gb658) (o := .cells #[.int .i64 0, .int .i64 0] 23 (0, 0)) (by (with_reducible repeat (first | refine blk_drewN ?_ _ | refine blk_drew ?_ | refine blk_alloc ?_ _)); exact BK658.out) hg (Kd.R_ne HO645.out BK658.out (by decide)))
                          have n3_ := Aside0.mk (hb)
                          have n4_ := Aside0.mk (ho)
                          clear BK629
                          clear BK635
                          clear BK658
                          clear HB
                          clear HO645
                          have BK629 := n0_
                          have BK635 := n1_
                          have BK658 := n2_
                          have HB := n3_
                          have HO648 := n4_
                          clear n0_ n1_ n2_ n3_ n4_
                          clear ho hb hg hat
                          refine hK.out _ _ ⟨(blk_cell BK629.out 0).trans rfl, (blk_cell BK629.out 1).trans rfl, (blk_cell BK629.out 2).trans rfl, (blk_cell BK629.out 3).trans rfl, (blk_cell BK629.out 4).trans rfl⟩ (fun hHeld => ?_)
                          clear hK K
                          refine norm_ (a' := ?_) ?_ ?_
                          rotate_left
                          ·show Act.put _ (some 96) _ = _
                           simp only [Act.put, List.setIfInBounds_toArray, List.set_cons_zero, List.set_cons_succ, i64_w, i32_w]
                           rfl
                          exact norm_ (by first | (simp only [putAll, Act.put, List.setIfInBounds_toArray, List.set_cons_zero, List.set_cons_succ]; done) | (simp only [putAll, Act.put, List.setIfInBounds_toArray, List.set_cons_zero, List.set_cons_succ]; rfl)) (hJ0_2_10 (v644, v647, gb658) _ ⟨hHeld, (by (with_reducible repeat (first | apply Kd.R_alloc | apply Kd.R_drewN | apply Kd.R_drew)); exact HO648.out), (by (with_reducible repeat (first | refine blk_drewN ?_ _ | refine blk_drew ?_ | refine blk_alloc ?_ _)); exact BK629.out), (by (with_reducible repeat (first | refine blk_drewN ?_ _ | refine blk_drew ?_ | refine blk_alloc ?_ _)); exact BK635.out), (by (with_reducible repeat (first | refine blk_drewN ?_ _ | refine blk_drew ?_ | refine blk_alloc ?_ _)); exact BK658.out), GW658.out, GE658.out, NB629_658.out, NB658_629.out, NB635_658.out, NB658_635.out, (by repeat (first | (with_reducible first | exact HB.out | apply below_alloc | apply pw_below_drewN | apply below_drew1 | refine below_set ?_ GE629.out | refine below_set ?_ GE635.out | refine below_set ?_ GE658.out) | exact HB.out))⟩)
                         ·skip
                          refine Kd.R_lit_step k39 _ 39 ?hg (N := 98) ?hd (xs := ([(⟨a1_0, a1_1, a1_2, a1_3, a1_4⟩ : S39)] : List (S39))) (inner := [.int .i64 a1_0, .int .i64 a1_1, .int .i64 a1_2, .int .i64 a1_3, .int .i64 a1_4]) (ok := fun _ => True) (okp := fun _ => True) ?hr ?hp (fun _ hk => hk) trivial (Below.refl _ _) (Nat.le_refl _) (by simp) ?_; (case hd => rfl); (case hg => rfl); (case hr => first | (go_simp; done) | (go_simp; rfl)); (case hp => exact (Reps.c5 (show Kd.M k39 _ _ _ (⟨a1_0, a1_1, a1_2, a1_3, a1_4⟩ : S39) [.int .i64 a1_0, .int .i64 a1_1, .int .i64 a1_2, .int .i64 a1_3, .int .i64 a1_4] from (k39_mkM _ _ _ (⟨a1_0, a1_1, a1_2, a1_3, a1_4⟩ : S39) )) (Reps.none _ _)))
                          intro v650 w44 ho45 hb hg_ hnew_
                          clear hg_ hnew_
                          (first | rw [← Ny649.out] at ho45 | (simp only [Int.reduceToNat] at ho45; rw [← Ny649.out] at ho45))
                          have n0_ := Aside0.mk (Kd.R_elder' (by (with_reducible repeat (first | apply Kd.R_alloc | apply Kd.R_drewN | apply Kd.R_drew)); exact HO645.out) (Kd.R_base ho45) hb)
                          have n1_ := Aside0.mk (Kd.R_lower (Kd.R_newB (Kd.R_new' ho45 (Kd.R_lt (by (with_reducible repeat (first | apply Kd.R_alloc | apply Kd.R_drewN | apply Kd.R_drew)); exact HO645.out))) (g := gb629) (o := .cells #[.int .i64 a1_0, .int .i64 a1_1, .int .i64 a1_2, .int .i64 a1_3, .int .i64 a1_4] 39 (0, 0)) (by (with_reducible repeat (first | refine blk_drewN ?_ _ | refine blk_drew ?_ | refine blk_alloc ?_ _)); exact BK629.out)) (below_size (by repeat (first | (with_reducible first | exact HB.out | apply below_alloc | apply pw_below_drewN | apply below_drew1 | refine below_set ?_ GE629.out | refine below_set ?_ GE635.out | refine below_set ?_ GE658.out) | exact HB.out))))
                          have n2_ := Aside0.mk (blk_below (g := gb629) (o := .cells #[.int .i64 a1_0, .int .i64 a1_1, .int .i64 a1_2, .int .i64 a1_3, .int .i64 a1_4] 39 (0, 0)) (by (with_reducible repeat (first | refine blk_drewN ?_ _ | refine blk_drew ?_ | refine blk_alloc ?_ _)); exact BK629.out) hb)
                          have n3_ := Aside0.mk (blk_below (g := gb635) (o := .cells #[.int .i64 t632, .int .i64 t633] 23 (0, 0)) (by (with_reducible repeat (first | refine blk_drewN ?_ _ | refine blk_drew ?_ | refine blk_alloc ?_ _)); exact BK635.out) hb)
                          have n4_ := Aside0.mk (blk_below (g := gb658) (o := .cells #[.int .i64 0, .int .i64 0] 23 (0, 0)) (by (with_reducible repeat (first | refine blk_drewN ?_ _ | refine blk_drew ?_ | refine blk_alloc ?_ _)); exact BK658.out) hb)
                          have n5_ := Aside0.mk (below_step (by repeat (first | (with_reducible first | exact HB.out | apply below_alloc | apply pw_below_drewN | apply below_drew1 | refine below_set ?_ GE629.out | refine below_set ?_ GE635.out | refine below_set ?_ GE658.out) | exact HB.out)) hb)
                          clear HO645
                          clear BK629
                          clear BK635
                          clear BK658
                          clear HB
                          have HO645 := n0_
                          have HO651 := n1_
                          have BK629 := n2_
                          have BK635 := n3_
                          have BK658 := n4_
                          have HB := n5_
                          clear n0_ n1_ n2_ n3_ n4_ n5_
                          clear hb ho45
                          refine hK.out _ _ ⟨(blk_cell BK629.out 0).trans rfl, (blk_cell BK629.out 1).trans rfl, (blk_cell BK629.out 2).trans rfl, (blk_cell BK629.out 3).trans rfl, (blk_cell BK629.out 4).trans rfl⟩ (fun hHeld => ?_)
                          clear hK K
                          refine norm_ (a' := ?_) ?_ ?_
                          rotate_left
                          ·show Act.put _ (some 98) _ = _
                           simp only [Act.put, List.setIfInBounds_toArray, List.set_cons_zero, List.set_cons_succ, i64_w, i32_w]
                           rfl
                          exact norm_ (by first | (simp only [putAll, Act.put, List.setIfInBounds_toArray, List.set_cons_zero, List.set_cons_succ]; done) | (simp only [putAll, Act.put, List.setIfInBounds_toArray, List.set_cons_zero, List.set_cons_succ]; rfl)) (hJ0_4_10 (v644, v650, gb658) _ ⟨hHeld, (by (with_reducible repeat (first | apply Kd.R_alloc | apply Kd.R_drewN | apply Kd.R_drew)); exact Kd.R_mono HO645.out (fun _ hk => ⟨hk.2, hk.1⟩)), (by (with_reducible repeat (first | apply Kd.R_alloc | apply Kd.R_drewN | apply Kd.R_drew)); exact Kd.R_mono HO651.out (fun _ hk => ⟨hk.1.2, hk.2⟩)), (by (with_reducible repeat (first | refine blk_drewN ?_ _ | refine blk_drew ?_ | refine blk_alloc ?_ _)); exact BK629.out), (by (with_reducible repeat (first | refine blk_drewN ?_ _ | refine blk_drew ?_ | refine blk_alloc ?_ _)); exact BK635.out), (by (with_reducible repeat (first | refine blk_drewN ?_ _ | refine blk_drew ?_ | refine blk_alloc ?_ _)); exact BK658.out), GW658.out, GE658.out, NB629_658.out, NB658_629.out, NB635_658.out, NB658_635.out, (by repeat (first | (with_reducible first | exact HB.out | apply below_alloc | apply pw_below_drewN | apply below_drew1 | refine below_set ?_ GE629.out | refine below_set ?_ GE635.out | refine below_set ?_ GE658.out) | exact HB.out))⟩)
                       ·skip
                        rintro ⟨v644, v650⟩ w44 ⟨hS_, h0_, h1_, h2_, h3_, h4_⟩
                        have n0_ : Aside0 (Kd.R k39 39 w44 w.heap.size (fun k_ => some k_ ≠ (v650 : Value).ownBlock ∧ k_ ≠ gb629) v644 y643) := ⟨h0_⟩
                        have n1_ : Aside0 (Kd.R k39 39 w44 w.heap.size (fun k_ => some k_ ≠ (v644 : Value).ownBlock ∧ k_ ≠ gb629) v650 y649) := ⟨h1_⟩
                        have n2_ : Aside0 (w44.heap[gb629]? = some (.cells #[.int .i64 a1_0, .int .i64 a1_1, .int .i64 a1_2, .int .i64 a1_3, .int .i64 a1_4] 39 (0, 0))) := ⟨h2_⟩
                        have n3_ : Aside0 (w44.heap[gb635]? = some (.cells #[.int .i64 t632, .int .i64 t633] 23 (0, 0))) := ⟨h3_⟩
                        have n4_ : Aside0 (Below w.heap.size w w44) := ⟨h4_⟩
                        clear BK629
                        clear BK635
                        clear HB
                        clear h0_ h1_ h2_ h3_ h4_
                        have HO645 := n0_
                        have HO651 := n1_
                        have BK629 := n2_
                        have BK635 := n3_
                        have HB := n4_
                        clear n0_ n1_ n2_ n3_ n4_
                        have hHeld : w44.cell? ⟨gb629, 0, none⟩ = some (.int .i64 a1_0) ∧ w44.cell? ⟨gb629, 1, none⟩ = some (.int .i64 a1_1) ∧ w44.cell? ⟨gb629, 2, none⟩ = some (.int .i64 a1_2) ∧ w44.cell? ⟨gb629, 3, none⟩ = some (.int .i64 a1_3) ∧ w44.cell? ⟨gb629, 4, none⟩ = some (.int .i64 a1_4) := hS_
                        refine norm_ (a' := ?_) ?_ ?_
                        rotate_left
                        ·simp only [putAll, Act.put, List.setIfInBounds_toArray, List.set_cons_zero, List.set_cons_succ]
                         rfl
                        refine two_ (i := 2) (j := 10) (Ni := some 96) (Nj := some 15) #[true, true, true, true, true, false, false, false, false, false, false, false, false] #[true, true, false, true, true, false, false, false, false, false, true, false, false] rfl rfl rfl rfl (two_of HT_.out (by kernel_rfl)) (by decide) (by decide) (fun K hK => ?_) (fun K hK => ?_)
                        ·skip
                         refine Kd.R_append_rows_step k39 (w0 := w) w.heap.size (by rfl) (.tmp 94) (.tmp 95) 37 39 (.agg #[(.int .i64 0), (.int .i64 0), (.int .i64 0), (.int .i64 0), (.int .i64 0)]) 40 rfl Try.underlying37 info39 rfl (by decide) (by omega) v644 y643 l0 _ _ _ (fun k_ => some k_ ≠ (v650 : Value).ownBlock ∧ k_ ≠ gb629) (fun _ => False) rfl rfl ?aO ?aR (fun _ _ h => h) (fun _ h => h.elim) ?aF ?aB ?aS ?aL ?_
                         (case aR => repeat (first | exact (Kd.C_below HR0.out HB.out) | (with_reducible refine Kd.C_alloc ?_ _) | (with_reducible refine Kd.C_drewN ?_ _) | (with_reducible refine Kd.C_drew ?_)))
                         (case aB => exact (by repeat (first | (with_reducible first | exact HB.out | apply below_alloc | apply pw_below_drewN | apply below_drew1 | refine below_set ?_ GE629.out | refine below_set ?_ GE635.out) | exact HB.out)))
                         (case aF => exact (fun k_ hk => ⟨Kd.fresh' (Kd.R_lt (by (with_reducible repeat (first | apply Kd.R_alloc | apply Kd.R_drewN | apply Kd.R_drew)); exact HO651.out)) k_ hk, Kd.freshB (g := gb629) (o := .cells #[.int .i64 a1_0, .int .i64 a1_1, .int .i64 a1_2, .int .i64 a1_3, .int .i64 a1_4] 39 (0, 0)) (by (with_reducible repeat (first | refine blk_drewN ?_ _ | refine blk_drew ?_ | refine blk_alloc ?_ _)); exact BK629.out) k_ hk⟩))
                         (case aO => exact (by (with_reducible repeat (first | apply Kd.R_alloc | apply Kd.R_drewN | apply Kd.R_drew)); exact HO645.out))
                         (case aS => exact (below_size (by repeat (first | (with_reducible first | exact HB.out | apply below_alloc | apply pw_below_drewN | apply below_drew1 | refine below_set ?_ GE629.out | refine below_set ?_ GE635.out) | exact HB.out))))
                         (case aL => have := LMc34.out; omega)
                         intro v647 w45 ho hb hg hat
                         rw [← Ny646.out] at ho
                         have n0_ := Aside0.mk (blk_grown (g := gb629) (o := .cells #[.int .i64 a1_0, .int .i64 a1_1, .int .i64 a1_2, .int .i64 a1_3, .int .i64 a1_4] 39 (0, 0)) (by (with_reducible repeat (first | refine blk_drewN ?_ _ | refine blk_drew ?_ | refine blk_alloc ?_ _)); exact BK629.out) hg (Kd.R_away HO645.out (fun _ hk => hk.2)))
                         have n1_ := Aside0.mk (blk_grown (g := gb635) (o := .cells #[.int .i64 t632, .int .i64 t633] 23 (0, 0)) (by (with_reducible repeat (first | refine blk_drewN ?_ _ | refine blk_drew ?_ | refine blk_alloc ?_ _)); exact BK635.out) hg (Kd.R_ne HO645.out BK635.out (by decide)))
                         have n2_ := Aside0.mk (Kd.R_after (ok := (fun k_ => k_ ≠ gb629)) (by (with_reducible repeat (first | apply Kd.R_alloc | apply Kd.R_drewN | apply Kd.R_drew)); exact Kd.R_mono HO651.out (fun _ hk => ⟨hk.2, hk.1⟩)) hg hat)
                         have n3_ := Aside0.mk (hb)
                         have n4_ := Aside0.mk (ho)
                         clear BK629
                         clear BK635
                         clear HO651
                         clear HB
                         clear HO645
                         have BK629 := n0_
                         have BK635 := n1_
                         have HO651 := n2_
                         have HB := n3_
                         have HO648 := n4_
                         clear n0_ n1_ n2_ n3_ n4_
                         clear ho hb hg hat
                         refine hK.out _ _ ⟨(blk_cell BK629.out 0).trans rfl, (blk_cell BK629.out 1).trans rfl, (blk_cell BK629.out 2).trans rfl, (blk_cell BK629.out 3).trans rfl, (blk_cell BK629.out 4).trans rfl⟩ (fun hHeld => ?_)
                         clear hK K
                         refine norm_ (a' := ?_) ?_ ?_
                         rotate_left
                         ·show Act.put _ (some 96) _ = _
                          simp only [Act.put, List.setIfInBounds_toArray, List.set_cons_zero, List.set_cons_succ, i64_w, i32_w]
                          rfl
                         exact norm_ (by first | (simp only [putAll, Act.put, List.setIfInBounds_toArray, List.set_cons_zero, List.set_cons_succ]; done) | (simp only [putAll, Act.put, List.setIfInBounds_toArray, List.set_cons_zero, List.set_cons_succ]; rfl)) (hJ0_2_4 (v644, v647, v650) _ ⟨hHeld, (by (with_reducible repeat (first | apply Kd.R_alloc | apply Kd.R_drewN | apply Kd.R_drew)); exact HO648.out), (by (with_reducible repeat (first | apply Kd.R_alloc | apply Kd.R_drewN | apply Kd.R_drew)); exact Kd.R_mono HO651.out (fun _ hk => ⟨hk.2, hk.1⟩)), (by (with_reducible repeat (first | refine blk_drewN ?_ _ | refine blk_drew ?_ | refine blk_alloc ?_ _)); exact BK629.out), (by (with_reducible repeat (first | refine blk_drewN ?_ _ | refine blk_drew ?_ | refine blk_alloc ?_ _)); exact BK635.out), (by repeat (first | (with_reducible first | exact HB.out | apply below_alloc | apply pw_below_drewN | apply below_drew1 | refine below_set ?_ GE629.out | refine below_set ?_ GE635.out) | exact HB.out))⟩)
                        ·skip
                         refine box_step ?hg (N := 15) ?hd (cs := #[.int .i64 0, .int .i64 0]) (t := 23) ?hr ?_; (case hd => rfl); (case hg => rfl); (case hr => first | (go_simp; done) | (go_simp; rfl))
                         intro gb658 hg w45 hbox hb
                         have n0_ := Aside0.mk (Kd.R_below (by (with_reducible repeat (first | apply Kd.R_alloc | apply Kd.R_drewN | apply Kd.R_drew)); exact HO645.out) hb)
                         have n1_ := Aside0.mk (Kd.R_below (by (with_reducible repeat (first | apply Kd.R_alloc | apply Kd.R_drewN | apply Kd.R_drew)); exact HO651.out) hb)
                         have n2_ := Aside0.mk (blk_below (g := gb629) (o := .cells #[.int .i64 a1_0, .int .i64 a1_1, .int .i64 a1_2, .int .i64 a1_3, .int .i64 a1_4] 39 (0, 0)) (by (with_reducible repeat (first | refine blk_drewN ?_ _ | refine blk_drew ?_ | refine blk_alloc ?_ _)); exact BK629.out) hb)
                         have n3_ := Aside0.mk (blk_below (g := gb635) (o := .cells #[.int .i64 t632, .int .i64 t633] 23 (0, 0)) (by (with_reducible repeat (first | refine blk_drewN ?_ _ | refine blk_drew ?_ | refine blk_alloc ?_ _)); exact BK635.out) hb)
                         have n4_ := Aside0.mk (below_step (by repeat (first | (with_reducible first | exact HB.out | apply below_alloc | apply pw_below_drewN | apply below_drew1 | refine below_set ?_ GE629.out | refine below_set ?_ GE635.out) | exact HB.out)) hb)
                         have n5_ := Aside0.mk (hbox)
                         have n6_ := Aside0.mk ((by rw [hg]; exact (below_size (by repeat (first | (with_reducible first | exact HB.out | apply below_alloc | apply pw_below_drewN | apply below_drew1 | refine below_set ?_ GE629.out | refine below_set ?_ GE635.out) | exact HB.out))) : w.heap.size ≤ gb658))
                         have n7_ := Aside0.mk ((by rw [hg]; exact (below_size (by repeat (first | (with_reducible first | exact HB.out | apply below_alloc | apply pw_below_drewN | apply below_drew1 | refine below_set ?_ GE629.out | refine below_set ?_ GE635.out) | exact HB.out))) : w.heap.size ≤ gb658))
                         have n8_ := Aside0.mk ((by rw [hg]; exact Nat.ne_of_lt (blk_lt (g := gb629) (o := .cells #[.int .i64 a1_0, .int .i64 a1_1, .int .i64 a1_2, .int .i64 a1_3, .int .i64 a1_4] 39 (0, 0)) (by (with_reducible repeat (first | refine blk_drewN ?_ _ | refine blk_drew ?_ | refine blk_alloc ?_ _)); exact BK629.out)) : gb629 ≠ gb658))
                         have n9_ := Aside0.mk ((by rw [hg]; exact Nat.ne_of_gt (blk_lt (g := gb629) (o := .cells #[.int .i64 a1_0, .int .i64 a1_1, .int .i64 a1_2, .int .i64 a1_3, .int .i64 a1_4] 39 (0, 0)) (by (with_reducible repeat (first | refine blk_drewN ?_ _ | refine blk_drew ?_ | refine blk_alloc ?_ _)); exact BK629.out)) : gb658 ≠ gb629))
                         have n10_ := Aside0.mk ((by rw [hg]; exact Nat.ne_of_lt (blk_lt (g := gb635) (o := .cells #[.int .i64 t632, .int .i64 t633] 23 (0, 0)) (by (with_reducible repeat (first | refine blk_drewN ?_ _ | refine blk_drew ?_ | refine blk_alloc ?_ _)); exact BK635.out)) : gb635 ≠ gb658))
                         have n11_ := Aside0.mk ((by rw [hg]; exact Nat.ne_of_gt (blk_lt (g := gb635) (o := .cells #[.int .i64 t632, .int .i64 t633] 23 (0, 0)) (by (with_reducible repeat (first | refine blk_drewN ?_ _ | refine blk_drew ?_ | refine blk_alloc ?_ _)); exact BK635.out)) : gb658 ≠ gb635))
                         clear HO645
                         clear HO651
                         clear BK629
                         clear BK635
                         clear HB
                         have HO645 := n0_
                         have HO651 := n1_
                         have BK629 := n2_
                         have BK635 := n3_
                         have HB := n4_
                         have BK658 := n5_
                         have GW658 := n6_
                         have GE658 := n7_
                         have NB629_658 := n8_
                         have NB658_629 := n9_
                         have NB635_658 := n10_
                         have NB658_635 := n11_
                         clear n0_ n1_ n2_ n3_ n4_ n5_ n6_ n7_ n8_ n9_ n10_ n11_
                         clear hb hbox hg
                         refine hK.out _ _ ⟨(blk_cell BK629.out 0).trans rfl, (blk_cell BK629.out 1).trans rfl, (blk_cell BK629.out 2).trans rfl, (blk_cell BK629.out 3).trans rfl, (blk_cell BK629.out 4).trans rfl⟩ (fun hHeld => ?_)
                         clear hK K
                         refine norm_ (a' := ?_) ?_ ?_
                         rotate_left
                         ·show Act.put _ (some 15) _ = _
                          simp only [Act.put, List.setIfInBounds_toArray, List.set_cons_zero, List.set_cons_succ, i64_w, i32_w]
                          rfl
                         exact norm_ (by first | (simp only [putAll, Act.put, List.setIfInBounds_toArray, List.set_cons_zero, List.set_cons_succ]; done) | (simp only [putAll, Act.put, List.setIfInBounds_toArray, List.set_cons_zero, List.set_cons_succ]; rfl)) (hJ0_4_10 (v644, v650, gb658) _ ⟨hHeld, (by (with_reducible repeat (first | apply Kd.R_alloc | apply Kd.R_drewN | apply Kd.R_drew)); exact HO645.out), (by (with_reducible repeat (first | apply Kd.R_alloc | apply Kd.R_drewN | apply Kd.R_drew)); exact HO651.out), (by (with_reducible repeat (first | refine blk_drewN ?_ _ | refine blk_drew ?_ | refine blk_alloc ?_ _)); exact BK629.out), (by (with_reducible repeat (first | refine blk_drewN ?_ _ | refine blk_drew ?_ | refine blk_alloc ?_ _)); exact BK635.out), (by (with_reducible repeat (first | refine blk_drewN ?_ _ | refine blk_drew ?_ | refine blk_alloc ?_ _)); exact BK658.out), GW658.out, GE658.out, NB629_658.out, NB658_629.out, NB635_658.out, NB658_635.out, (by repeat (first | (with_reducible first | exact HB.out | apply below_alloc | apply pw_below_drewN | apply below_drew1 | refine below_set ?_ GE629.out | refine below_set ?_ GE635.out | refine below_set ?_ GE658.out) | exact HB.out))⟩)
                      ·skip
                       rintro ⟨v644, v647⟩ w43 ⟨hS_, h0_, h1_, h2_, h3_⟩
                       have n0_ : Aside0 (Kd.R k39 39 w43 w.heap.size (fun k_ => k_ ≠ gb629) v647 y646) := ⟨h0_⟩
                       have n1_ : Aside0 (w43.heap[gb629]? = some (.cells #[.int .i64 a1_0, .int .i64 a1_1, .int .i64 a1_2, .int .i64 a1_3, .int .i64 a1_4] 39 (0, 0))) := ⟨h1_⟩
                       have n2_ : Aside0 (w43.heap[gb635]? = some (.cells #[.int .i64 t632, .int .i64 t633] 23 (0, 0))) := ⟨h2_⟩
                       have n3_ : Aside0 (Below w.heap.size w w43) := ⟨h3_⟩
                       clear BK629
                       clear BK635
                       clear HB
                       clear h0_ h1_ h2_ h3_
                       have HO648 := n0_
                       have BK629 := n1_
                       have BK635 := n2_
                       have HB := n3_
                       clear n0_ n1_ n2_ n3_
                       have hHeld : w43.cell? ⟨gb629, 0, none⟩ = some (.int .i64 a1_0) ∧ w43.cell? ⟨gb629, 1, none⟩ = some (.int .i64 a1_1) ∧ w43.cell? ⟨gb629, 2, none⟩ = some (.int .i64 a1_2) ∧ w43.cell? ⟨gb629, 3, none⟩ = some (.int .i64 a1_3) ∧ w43.cell? ⟨gb629, 4, none⟩ = some (.int .i64 a1_4) := hS_
                       refine norm_ (a' := ?_) ?_ ?_
                       rotate_left
                       ·simp only [putAll, Act.put, List.setIfInBounds_toArray, List.set_cons_zero, List.set_cons_succ]
                        rfl
                       refine two_ (i := 4) (j := 10) (Ni := some 98) (Nj := some 15) #[true, true, true, true, true, false, false, false, false, false, false, false, false] #[true, true, true, true, false, false, false, false, false, false, true, false, false] rfl rfl rfl rfl (two_of HT_.out (by kernel_rfl)) (by decide) (by decide) (fun K hK => ?_) (fun K hK => ?_)
                       ·skip
                        refine Kd.R_lit_step k39 _ 39 ?hg (N := 98) ?hd (xs := ([(⟨a1_0, a1_1, a1_2, a1_3, a1_4⟩ : S39)] : List (S39))) (inner := [.int .i64 a1_0, .int .i64 a1_1, .int .i64 a1_2, .int .i64 a1_3, .int .i64 a1_4]) (ok := fun _ => True) (okp := fun _ => True) ?hr ?hp (fun _ hk => hk) trivial (Below.refl _ _) (Nat.le_refl _) (by simp) ?_; (case hd => rfl); (case hg => rfl); (case hr => first | (go_simp; done) | (go_simp; rfl)); (case hp => exact (Reps.c5 (show Kd.M k39 _ _ _ (⟨a1_0, a1_1, a1_2, a1_3, a1_4⟩ : S39) [.int .i64 a1_0, .int .i64 a1_1, .int .i64 a1_2, .int .i64 a1_3, .int .i64 a1_4] from (k39_mkM _ _ _ (⟨a1_0, a1_1, a1_2, a1_3, a1_4⟩ : S39) )) (Reps.none _ _)))
                        intro v650 w44 ho45 hb hg_ hnew_
                        clear hg_ hnew_
                        (first | rw [← Ny649.out] at ho45 | (simp only [Int.reduceToNat] at ho45; rw [← Ny649.out] at ho45))
                        have n0_ := Aside0.mk (Kd.R_elder' (by (with_reducible repeat (first | apply Kd.R_alloc | apply Kd.R_drewN | apply Kd.R_drew)); exact HO648.out) (Kd.R_base ho45) hb)
                        have n1_ := Aside0.mk (Kd.R_lower (Kd.R_newB (Kd.R_new' ho45 (Kd.R_lt (by (with_reducible repeat (first | apply Kd.R_alloc | apply Kd.R_drewN | apply Kd.R_drew)); exact HO648.out))) (g := gb629) (o := .cells #[.int .i64 a1_0, .int .i64 a1_1, .int .i64 a1_2, .int .i64 a1_3, .int .i64 a1_4] 39 (0, 0)) (by (with_reducible repeat (first | refine blk_drewN ?_ _ | refine blk_drew ?_ | refine blk_alloc ?_ _)); exact BK629.out)) (below_size (by repeat (first | (with_reducible first | exact HB.out | apply below_alloc | apply pw_below_drewN | apply below_drew1 | refine below_set ?_ GE629.out | refine below_set ?_ GE635.out) | exact HB.out))))
                        have n2_ := Aside0.mk (blk_below (g := gb629) (o := .cells #[.int .i64 a1_0, .int .i64 a1_1, .int .i64 a1_2, .int .i64 a1_3, .int .i64 a1_4] 39 (0, 0)) (by (with_reducible repeat (first | refine blk_drewN ?_ _ | refine blk_drew ?_ | refine blk_alloc ?_ _)); exact BK629.out) hb)
                        have n3_ := Aside0.mk (blk_below (g := gb635) (o := .cells #[.int .i64 t632, .int .i64 t633] 23 (0, 0)) (by (with_reducible repeat (first | refine blk_drewN ?_ _ | refine blk_drew ?_ | refine blk_alloc ?_ _)); exact BK635.out) hb)
                        have n4_ := Aside0.mk (below_step (by repeat (first | (with_reducible first | exact HB.out | apply below_alloc | apply pw_below_drewN | apply below_drew1 | refine below_set ?_ GE629.out | refine below_set ?_ GE635.out) | exact HB.out)) hb)
                        clear HO648
                        clear BK629
                        clear BK635
                        clear HB
                        have HO648 := n0_
                        have HO651 := n1_
                        have BK629 := n2_
                        have BK635 := n3_
                        have HB := n4_
                        clear n0_ n1_ n2_ n3_ n4_
                        clear hb ho45
                        refine hK.out _ _ ⟨(blk_cell BK629.out 0).trans rfl, (blk_cell BK629.out 1).trans rfl, (blk_cell BK629.out 2).trans rfl, (blk_cell BK629.out 3).trans rfl, (blk_cell BK629.out 4).trans rfl⟩ (fun hHeld => ?_)
                        clear hK K
                        refine norm_ (a' := ?_) ?_ ?_
                        rotate_left
                        ·show Act.put _ (some 98) _ = _
                         simp only [Act.put, List.setIfInBounds_toArray, List.set_cons_zero, List.set_cons_succ, i64_w, i32_w]
                         rfl
                        exact norm_ (by first | (simp only [putAll, Act.put, List.setIfInBounds_toArray, List.set_cons_zero, List.set_cons_succ]; done) | (simp only [putAll, Act.put, List.setIfInBounds_toArray, List.set_cons_zero, List.set_cons_succ]; rfl)) (hJ0_2_4 (v644, v647, v650) _ ⟨hHeld, (by (with_reducible repeat (first | apply Kd.R_alloc | apply Kd.R_drewN | apply Kd.R_drew)); exact Kd.R_mono HO648.out (fun _ hk => ⟨hk.2, hk.1⟩)), (by (with_reducible repeat (first | apply Kd.R_alloc | apply Kd.R_drewN | apply Kd.R_drew)); exact Kd.R_mono HO651.out (fun _ hk => ⟨hk.1.2, hk.2⟩)), (by (with_reducible repeat (first | refine blk_drewN ?_ _ | refine blk_drew ?_ | refine blk_alloc ?_ _)); exact BK629.out), (by (with_reducible repeat (first | refine blk_drewN ?_ _ | refine blk_drew ?_ | refine blk_alloc ?_ _)); exact BK635.out), (by repeat (first | (with_reducible first | exact HB.out | apply below_alloc | apply pw_below_drewN | apply below_drew1 | refine below_set ?_ GE629.out | refine below_set ?_ GE635.out) | exact HB.out))⟩)
                       ·skip
                        refine box_step ?hg (N := 15) ?hd (cs := #[.int .i64 0, .int .i64 0]) (t := 23) ?hr ?_; (case hd => rfl); (case hg => rfl); (case hr => first | (go_simp; done) | (go_simp; rfl))
                        intro gb658 hg w44 hbox hb
                        have n0_ := Aside0.mk (Kd.R_below (by (with_reducible repeat (first | apply Kd.R_alloc | apply Kd.R_drewN | apply Kd.R_drew)); exact HO648.out) hb)
                        have n1_ := Aside0.mk (blk_below (g := gb629) (o := .cells #[.int .i64 a1_0, .int .i64 a1_1, .int .i64 a1_2, .int .i64 a1_3, .int .i64 a1_4] 39 (0, 0)) (by (with_reducible repeat (first | refine blk_drewN ?_ _ | refine blk_drew ?_ | refine blk_alloc ?_ _)); exact BK629.out) hb)
                        have n2_ := Aside0.mk (blk_below (g := gb635) (o := .cells #[.int .i64 t632, .int .i64 t633] 23 (0, 0)) (by (with_reducible repeat (first | refine blk_drewN ?_ _ | refine blk_drew ?_ | refine blk_alloc ?_ _)); exact BK635.out) hb)
                        have n3_ := Aside0.mk (below_step (by repeat (first | (with_reducible first | exact HB.out | apply below_alloc | apply pw_below_drewN | apply below_drew1 | refine below_set ?_ GE629.out | refine below_set ?_ GE635.out) | exact HB.out)) hb)
                        have n4_ := Aside0.mk (hbox)
                        have n5_ := Aside0.mk ((by rw [hg]; exact (below_size (by repeat (first | (with_reducible first | exact HB.out | apply below_alloc | apply pw_below_drewN | apply below_drew1 | refine below_set ?_ GE629.out | refine below_set ?_ GE635.out) | exact HB.out))) : w.heap.size ≤ gb658))
                        have n6_ := Aside0.mk ((by rw [hg]; exact (below_size (by repeat (first | (with_reducible first | exact HB.out | apply below_alloc | apply pw_below_drewN | apply below_drew1 | refine below_set ?_ GE629.out | refine below_set ?_ GE635.out) | exact HB.out))) : w.heap.size ≤ gb658))
                        have n7_ := Aside0.mk ((by rw [hg]; exact Nat.ne_of_lt (blk_lt (g := gb629) (o := .cells #[.int .i64 a1_0, .int .i64 a1_1, .int .i64 a1_2, .int .i64 a1_3, .int .i64 a1_4] 39 (0, 0)) (by (with_reducible repeat (first | refine blk_drewN ?_ _ | refine blk_drew ?_ | refine blk_alloc ?_ _)); exact BK629.out)) : gb629 ≠ gb658))
                        have n8_ := Aside0.mk ((by rw [hg]; exact Nat.ne_of_gt (blk_lt (g := gb629) (o := .cells #[.int .i64 a1_0, .int .i64 a1_1, .int .i64 a1_2, .int .i64 a1_3, .int .i64 a1_4] 39 (0, 0)) (by (with_reducible repeat (first | refine blk_drewN ?_ _ | refine blk_drew ?_ | refine blk_alloc ?_ _)); exact BK629.out)) : gb658 ≠ gb629))
                        have n9_ := Aside0.mk ((by rw [hg]; exact Nat.ne_of_lt (blk_lt (g := gb635) (o := .cells #[.int .i64 t632, .int .i64 t633] 23 (0, 0)) (by (with_reducible repeat (first | refine blk_drewN ?_ _ | refine blk_drew ?_ | refine blk_alloc ?_ _)); exact BK635.out)) : gb635 ≠ gb658))
                        have n10_ := Aside0.mk ((by rw [hg]; exact Nat.ne_of_gt (blk_lt (g := gb635) (o := .cells #[.int .i64 t632, .int .i64 t633] 23 (0, 0)) (by (with_reducible repeat (first | refine blk_drewN ?_ _ | refine blk_drew ?_ | refine blk_alloc ?_ _)); exact BK635.out)) : gb658 ≠ gb635))
                        clear HO648
                        clear BK629
                        clear BK635
                        clear HB
                        have HO648 := n0_
                        have BK629 := n1_
                        have BK635 := n2_
                        have HB := n3_
                        have BK658 := n4_
                        have GW658 := n5_
                        have GE658 := n6_
                        have NB629_658 := n7_
                        have NB658_629 := n8_
                        have NB635_658 := n9_
                        have NB658_635 := n10_
                        clear n0_ n1_ n2_ n3_ n4_ n5_ n6_ n7_ n8_ n9_ n10_
                        clear hb hbox hg
                        refine hK.out _ _ ⟨(blk_cell BK629.out 0).trans rfl, (blk_cell BK629.out 1).trans rfl, (blk_cell BK629.out 2).trans rfl, (blk_cell BK629.out 3).trans rfl, (blk_cell BK629.out 4).trans rfl⟩ (fun hHeld => ?_)
                        clear hK K
                        refine norm_ (a' := ?_) ?_ ?_
                        rotate_left
                        ·show Act.put _ (some 15) _ = _
                         simp only [Act.put, List.setIfInBounds_toArray, List.set_cons_zero, List.set_cons_succ, i64_w, i32_w]
                         rfl
                        exact norm_ (by first | (simp only [putAll, Act.put, List.setIfInBounds_toArray, List.set_cons_zero, List.set_cons_succ]; done) | (simp only [putAll, Act.put, List.setIfInBounds_toArray, List.set_cons_zero, List.set_cons_succ]; rfl)) (hJ0_2_10 (v644, v647, gb658) _ ⟨hHeld, (by (with_reducible repeat (first | apply Kd.R_alloc | apply Kd.R_drewN | apply Kd.R_drew)); exact HO648.out), (by (with_reducible repeat (first | refine blk_drewN ?_ _ | refine blk_drew ?_ | refine blk_alloc ?_ _)); exact BK629.out), (by (with_reducible repeat (first | refine blk_drewN ?_ _ | refine blk_drew ?_ | refine blk_alloc ?_ _)); exact BK635.out), (by (with_reducible repeat (first | refine blk_drewN ?_ _ | refine blk_drew ?_ | refine blk_alloc ?_ _)); exact BK658.out), GW658.out, GE658.out, NB629_658.out, NB658_629.out, NB635_658.out, NB658_635.out, (by repeat (first | (with_reducible first | exact HB.out | apply below_alloc | apply pw_below_drewN | apply below_drew1 | refine below_set ?_ GE629.out | refine below_set ?_ GE635.out | refine below_set ?_ GE658.out) | exact HB.out))⟩)
                     ·skip
                      rintro ⟨v644, v650, gb658⟩ w45 ⟨hS_, h0_, h1_, h2_, h3_, h4_, h5_, h6_, h7_, h8_, h9_, h10_, h11_⟩
                      have n0_ : Aside0 (Kd.R k39 39 w45 w.heap.size (fun k_ => some k_ ≠ (v650 : Value).ownBlock ∧ k_ ≠ gb629) v644 y643) := ⟨h0_⟩
                      have n1_ : Aside0 (Kd.R k39 39 w45 w.heap.size (fun k_ => some k_ ≠ (v644 : Value).ownBlock ∧ k_ ≠ gb629) v650 y649) := ⟨h1_⟩
                      have n2_ : Aside0 (w45.heap[gb629]? = some (.cells #[.int .i64 a1_0, .int .i64 a1_1, .int .i64 a1_2, .int .i64 a1_3, .int .i64 a1_4] 39 (0, 0))) := ⟨h2_⟩
                      have n3_ : Aside0 (w45.heap[gb635]? = some (.cells #[.int .i64 t632, .int .i64 t633] 23 (0, 0))) := ⟨h3_⟩
                      have n4_ : Aside0 (w45.heap[gb658]? = some (.cells #[.int .i64 0, .int .i64 0] 23 (0, 0))) := ⟨h4_⟩
                      have n5_ : Aside0 (w.heap.size ≤ gb658) := ⟨h5_⟩
                      have n6_ : Aside0 (w.heap.size ≤ gb658) := ⟨h6_⟩
                      have n7_ : Aside0 (gb629 ≠ gb658) := ⟨h7_⟩
                      have n8_ : Aside0 (gb658 ≠ gb629) := ⟨h8_⟩
                      have n9_ : Aside0 (gb635 ≠ gb658) := ⟨h9_⟩
                      have n10_ : Aside0 (gb658 ≠ gb635) := ⟨h10_⟩
                      have n11_ : Aside0 (Below w.heap.size w w45) := ⟨h11_⟩
                      clear BK629
                      clear BK635
                      clear HB
                      clear h0_ h1_ h2_ h3_ h4_ h5_ h6_ h7_ h8_ h9_ h10_ h11_
                      have HO645 := n0_
                      have HO651 := n1_
                      have BK629 := n2_
                      have BK635 := n3_
                      have BK658 := n4_
                      have GW658 := n5_
                      have GE658 := n6_
                      have NB629_658 := n7_
                      have NB658_629 := n8_
                      have NB635_658 := n9_
                      have NB658_635 := n10_
                      have HB := n11_
                      clear n0_ n1_ n2_ n3_ n4_ n5_ n6_ n7_ n8_ n9_ n10_ n11_
                      have hHeld : w45.cell? ⟨gb629, 0, none⟩ = some (.int .i64 a1_0) ∧ w45.cell? ⟨gb629, 1, none⟩ = some (.int .i64 a1_1) ∧ w45.cell? ⟨gb629, 2, none⟩ = some (.int .i64 a1_2) ∧ w45.cell? ⟨gb629, 3, none⟩ = some (.int .i64 a1_3) ∧ w45.cell? ⟨gb629, 4, none⟩ = some (.int .i64 a1_4) := hS_
                      refine norm_ (a' := ?_) ?_ ?_
                      rotate_left
                      ·simp only [putAll, Act.put, List.setIfInBounds_toArray, List.set_cons_zero, List.set_cons_succ]
                       rfl
                      refine one_ (i := 2) (N := some 96) #[true, true, true, true, true, false, false, false, false, false, true, false, false] rfl rfl (one_of HT_.out (by kernel_rfl)) (by decide) (fun K hK => ?_)
                      refine Kd.R_append_rows_step k39 (w0 := w) w.heap.size (by rfl) (.tmp 94) (.tmp 95) 37 39 (.agg #[(.int .i64 0), (.int .i64 0), (.int .i64 0), (.int .i64 0), (.int .i64 0)]) 40 rfl Try.underlying37 info39 rfl (by decide) (by omega) v644 y643 l0 _ _ _ (fun k_ => some k_ ≠ (v650 : Value).ownBlock ∧ k_ ≠ gb629) (fun _ => False) rfl rfl ?aO ?aR (fun _ _ h => h) (fun _ h => h.elim) ?aF ?aB ?aS ?aL ?_
                      (case aR => repeat (first | exact (Kd.C_below HR0.out HB.out) | (with_reducible refine Kd.C_alloc ?_ _) | (with_reducible refine Kd.C_drewN ?_ _) | (with_reducible refine Kd.C_drew ?_)))
                      (case aB => exact (by repeat (first | (with_reducible first | exact HB.out | apply below_alloc | apply pw_below_drewN | apply below_drew1 | refine below_set ?_ GE629.out | refine below_set ?_ GE635.out | refine below_set ?_ GE658.out) | exact HB.out)))
                      (case aF => exact (fun k_ hk => ⟨Kd.fresh' (Kd.R_lt (by (with_reducible repeat (first | apply Kd.R_alloc | apply Kd.R_drewN | apply Kd.R_drew)); exact HO651.out)) k_ hk, Kd.freshB (g := gb629) (o := .cells #[.int .i64 a1_0, .int .i64 a1_1, .int .i64 a1_2, .int .i64 a1_3, .int .i64 a1_4] 39 (0, 0)) (by (with_reducible repeat (first | refine blk_drewN ?_ _ | refine blk_drew ?_ | refine blk_alloc ?_ _)); exact BK629.out) k_ hk⟩))
                      (case aO => exact (by (with_reducible repeat (first | apply Kd.R_alloc | apply Kd.R_drewN | apply Kd.R_drew)); exact HO645.out))
                      (case aS => exact (below_size (by repeat (first | (with_reducible first | exact HB.out | apply below_alloc | apply pw_below_drewN | apply below_drew1 | refine below_set ?_ GE629.out | refine below_set ?_ GE635.out | refine below_set ?_ GE658.out) | exact HB.out))))
                      (case aL => have := LMc34.out; omega)
                      intro v647 w46 ho hb hg hat
                      rw [← Ny646.out] at ho
                      have n0_ := Aside0.mk (blk_grown (g := gb629) (o := .cells #[.int .i64 a1_0, .int .i64 a1_1, .int .i64 a1_2, .int .i64 a1_3, .int .i64 a1_4] 39 (0, 0)) (by (with_reducible repeat (first | refine blk_drewN ?_ _ | refine blk_drew ?_ | refine blk_alloc ?_ _)); exact BK629.out) hg (Kd.R_away HO645.out (fun _ hk => hk.2)))
                      have n1_ := Aside0.mk (blk_grown (g := gb635) (o := .cells #[.int .i64 t632, .int .i64 t633] 23 (0, 0)) (by (with_reducible repeat (first | refine blk_drewN ?_ _ | refine blk_drew ?_ | refine blk_alloc ?_ _)); exact BK635.out) hg (Kd.R_ne HO645.out BK635.out (by decide)))
                      have n2_ := Aside0.mk (Kd.R_after (ok := (fun k_ => k_ ≠ gb629)) (by (with_reducible repeat (first | apply Kd.R_alloc | apply Kd.R_drewN | apply Kd.R_drew)); exact Kd.R_mono HO651.out (fun _ hk => ⟨hk.2, hk.1⟩)) hg hat)
                      have n3_ := Aside0.mk (blk_grown (g := gb658) (o := .cells #[.int .i64 0, .int .i64 0] 23 (0, 0)) (by (with_reducible repeat (first | refine blk_drewN ?_ _ | refine blk_drew ?_ | refine blk_alloc ?_ _)); exact BK658.out) hg (Kd.R_ne HO645.out BK658.out (by decide)))
                      have n4_ := Aside0.mk (hb)
                      have n5_ := Aside0.mk (ho)
                      clear BK629
                      clear BK635
                      clear HO651
                      clear BK658
                      clear HB
                      clear HO645
                      have BK629 := n0_
                      have BK635 := n1_
                      have HO651 := n2_
                      have BK658 := n3_
                      have HB := n4_
                      have HO648 := n5_
                      clear n0_ n1_ n2_ n3_ n4_ n5_
                      clear ho hb hg hat
                      refine hK.out _ _ ⟨(blk_cell BK629.out 0).trans rfl, (blk_cell BK629.out 1).trans rfl, (blk_cell BK629.out 2).trans rfl, (blk_cell BK629.out 3).trans rfl, (blk_cell BK629.out 4).trans rfl⟩ (fun hHeld => ?_)
                      clear hK K
                      refine norm_ (a' := ?_) ?_ ?_
                      rotate_left
                      ·show Act.put _ (some 96) _ = _
                       simp only [Act.put, List.setIfInBounds_toArray, List.set_cons_zero, List.set_cons_succ, i64_w, i32_w]
                       rfl
                      exact norm_ (by first | (simp only [putAll, Act.put, List.setIfInBounds_toArray, List.set_cons_zero, List.set_cons_succ]; done) | (simp only [putAll, Act.put, List.setIfInBounds_toArray, List.set_cons_zero, List.set_cons_succ]; rfl)) (hJ0_2_4_10 (v644, v647, v650, gb658) _ ⟨hHeld, (by (with_reducible repeat (first | apply Kd.R_alloc | apply Kd.R_drewN | apply Kd.R_drew)); exact HO648.out), (by (with_reducible repeat (first | apply Kd.R_alloc | apply Kd.R_drewN | apply Kd.R_drew)); exact Kd.R_mono HO651.out (fun _ hk => ⟨hk.2, hk.1⟩)), (by (with_reducible repeat (first | refine blk_drewN ?_ _ | refine blk_drew ?_ | refine blk_alloc ?_ _)); exact BK629.out), (by (with_reducible repeat (first | refine blk_drewN ?_ _ | refine blk_drew ?_ | refine blk_alloc ?_ _)); exact BK635.out), (by (with_reducible repeat (first | refine blk_drewN ?_ _ | refine blk_drew ?_ | refine blk_alloc ?_ _)); exact BK658.out), GW658.out, GE658.out, NB629_658.out, NB658_629.out, NB635_658.out, NB658_635.out, (by repeat (first | (with_reducible first | exact HB.out | apply below_alloc | apply pw_below_drewN | apply below_drew1 | refine below_set ?_ GE629.out | refine below_set ?_ GE635.out | refine below_set ?_ GE658.out) | exact HB.out))⟩)
                    ·skip
                     rintro ⟨v644, v647, gb658⟩ w44 ⟨hS_, h0_, h1_, h2_, h3_, h4_, h5_, h6_, h7_, h8_, h9_, h10_⟩
                     have n0_ : Aside0 (Kd.R k39 39 w44 w.heap.size (fun k_ => k_ ≠ gb629) v647 y646) := ⟨h0_⟩
                     have n1_ : Aside0 (w44.heap[gb629]? = some (.cells #[.int .i64 a1_0, .int .i64 a1_1, .int .i64 a1_2, .int .i64 a1_3, .int .i64 a1_4] 39 (0, 0))) := ⟨h1_⟩
                     have n2_ : Aside0 (w44.heap[gb635]? = some (.cells #[.int .i64 t632, .int .i64 t633] 23 (0, 0))) := ⟨h2_⟩
                     have n3_ : Aside0 (w44.heap[gb658]? = some (.cells #[.int .i64 0, .int .i64 0] 23 (0, 0))) := ⟨h3_⟩
                     have n4_ : Aside0 (w.heap.size ≤ gb658) := ⟨h4_⟩
                     have n5_ : Aside0 (w.heap.size ≤ gb658) := ⟨h5_⟩
                     have n6_ : Aside0 (gb629 ≠ gb658) := ⟨h6_⟩
                     have n7_ : Aside0 (gb658 ≠ gb629) := ⟨h7_⟩
                     have n8_ : Aside0 (gb635 ≠ gb658) := ⟨h8_⟩
                     have n9_ : Aside0 (gb658 ≠ gb635) := ⟨h9_⟩
                     have n10_ : Aside0 (Below w.heap.size w w44) := ⟨h10_⟩
                     clear BK629
                     clear BK635
                     clear HB
                     clear h0_ h1_ h2_ h3_ h4_ h5_ h6_ h7_ h8_ h9_ h10_
                     have HO648 := n0_
                     have BK629 := n1_
                     have BK635 := n2_
                     have BK658 := n3_
                     have GW658 := n4_
                     have GE658 := n5_
                     have NB629_658 := n6_
                     have NB658_629 := n7_
                     have NB635_658 := n8_
                     have NB658_635 := n9_
                     have HB := n10_
                     clear n0_ n1_ n2_ n3_ n4_ n5_ n6_ n7_ n8_ n9_ n10_
                     have hHeld : w44.cell? ⟨gb629, 0, none⟩ = some (.int .i64 a1_0) ∧ w44.cell? ⟨gb629, 1, none⟩ = some (.int .i64 a1_1) ∧ w44.cell? ⟨gb629, 2, none⟩ = some (.int .i64 a1_2) ∧ w44.cell? ⟨gb629, 3, none⟩ = some (.int .i64 a1_3) ∧ w44.cell? ⟨gb629, 4, none⟩ = some (.int .i64 a1_4) := hS_
                     refine norm_ (a' := ?_) ?_ ?_
                     rotate_left
                     ·simp only [putAll, Act.put, List.setIfInBounds_toArray, List.set_cons_zero, List.set_cons_succ]
                      rfl
                     refine one_ (i := 4) (N := some 98) #[true, true, true, true, true, false, false, false, false, false, true, false, false] rfl rfl (one_of HT_.out (by kernel_rfl)) (by decide) (fun K hK => ?_)
                     refine Kd.R_lit_step k39 _ 39 ?hg (N := 98) ?hd (xs := ([(⟨a1_0, a1_1, a1_2, a1_3, a1_4⟩ : S39)] : List (S39))) (inner := [.int .i64 a1_0, .int .i64 a1_1, .int .i64 a1_2, .int .i64 a1_3, .int .i64 a1_4]) (ok := fun _ => True) (okp := fun _ => True) ?hr ?hp (fun _ hk => hk) trivial (Below.refl _ _) (Nat.le_refl _) (by simp) ?_; (case hd => rfl); (case hg => rfl); (case hr => first | (go_simp; done) | (go_simp; rfl)); (case hp => exact (Reps.c5 (show Kd.M k39 _ _ _ (⟨a1_0, a1_1, a1_2, a1_3, a1_4⟩ : S39) [.int .i64 a1_0, .int .i64 a1_1, .int .i64 a1_2, .int .i64 a1_3, .int .i64 a1_4] from (k39_mkM _ _ _ (⟨a1_0, a1_1, a1_2, a1_3, a1_4⟩ : S39) )) (Reps.none _ _)))
                     intro v650 w45 ho46 hb hg_ hnew_
                     clear hg_ hnew_
                     (first | rw [← Ny649.out] at ho46 | (simp only [Int.reduceToNat] at ho46; rw [← Ny649.out] at ho46))
                     have n0_ := Aside0.mk (Kd.R_elder' (by (with_reducible repeat (first | apply Kd.R_alloc | apply Kd.R_drewN | apply Kd.R_drew)); exact HO648.out) (Kd.R_base ho46) hb)
                     have n1_ := Aside0.mk (Kd.R_lower (Kd.R_newB (Kd.R_new' ho46 (Kd.R_lt (by (with_reducible repeat (first | apply Kd.R_alloc | apply Kd.R_drewN | apply Kd.R_drew)); exact HO648.out))) (g := gb629) (o := .cells #[.int .i64 a1_0, .int .i64 a1_1, .int .i64 a1_2, .int .i64 a1_3, .int .i64 a1_4] 39 (0, 0)) (by (with_reducible repeat (first | refine blk_drewN ?_ _ | refine blk_drew ?_ | refine blk_alloc ?_ _)); exact BK629.out)) (below_size (by repeat (first | (with_reducible first | exact HB.out | apply below_alloc | apply pw_below_drewN | apply below_drew1 | refine below_set ?_ GE629.out | refine below_set ?_ GE635.out | refine below_set ?_ GE658.out) | exact HB.out))))
                     have n2_ := Aside0.mk (blk_below (g := gb629) (o := .cells #[.int .i64 a1_0, .int .i64 a1_1, .int .i64 a1_2, .int .i64 a1_3, .int .i64 a1_4] 39 (0, 0)) (by (with_reducible repeat (first | refine blk_drewN ?_ _ | refine blk_drew ?_ | refine blk_alloc ?_ _)); exact BK629.out) hb)
                     have n3_ := Aside0.mk (blk_below (g := gb635) (o := .cells #[.int .i64 t632, .int .i64 t633] 23 (0, 0)) (by (with_reducible repeat (first | refine blk_drewN ?_ _ | refine blk_drew ?_ | refine blk_alloc ?_ _)); exact BK635.out) hb)
                     have n4_ := Aside0.mk (blk_below (g := gb658) (o := .cells #[.int .i64 0, .int .i64 0] 23 (0, 0)) (by (with_reducible repeat (first | refine blk_drewN ?_ _ | refine blk_drew ?_ | refine blk_alloc ?_ _)); exact BK658.out) hb)
                     have n5_ := Aside0.mk (below_step (by repeat (first | (with_reducible first | exact HB.out | apply below_alloc | apply pw_below_drewN | apply below_drew1 | refine below_set ?_ GE629.out | refine below_set ?_ GE635.out | refine below_set ?_ GE658.out) | exact HB.out)) hb)
                     clear HO648
                     clear BK629
                     clear BK635
                     clear BK658
                     clear HB
                     have HO648 := n0_
                     have HO651 := n1_
                     have BK629 := n2_
                     have BK635 := n3_
                     have BK658 := n4_
                     have HB := n5_
                     clear n0_ n1_ n2_ n3_ n4_ n5_
                     clear hb ho46
                     refine hK.out _ _ ⟨(blk_cell BK629.out 0).trans rfl, (blk_cell BK629.out 1).trans rfl, (blk_cell BK629.out 2).trans rfl, (blk_cell BK629.out 3).trans rfl, (blk_cell BK629.out 4).trans rfl⟩ (fun hHeld => ?_)
                     clear hK K
                     refine norm_ (a' := ?_) ?_ ?_
                     rotate_left
                     ·show Act.put _ (some 98) _ = _
                      simp only [Act.put, List.setIfInBounds_toArray, List.set_cons_zero, List.set_cons_succ, i64_w, i32_w]
                      rfl
                     exact norm_ (by first | (simp only [putAll, Act.put, List.setIfInBounds_toArray, List.set_cons_zero, List.set_cons_succ]; done) | (simp only [putAll, Act.put, List.setIfInBounds_toArray, List.set_cons_zero, List.set_cons_succ]; rfl)) (hJ0_2_4_10 (v644, v647, v650, gb658) _ ⟨hHeld, (by (with_reducible repeat (first | apply Kd.R_alloc | apply Kd.R_drewN | apply Kd.R_drew)); exact Kd.R_mono HO648.out (fun _ hk => ⟨hk.2, hk.1⟩)), (by (with_reducible repeat (first | apply Kd.R_alloc | apply Kd.R_drewN | apply Kd.R_drew)); exact Kd.R_mono HO651.out (fun _ hk => ⟨hk.1.2, hk.2⟩)), (by (with_reducible repeat (first | refine blk_drewN ?_ _ | refine blk_drew ?_ | refine blk_alloc ?_ _)); exact BK629.out), (by (with_reducible repeat (first | refine blk_drewN ?_ _ | refine blk_drew ?_ | refine blk_alloc ?_ _)); exact BK635.out), (by (with_reducible repeat (first | refine blk_drewN ?_ _ | refine blk_drew ?_ | refine blk_alloc ?_ _)); exact BK658.out), GW658.out, GE658.out, NB629_658.out, NB658_629.out, NB635_658.out, NB658_635.out, (by repeat (first | (with_reducible first | exact HB.out | apply below_alloc | apply pw_below_drewN | apply below_drew1 | refine below_set ?_ GE629.out | refine below_set ?_ GE635.out | refine below_set ?_ GE658.out) | exact HB.out))⟩)
                   ·skip
                    rintro ⟨v644, v647, v650⟩ w45 ⟨hS_, h0_, h1_, h2_, h3_, h4_⟩
                    have n0_ : Aside0 (Kd.R k39 39 w45 w.heap.size (fun k_ => some k_ ≠ (v650 : Value).ownBlock ∧ k_ ≠ gb629) v647 y646) := ⟨h0_⟩
                    have n1_ : Aside0 (Kd.R k39 39 w45 w.heap.size (fun k_ => some k_ ≠ (v647 : Value).ownBlock ∧ k_ ≠ gb629) v650 y649) := ⟨h1_⟩
                    have n2_ : Aside0 (w45.heap[gb629]? = some (.cells #[.int .i64 a1_0, .int .i64 a1_1, .int .i64 a1_2, .int .i64 a1_3, .int .i64 a1_4] 39 (0, 0))) := ⟨h2_⟩
                    have n3_ : Aside0 (w45.heap[gb635]? = some (.cells #[.int .i64 t632, .int .i64 t633] 23 (0, 0))) := ⟨h3_⟩
                    have n4_ : Aside0 (Below w.heap.size w w45) := ⟨h4_⟩
                    clear BK629
                    clear BK635
                    clear HB
                    clear h0_ h1_ h2_ h3_ h4_
                    have HO648 := n0_
                    have HO651 := n1_
                    have BK629 := n2_
                    have BK635 := n3_
                    have HB := n4_
                    clear n0_ n1_ n2_ n3_ n4_
                    have hHeld : w45.cell? ⟨gb629, 0, none⟩ = some (.int .i64 a1_0) ∧ w45.cell? ⟨gb629, 1, none⟩ = some (.int .i64 a1_1) ∧ w45.cell? ⟨gb629, 2, none⟩ = some (.int .i64 a1_2) ∧ w45.cell? ⟨gb629, 3, none⟩ = some (.int .i64 a1_3) ∧ w45.cell? ⟨gb629, 4, none⟩ = some (.int .i64 a1_4) := hS_
                    obtain ⟨Ao47, co47, eo47⟩ := Kd.R_slice HO651.out
                    (first | subst eo47 | (injection eo47 with f1_ f2_ f3_; have f4_ := f1_.symm; have f5_ := f3_.symm; clear f1_ f2_ f3_; subst f4_; subst f5_))
                    refine norm_ (a' := ?_) ?_ ?_
                    rotate_left
                    ·simp only [putAll, Act.put, List.setIfInBounds_toArray, List.set_cons_zero, List.set_cons_succ]
                     rfl
                    refine two_ (i := 5) (j := 10) (Ni := some 99) (Nj := some 15) #[true, true, true, true, true, true, false, false, false, false, false, false, false] #[true, true, true, true, true, false, false, false, false, false, true, false, false] rfl rfl rfl rfl (two_of HT_.out (by kernel_rfl)) (by decide) (by decide) (fun K hK => ?_) (fun K hK => ?_)
                    ·skip
                     refine Kd.R_append_rows_step k39 (w0 := w) w.heap.size (by rfl) (.tmp 96) (.tmp 98) 37 39 (.agg #[(.int .i64 0), (.int .i64 0), (.int .i64 0), (.int .i64 0), (.int .i64 0)]) 40 rfl Try.underlying37 info39 rfl (by decide) (by omega) v647 y646 y649 _ _ _ (fun k_ => some k_ ≠ (.slice Ao47 y649.length co47 : Value).ownBlock ∧ k_ ≠ gb629) (fun _ => False) rfl rfl ?aO ?aR (fun _ _ h => h) (fun _ h => h.elim) ?aF ?aB ?aS ?aL ?_
                     (case aR => repeat (first | exact (Kd.R_reads' HO651.out).2.2 | (with_reducible refine Kd.C_alloc ?_ _) | (with_reducible refine Kd.C_drewN ?_ _) | (with_reducible refine Kd.C_drew ?_)))
                     (case aB => exact (by repeat (first | (with_reducible first | exact HB.out | apply below_alloc | apply pw_below_drewN | apply below_drew1 | refine below_set ?_ GE629.out | refine below_set ?_ GE635.out) | exact HB.out)))
                     (case aF => exact (fun k_ hk => ⟨Kd.fresh' (Kd.R_lt (by (with_reducible repeat (first | apply Kd.R_alloc | apply Kd.R_drewN | apply Kd.R_drew)); exact HO651.out)) k_ hk, Kd.freshB (g := gb629) (o := .cells #[.int .i64 a1_0, .int .i64 a1_1, .int .i64 a1_2, .int .i64 a1_3, .int .i64 a1_4] 39 (0, 0)) (by (with_reducible repeat (first | refine blk_drewN ?_ _ | refine blk_drew ?_ | refine blk_alloc ?_ _)); exact BK629.out) k_ hk⟩))
                     (case aO => exact (by (with_reducible repeat (first | apply Kd.R_alloc | apply Kd.R_drewN | apply Kd.R_drew)); exact HO648.out))
                     (case aS => exact (below_size (by repeat (first | (with_reducible first | exact HB.out | apply below_alloc | apply pw_below_drewN | apply below_drew1 | refine below_set ?_ GE629.out | refine below_set ?_ GE635.out) | exact HB.out))))
                     (case aL => have := LMc35.out; omega)
                     intro v653 w46 ho hb hg hat
                     rw [← Ny652.out] at ho
                     have n0_ := Aside0.mk (blk_grown (g := gb629) (o := .cells #[.int .i64 a1_0, .int .i64 a1_1, .int .i64 a1_2, .int .i64 a1_3, .int .i64 a1_4] 39 (0, 0)) (by (with_reducible repeat (first | refine blk_drewN ?_ _ | refine blk_drew ?_ | refine blk_alloc ?_ _)); exact BK629.out) hg (Kd.R_away HO648.out (fun _ hk => hk.2)))
                     have n1_ := Aside0.mk (blk_grown (g := gb635) (o := .cells #[.int .i64 t632, .int .i64 t633] 23 (0, 0)) (by (with_reducible repeat (first | refine blk_drewN ?_ _ | refine blk_drew ?_ | refine blk_alloc ?_ _)); exact BK635.out) hg (Kd.R_ne HO648.out BK635.out (by decide)))
                     have n2_ := Aside0.mk (Kd.R_after (ok := (fun k_ => k_ ≠ gb629)) (by (with_reducible repeat (first | apply Kd.R_alloc | apply Kd.R_drewN | apply Kd.R_drew)); exact Kd.R_mono HO651.out (fun _ hk => ⟨hk.2, hk.1⟩)) hg hat)
                     have n3_ := Aside0.mk (hb)
                     have n4_ := Aside0.mk (ho)
                     clear BK629
                     clear BK635
                     clear HO651
                     clear HB
                     clear HO648
                     have BK629 := n0_
                     have BK635 := n1_
                     have HO651 := n2_
                     have HB := n3_
                     have HO654 := n4_
                     clear n0_ n1_ n2_ n3_ n4_
                     clear ho hb hg hat
                     refine hK.out _ _ ⟨(blk_cell BK629.out 0).trans rfl, (blk_cell BK629.out 1).trans rfl, (blk_cell BK629.out 2).trans rfl, (blk_cell BK629.out 3).trans rfl, (blk_cell BK629.out 4).trans rfl⟩ (fun hHeld => ?_)
                     clear hK K
                     refine norm_ (a' := ?_) ?_ ?_
                     rotate_left
                     ·show Act.put _ (some 99) _ = _
                      simp only [Act.put, List.setIfInBounds_toArray, List.set_cons_zero, List.set_cons_succ, i64_w, i32_w]
                      rfl
                     exact norm_ (by first | (simp only [putAll, Act.put, List.setIfInBounds_toArray, List.set_cons_zero, List.set_cons_succ]; done) | (simp only [putAll, Act.put, List.setIfInBounds_toArray, List.set_cons_zero, List.set_cons_succ]; rfl)) (hJ0_2_4_5 (v644, v647, .slice Ao47 y649.length co47, v653) _ ⟨hHeld, (by (with_reducible repeat (first | apply Kd.R_alloc | apply Kd.R_drewN | apply Kd.R_drew)); exact Kd.R_mono HO651.out (fun _ hk => ⟨hk.2, hk.1⟩)), (by (with_reducible repeat (first | apply Kd.R_alloc | apply Kd.R_drewN | apply Kd.R_drew)); exact HO654.out), (by (with_reducible repeat (first | refine blk_drewN ?_ _ | refine blk_drew ?_ | refine blk_alloc ?_ _)); exact BK629.out), (by (with_reducible repeat (first | refine blk_drewN ?_ _ | refine blk_drew ?_ | refine blk_alloc ?_ _)); exact BK635.out), (by repeat (first | (with_reducible first | exact HB.out | apply below_alloc | apply pw_below_drewN | apply below_drew1 | refine below_set ?_ GE629.out | refine below_set ?_ GE635.out) | exact HB.out))⟩)
                    ·skip
                     refine box_step ?hg (N := 15) ?hd (cs := #[.int .i64 0, .int .i64 0]) (t := 23) ?hr ?_; (case hd => rfl); (case hg => rfl); (case hr => first | (go_simp; done) | (go_simp; rfl))
                     intro gb658 hg w46 hbox hb
                     have n0_ := Aside0.mk (Kd.R_below (by (with_reducible repeat (first | apply Kd.R_alloc | apply Kd.R_drewN | apply Kd.R_drew)); exact HO648.out) hb)
                     have n1_ := Aside0.mk (Kd.R_below (by (with_reducible repeat (first | apply Kd.R_alloc | apply Kd.R_drewN | apply Kd.R_drew)); exact HO651.out) hb)
                     have n2_ := Aside0.mk (blk_below (g := gb629) (o := .cells #[.int .i64 a1_0, .int .i64 a1_1, .int .i64 a1_2, .int .i64 a1_3, .int .i64 a1_4] 39 (0, 0)) (by (with_reducible repeat (first | refine blk_drewN ?_ _ | refine blk_drew ?_ | refine blk_alloc ?_ _)); exact BK629.out) hb)
                     have n3_ := Aside0.mk (blk_below (g := gb635) (o := .cells #[.int .i64 t632, .int .i64 t633] 23 (0, 0)) (by (with_reducible repeat (first | refine blk_drewN ?_ _ | refine blk_drew ?_ | refine blk_alloc ?_ _)); exact BK635.out) hb)
                     have n4_ := Aside0.mk (below_step (by repeat (first | (with_reducible first | exact HB.out | apply below_alloc | apply pw_below_drewN | apply below_drew1 | refine below_set ?_ GE629.out | refine below_set ?_ GE635.out) | exact HB.out)) hb)
                     have n5_ := Aside0.mk (hbox)
                     have n6_ := Aside0.mk ((by rw [hg]; exact (below_size (by repeat (first | (with_reducible first | exact HB.out | apply below_alloc | apply pw_below_drewN | apply below_drew1 | refine below_set ?_ GE629.out | refine below_set ?_ GE635.out) | exact HB.out))) : w.heap.size ≤ gb658))
                     have n7_ := Aside0.mk ((by rw [hg]; exact (below_size (by repeat (first | (with_reducible first | exact HB.out | apply below_alloc | apply pw_below_drewN | apply below_drew1 | refine below_set ?_ GE629.out | refine below_set ?_ GE635.out) | exact HB.out))) : w.heap.size ≤ gb658))
                     have n8_ := Aside0.mk ((by rw [hg]; exact Nat.ne_of_lt (blk_lt (g := gb629) (o := .cells #[.int .i64 a1_0, .int .i64 a1_1, .int .i64 a1_2, .int .i64 a1_3, .int .i64 a1_4] 39 (0, 0)) (by (with_reducible repeat (first | refine blk_drewN ?_ _ | refine blk_drew ?_ | refine blk_alloc ?_ _)); exact BK629.out)) : gb629 ≠ gb658))
                     have n9_ := Aside0.mk ((by rw [hg]; exact Nat.ne_of_gt (blk_lt (g := gb629) (o := .cells #[.int .i64 a1_0, .int .i64 a1_1, .int .i64 a1_2, .int .i64 a1_3, .int .i64 a1_4] 39 (0, 0)) (by (with_reducible repeat (first | refine blk_drewN ?_ _ | refine blk_drew ?_ | refine blk_alloc ?_ _)); exact BK629.out)) : gb658 ≠ gb629))
                     have n10_ := Aside0.mk ((by rw [hg]; exact Nat.ne_of_lt (blk_lt (g := gb635) (o := .cells #[.int .i64 t632, .int .i64 t633] 23 (0, 0)) (by (with_reducible repeat (first | refine blk_drewN ?_ _ | refine blk_drew ?_ | refine blk_alloc ?_ _)); exact BK635.out)) : gb635 ≠ gb658))
                     have n11_ := Aside0.mk ((by rw [hg]; exact Nat.ne_of_gt (blk_lt (g := gb635) (o := .cells #[.int .i64 t632, .int .i64 t633] 23 (0, 0)) (by (with_reducible repeat (first | refine blk_drewN ?_ _ | refine blk_drew ?_ | refine blk_alloc ?_ _)); exact BK635.out)) : gb658 ≠ gb635))
                     clear HO648
                     clear HO651
                     clear BK629
                     clear BK635
                     clear HB
                     have HO648 := n0_
                     have HO651 := n1_
                     have BK629 := n2_
                     have BK635 := n3_
                     have HB := n4_
                     have BK658 := n5_
                     have GW658 := n6_
                     have GE658 := n7_
                     have NB629_658 := n8_
                     have NB658_629 := n9_
                     have NB635_658 := n10_
                     have NB658_635 := n11_
                     clear n0_ n1_ n2_ n3_ n4_ n5_ n6_ n7_ n8_ n9_ n10_ n11_
                     clear hb hbox hg
                     refine hK.out _ _ ⟨(blk_cell BK629.out 0).trans rfl, (blk_cell BK629.out 1).trans rfl, (blk_cell BK629.out 2).trans rfl, (blk_cell BK629.out 3).trans rfl, (blk_cell BK629.out 4).trans rfl⟩ (fun hHeld => ?_)
                     clear hK K
                     refine norm_ (a' := ?_) ?_ ?_
                     rotate_left
                     ·show Act.put _ (some 15) _ = _
                      simp only [Act.put, List.setIfInBounds_toArray, List.set_cons_zero, List.set_cons_succ, i64_w, i32_w]
                      rfl
                     exact norm_ (by first | (simp only [putAll, Act.put, List.setIfInBounds_toArray, List.set_cons_zero, List.set_cons_succ]; done) | (simp only [putAll, Act.put, List.setIfInBounds_toArray, List.set_cons_zero, List.set_cons_succ]; rfl)) (hJ0_2_4_10 (v644, v647, .slice Ao47 y649.length co47, gb658) _ ⟨hHeld, (by (with_reducible repeat (first | apply Kd.R_alloc | apply Kd.R_drewN | apply Kd.R_drew)); exact HO648.out), (by (with_reducible repeat (first | apply Kd.R_alloc | apply Kd.R_drewN | apply Kd.R_drew)); exact HO651.out), (by (with_reducible repeat (first | refine blk_drewN ?_ _ | refine blk_drew ?_ | refine blk_alloc ?_ _)); exact BK629.out), (by (with_reducible repeat (first | refine blk_drewN ?_ _ | refine blk_drew ?_ | refine blk_alloc ?_ _)); exact BK635.out), (by (with_reducible repeat (first | refine blk_drewN ?_ _ | refine blk_drew ?_ | refine blk_alloc ?_ _)); exact BK658.out), GW658.out, GE658.out, NB629_658.out, NB658_629.out, NB635_658.out, NB658_635.out, (by repeat (first | (with_reducible first | exact HB.out | apply below_alloc | apply pw_below_drewN | apply below_drew1 | refine below_set ?_ GE629.out | refine below_set ?_ GE635.out | refine below_set ?_ GE658.out) | exact HB.out))⟩)
                  ·skip
                   rintro ⟨v644, v647, v650, gb658⟩ w46 ⟨hS_, h0_, h1_, h2_, h3_, h4_, h5_, h6_, h7_, h8_, h9_, h10_, h11_⟩
                   have n0_ : Aside0 (Kd.R k39 39 w46 w.heap.size (fun k_ => some k_ ≠ (v650 : Value).ownBlock ∧ k_ ≠ gb629) v647 y646) := ⟨h0_⟩
                   have n1_ : Aside0 (Kd.R k39 39 w46 w.heap.size (fun k_ => some k_ ≠ (v647 : Value).ownBlock ∧ k_ ≠ gb629) v650 y649) := ⟨h1_⟩
                   have n2_ : Aside0 (w46.heap[gb629]? = some (.cells #[.int .i64 a1_0, .int .i64 a1_1, .int .i64 a1_2, .int .i64 a1_3, .int .i64 a1_4] 39 (0, 0))) := ⟨h2_⟩
                   have n3_ : Aside0 (w46.heap[gb635]? = some (.cells #[.int .i64 t632, .int .i64 t633] 23 (0, 0))) := ⟨h3_⟩
                   have n4_ : Aside0 (w46.heap[gb658]? = some (.cells #[.int .i64 0, .int .i64 0] 23 (0, 0))) := ⟨h4_⟩
                   have n5_ : Aside0 (w.heap.size ≤ gb658) := ⟨h5_⟩
                   have n6_ : Aside0 (w.heap.size ≤ gb658) := ⟨h6_⟩
                   have n7_ : Aside0 (gb629 ≠ gb658) := ⟨h7_⟩
                   have n8_ : Aside0 (gb658 ≠ gb629) := ⟨h8_⟩
                   have n9_ : Aside0 (gb635 ≠ gb658) := ⟨h9_⟩
                   have n10_ : Aside0 (gb658 ≠ gb635) := ⟨h10_⟩
                   have n11_ : Aside0 (Below w.heap.size w w46) := ⟨h11_⟩
                   clear BK629
                   clear BK635
                   clear HB
                   clear h0_ h1_ h2_ h3_ h4_ h5_ h6_ h7_ h8_ h9_ h10_ h11_
                   have HO648 := n0_
                   have HO651 := n1_
                   have BK629 := n2_
                   have BK635 := n3_
                   have BK658 := n4_
                   have GW658 := n5_
                   have GE658 := n6_
                   have NB629_658 := n7_
                   have NB658_629 := n8_
                   have NB635_658 := n9_
                   have NB658_635 := n10_
                   have HB := n11_
                   clear n0_ n1_ n2_ n3_ n4_ n5_ n6_ n7_ n8_ n9_ n10_ n11_
                   have hHeld : w46.cell? ⟨gb629, 0, none⟩ = some (.int .i64 a1_0) ∧ w46.cell? ⟨gb629, 1, none⟩ = some (.int .i64 a1_1) ∧ w46.cell? ⟨gb629, 2, none⟩ = some (.int .i64 a1_2) ∧ w46.cell? ⟨gb629, 3, none⟩ = some (.int .i64 a1_3) ∧ w46.cell? ⟨gb629, 4, none⟩ = some (.int .i64 a1_4) := hS_
                   obtain ⟨Ao48, co48, eo48⟩ := Kd.R_slice HO651.out
                   (first | subst eo48 | (injection eo48 with f1_ f2_ f3_; have f4_ := f1_.symm; have f5_ := f3_.symm; clear f1_ f2_ f3_; subst f4_; subst f5_))
                   refine norm_ (a' := ?_) ?_ ?_
                   rotate_left
                   ·simp only [putAll, Act.put, List.setIfInBounds_toArray, List.set_cons_zero, List.set_cons_succ]
                    rfl
                   refine one_ (i := 5) (N := some 99) #[true, true, true, true, true, true, false, false, false, false, true, false, false] rfl rfl (one_of HT_.out (by kernel_rfl)) (by decide) (fun K hK => ?_)
                   refine Kd.R_append_rows_step k39 (w0 := w) w.heap.size (by rfl) (.tmp 96) (.tmp 98) 37 39 (.agg #[(.int .i64 0), (.int .i64 0), (.int .i64 0), (.int .i64 0), (.int .i64 0)]) 40 rfl Try.underlying37 info39 rfl (by decide) (by omega) v647 y646 y649 _ _ _ (fun k_ => some k_ ≠ (.slice Ao48 y649.length co48 : Value).ownBlock ∧ k_ ≠ gb629) (fun _ => False) rfl rfl ?aO ?aR (fun _ _ h => h) (fun _ h => h.elim) ?aF ?aB ?aS ?aL ?_
                   (case aR => repeat (first | exact (Kd.R_reads' HO651.out).2.2 | (with_reducible refine Kd.C_alloc ?_ _) | (with_reducible refine Kd.C_drewN ?_ _) | (with_reducible refine Kd.C_drew ?_)))
                   (case aB => exact (by repeat (first | (with_reducible first | exact HB.out | apply below_alloc | apply pw_below_drewN | apply below_drew1 | refine below_set ?_ GE629.out | refine below_set ?_ GE635.out | refine below_set ?_ GE658.out) | exact HB.out)))
                   (case aF => exact (fun k_ hk => ⟨Kd.fresh' (Kd.R_lt (by (with_reducible repeat (first | apply Kd.R_alloc | apply Kd.R_drewN | apply Kd.R_drew)); exact HO651.out)) k_ hk, Kd.freshB (g := gb629) (o := .cells #[.int .i64 a1_0, .int .i64 a1_1, .int .i64 a1_2, .int .i64 a1_3, .int .i64 a1_4] 39 (0, 0)) (by (with_reducible repeat (first | refine blk_drewN ?_ _ | refine blk_drew ?_ | refine blk_alloc ?_ _)); exact BK629.out) k_ hk⟩))
                   (case aO => exact (by (with_reducible repeat (first | apply Kd.R_alloc | apply Kd.R_drewN | apply Kd.R_drew)); exact HO648.out))
                   (case aS => exact (below_size (by repeat (first | (with_reducible first | exact HB.out | apply below_alloc | apply pw_below_drewN | apply below_drew1 | refine below_set ?_ GE629.out | refine below_set ?_ GE635.out | refine below_set ?_ GE658.out) | exact HB.out))))
                   (case aL => have := LMc35.out; omega)
                   intro v653 w47 ho hb hg hat
                   rw [← Ny652.out] at ho
                   have n0_ := Aside0.mk (blk_grown (g := gb629) (o := .cells #[.int .i64 a1_0, .int .i64 a1_1, .int .i64 a1_2, .int .i64 a1_3, .int .i64 a1_4] 39 (0, 0)) (by (with_reducible repeat (first | refine blk_drewN ?_ _ | refine blk_drew ?_ | refine blk_alloc ?_ _)); exact BK629.out) hg (Kd.R_away HO648.out (fun _ hk => hk.2)))
                   have n1_ := Aside0.mk (blk_grown (g := gb635) (o := .cells #[.int .i64 t632, .int .i64 t633] 23 (0, 0)) (by (with_reducible repeat (first | refine blk_drewN ?_ _ | refine blk_drew ?_ | refine blk_alloc ?_ _)); exact BK635.out) hg (Kd.R_ne HO648.out BK635.out (by decide)))
                   have n2_ := Aside0.mk (Kd.R_after (ok := (fun k_ => k_ ≠ gb629)) (by (with_reducible repeat (first | apply Kd.R_alloc | apply Kd.R_drewN | apply Kd.R_drew)); exact Kd.R_mono HO651.out (fun _ hk => ⟨hk.2, hk.1⟩)) hg hat)
                   have n3_ := Aside0.mk (blk_grown (g := gb658) (o := .cells #[.int .i64 0, .int .i64 0] 23 (0, 0)) (by (with_reducible repeat (first | refine blk_drewN ?_ _ | refine blk_drew ?_ | refine blk_alloc ?_ _)); exact BK658.out) hg (Kd.R_ne HO648.out BK658.out (by decide)))
                   have n4_ := Aside0.mk (hb)
                   have n5_ := Aside0.mk (ho)
                   clear BK629
                   clear BK635
                   clear HO651
                   clear BK658
                   clear HB
                   clear HO648
                   have BK629 := n0_
                   have BK635 := n1_
                   have HO651 := n2_
                   have BK658 := n3_
                   have HB := n4_
                   have HO654 := n5_
                   clear n0_ n1_ n2_ n3_ n4_ n5_
                   clear ho hb hg hat
                   refine hK.out _ _ ⟨(blk_cell BK629.out 0).trans rfl, (blk_cell BK629.out 1).trans rfl, (blk_cell BK629.out 2).trans rfl, (blk_cell BK629.out 3).trans rfl, (blk_cell BK629.out 4).trans rfl⟩ (fun hHeld => ?_)
                   clear hK K
                   refine norm_ (a' := ?_) ?_ ?_
                   rotate_left
                   ·show Act.put _ (some 99) _ = _
                    simp only [Act.put, List.setIfInBounds_toArray, List.set_cons_zero, List.set_cons_succ, i64_w, i32_w]
                    rfl
                   exact norm_ (by first | (simp only [putAll, Act.put, List.setIfInBounds_toArray, List.set_cons_zero, List.set_cons_succ]; done) | (simp only [putAll, Act.put, List.setIfInBounds_toArray, List.set_cons_zero, List.set_cons_succ]; rfl)) (hJ0_2_4_5_10 (v644, v647, .slice Ao48 y649.length co48, v653, gb658) _ ⟨hHeld, (by (with_reducible repeat (first | apply Kd.R_alloc | apply Kd.R_drewN | apply Kd.R_drew)); exact Kd.R_mono HO651.out (fun _ hk => ⟨hk.2, hk.1⟩)), (by (with_reducible repeat (first | apply Kd.R_alloc | apply Kd.R_drewN | apply Kd.R_drew)); exact HO654.out), (by (with_reducible repeat (first | refine blk_drewN ?_ _ | refine blk_drew ?_ | refine blk_alloc ?_ _)); exact BK629.out), (by (with_reducible repeat (first | refine blk_drewN ?_ _ | refine blk_drew ?_ | refine blk_alloc ?_ _)); exact BK635.out), (by (with_reducible repeat (first | refine blk_drewN ?_ _ | refine blk_drew ?_ | refine blk_alloc ?_ _)); exact BK658.out), GW658.out, GE658.out, NB629_658.out, NB658_629.out, NB635_658.out, NB658_635.out, (by repeat (first | (with_reducible first | exact HB.out | apply below_alloc | apply pw_below_drewN | apply below_drew1 | refine below_set ?_ GE629.out | refine below_set ?_ GE635.out | refine below_set ?_ GE658.out) | exact HB.out))⟩)
                 ·skip
                  rintro ⟨v644, v647, v650, v653⟩ w47 ⟨hS_, h0_, h1_, h2_, h3_, h4_⟩
                  have n0_ : Aside0 (Kd.R k39 39 w47 w.heap.size (fun k_ => some k_ ≠ (v653 : Value).ownBlock ∧ k_ ≠ gb629) v650 y649) := ⟨h0_⟩
                  have n1_ : Aside0 (Kd.R k39 39 w47 w.heap.size (fun k_ => some k_ ≠ (v650 : Value).ownBlock ∧ k_ ≠ gb629) v653 y652) := ⟨h1_⟩
                  have n2_ : Aside0 (w47.heap[gb629]? = some (.cells #[.int .i64 a1_0, .int .i64 a1_1, .int .i64 a1_2, .int .i64 a1_3, .int .i64 a1_4] 39 (0, 0))) := ⟨h2_⟩
                  have n3_ : Aside0 (w47.heap[gb635]? = some (.cells #[.int .i64 t632, .int .i64 t633] 23 (0, 0))) := ⟨h3_⟩
                  have n4_ : Aside0 (Below w.heap.size w w47) := ⟨h4_⟩
                  clear BK629
                  clear BK635
                  clear HB
                  clear h0_ h1_ h2_ h3_ h4_
                  have HO651 := n0_
                  have HO654 := n1_
                  have BK629 := n2_
                  have BK635 := n3_
                  have HB := n4_
                  clear n0_ n1_ n2_ n3_ n4_
                  have hHeld : w47.cell? ⟨gb629, 0, none⟩ = some (.int .i64 a1_0) ∧ w47.cell? ⟨gb629, 1, none⟩ = some (.int .i64 a1_1) ∧ w47.cell? ⟨gb629, 2, none⟩ = some (.int .i64 a1_2) ∧ w47.cell? ⟨gb629, 3, none⟩ = some (.int .i64 a1_3) ∧ w47.cell? ⟨gb629, 4, none⟩ = some (.int .i64 a1_4) := hS_
                  obtain ⟨Ao48, co48, eo48⟩ := Kd.R_slice HO654.out
                  (first | subst eo48 | (injection eo48 with f1_ f2_ f3_; have f4_ := f1_.symm; have f5_ := f3_.symm; clear f1_ f2_ f3_; subst f4_; subst f5_))
                  refine norm_ (a' := ?_) ?_ ?_
                  rotate_left
                  ·simp only [putAll, Act.put, List.setIfInBounds_toArray, List.set_cons_zero, List.set_cons_succ]
                   rfl
                  refine two_ (i := 6) (j := 10) (Ni := some 100) (Nj := some 15) #[true, true, true, true, true, true, true, false, false, false, false, false, false] #[true, true, true, true, true, true, false, false, false, false, true, false, false] rfl rfl rfl rfl (two_of HT_.out (by kernel_rfl)) (by decide) (by decide) (fun K hK => ?_) (fun K hK => ?_)
                  ·skip
                   refine goes_ Try.func33 (by kernel_rfl) rfl #[.slice Ao48 y652.length co48] (by rfl) rfl rfl (by (try simp only [List.map_toArray, List.map_cons, List.map_nil]); first | done | rfl | (simp only [List.length_drop, List.length_take]; rfl)) ?_
                   with_reducible refine (average_MeanC.calls _ _ y652 t655 t656 t657 _ ?side1 ?side2 A36.out).mono ?_
                   (case side1 => repeat (first | exact (Kd.R_reads' HO654.out).2.2 | (with_reducible refine Kd.C_alloc ?_ _) | (with_reducible refine Kd.C_drewN ?_ _) | (with_reducible refine Kd.C_drew ?_)))
                   (case side2 => exact (Kd.R_reads' HO654.out).2.1)
                   rintro e w49 ⟨rfl, hb⟩
                   refine ⟨_, rfl, ?_⟩
                   have n0_ := Aside0.mk (Kd.R_below (by (with_reducible repeat (first | apply Kd.R_alloc | apply Kd.R_drewN | apply Kd.R_drew)); exact HO651.out) hb)
                   have n1_ := Aside0.mk (Kd.R_below (by (with_reducible repeat (first | apply Kd.R_alloc | apply Kd.R_drewN | apply Kd.R_drew)); exact HO654.out) hb)
                   have n2_ := Aside0.mk (blk_below (g := gb629) (o := .cells #[.int .i64 a1_0, .int .i64 a1_1, .int .i64 a1_2, .int .i64 a1_3, .int .i64 a1_4] 39 (0, 0)) (by (with_reducible repeat (first | refine blk_drewN ?_ _ | refine blk_drew ?_ | refine blk_alloc ?_ _)); exact BK629.out) hb)
                   have n3_ := Aside0.mk (blk_below (g := gb635) (o := .cells #[.int .i64 t632, .int .i64 t633] 23 (0, 0)) (by (with_reducible repeat (first | refine blk_drewN ?_ _ | refine blk_drew ?_ | refine blk_alloc ?_ _)); exact BK635.out) hb)
                   have n4_ := Aside0.mk (below_step (by repeat (first | (with_reducible first | exact HB.out | apply below_alloc | apply pw_below_drewN | apply below_drew1 | refine below_set ?_ GE629.out | refine below_set ?_ GE635.out) | exact HB.out)) hb)
                   clear HO651
                   clear HO654
                   clear BK629
                   clear BK635
                   clear HB
                   have HO651 := n0_
                   have HO654 := n1_
                   have BK629 := n2_
                   have BK635 := n3_
                   have HB := n4_
                   clear n0_ n1_ n2_ n3_ n4_
                   (try clear hb)
                   (try clear hb2)
                   (try clear hk)
                   (try clear hi)
                   refine hK.out _ _ ⟨(blk_cell BK629.out 0).trans rfl, (blk_cell BK629.out 1).trans rfl, (blk_cell BK629.out 2).trans rfl, (blk_cell BK629.out 3).trans rfl, (blk_cell BK629.out 4).trans rfl⟩ (fun hHeld => ?_)
                   clear hK K
                   refine norm_ (a' := ?_) ?_ ?_
                   rotate_left
                   ·show Act.put _ (some 100) _ = _
                    simp only [Act.put, List.setIfInBounds_toArray, List.set_cons_zero, List.set_cons_succ, i64_w, i32_w]
                    rfl
                   refine pure_ (i := 7) (N := some 93) (v := ?_) (a' := ?_) #[true, true, true, true, true, true, true, true, false, false, false, false, false] rfl rfl (any_of HT_.out (by kernel_rfl)) (fun _ _ _ h => h) (Or.inl ⟨by rfl, ?_⟩) ?_ ?_
                   rotate_left
                   ·intro w'
                    go_simp
                    with_reducible rfl
                   rotate_left
                   ·simp only [Act.put, List.setIfInBounds_toArray, List.set_cons_zero, List.set_cons_succ, i64_w, i32_w]
                    rfl
                   refine pure_ (i := 8) (N := some 101) (v := ?_) (a' := ?_) #[true, true, true, true, true, true, true, true, true, false, false, false, false] rfl rfl (any_of HT_.out (by kernel_rfl)) (fun _ _ _ h => h) (Or.inl ⟨by rfl, ?_⟩) ?_ ?_
                   rotate_left
                   ·intro w'
                    go_simp
                    with_reducible rfl
                   rotate_left
                   ·simp only [Act.put, List.setIfInBounds_toArray, List.set_cons_zero, List.set_cons_succ, i64_w, i32_w]
                    rfl
                   refine pure_ (i := 9) (N := some 102) (v := ?_) (a' := ?_) #[true, true, true, true, true, true, true, true, true, true, false, false, false] rfl rfl (any_of HT_.out (by kernel_rfl)) (fun _ _ _ h => h) (Or.inl ⟨by rfl, ?_⟩) ?_ ?_
                   rotate_left
                   ·intro w'
                    go_simp
                    with_reducible rfl
                   rotate_left
                   ·simp only [Act.put, List.setIfInBounds_toArray, List.set_cons_zero, List.set_cons_succ, i64_w, i32_w]
                    rfl
                   exact norm_ (by first | (simp only [putAll, Act.put, List.setIfInBounds_toArray, List.set_cons_zero, List.set_cons_succ]; done) | (simp only [putAll, Act.put, List.setIfInBounds_toArray, List.set_cons_zero, List.set_cons_succ]; rfl)) (hJ0_2_4_5_6 (v644, v647, v650, .slice Ao48 y652.length co48) _ ⟨hHeld, (by (with_reducible repeat (first | apply Kd.R_alloc | apply Kd.R_drewN | apply Kd.R_drew)); exact HO651.out), (by (with_reducible repeat (first | apply Kd.R_alloc | apply Kd.R_drewN | apply Kd.R_drew)); exact HO654.out), (by (with_reducible repeat (first | refine blk_drewN ?_ _ | refine blk_drew ?_ | refine blk_alloc ?_ _)); exact BK629.out), (by (with_reducible repeat (first | refine blk_drewN ?_ _ | refine blk_drew ?_ | refine blk_alloc ?_ _)); exact BK635.out), (by repeat (first | (with_reducible first | exact HB.out | apply below_alloc | apply pw_below_drewN | apply below_drew1 | refine below_set ?_ GE629.out | refine below_set ?_ GE635.out) | exact HB.out))⟩)
                  ·skip
                   refine box_step ?hg (N := 15) ?hd (cs := #[.int .i64 0, .int .i64 0]) (t := 23) ?hr ?_; (case hd => rfl); (case hg => rfl); (case hr => first | (go_simp; done) | (go_simp; rfl))
                   intro gb658 hg w48 hbox hb
                   have n0_ := Aside0.mk (Kd.R_below (by (with_reducible repeat (first | apply Kd.R_alloc | apply Kd.R_drewN | apply Kd.R_drew)); exact HO651.out) hb)
                   have n1_ := Aside0.mk (Kd.R_below (by (with_reducible repeat (first | apply Kd.R_alloc | apply Kd.R_drewN | apply Kd.R_drew)); exact HO654.out) hb)
                   have n2_ := Aside0.mk (blk_below (g := gb629) (o := .cells #[.int .i64 a1_0, .int .i64 a1_1, .int .i64 a1_2, .int .i64 a1_3, .int .i64 a1_4] 39 (0, 0)) (by (with_reducible repeat (first | refine blk_drewN ?_ _ | refine blk_drew ?_ | refine blk_alloc ?_ _)); exact BK629.out) hb)
                   have n3_ := Aside0.mk (blk_below (g := gb635) (o := .cells #[.int .i64 t632, .int .i64 t633] 23 (0, 0)) (by (with_reducible repeat (first | refine blk_drewN ?_ _ | refine blk_drew ?_ | refine blk_alloc ?_ _)); exact BK635.out) hb)
                   have n4_ := Aside0.mk (below_step (by repeat (first | (with_reducible first | exact HB.out | apply below_alloc | apply pw_below_drewN | apply below_drew1 | refine below_set ?_ GE629.out | refine below_set ?_ GE635.out) | exact HB.out)) hb)
                   have n5_ := Aside0.mk (hbox)
                   have n6_ := Aside0.mk ((by rw [hg]; exact (below_size (by repeat (first | (with_reducible first | exact HB.out | apply below_alloc | apply pw_below_drewN | apply below_drew1 | refine below_set ?_ GE629.out | refine below_set ?_ GE635.out) | exact HB.out))) : w.heap.size ≤ gb658))
                   have n7_ := Aside0.mk ((by rw [hg]; exact (below_size (by repeat (first | (with_reducible first | exact HB.out | apply below_alloc | apply pw_below_drewN | apply below_drew1 | refine below_set ?_ GE629.out | refine below_set ?_ GE635.out) | exact HB.out))) : w.heap.size ≤ gb658))
                   have n8_ := Aside0.mk ((by rw [hg]; exact Nat.ne_of_lt (blk_lt (g := gb629) (o := .cells #[.int .i64 a1_0, .int .i64 a1_1, .int .i64 a1_2, .int .i64 a1_3, .int .i64 a1_4] 39 (0, 0)) (by (with_reducible repeat (first | refine blk_drewN ?_ _ | refine blk_drew ?_ | refine blk_alloc ?_ _)); exact BK629.out)) : gb629 ≠ gb658))
                   have n9_ := Aside0.mk ((by rw [hg]; exact Nat.ne_of_gt (blk_lt (g := gb629) (o := .cells #[.int .i64 a1_0, .int .i64 a1_1, .int .i64 a1_2, .int .i64 a1_3, .int .i64 a1_4] 39 (0, 0)) (by (with_reducible repeat (first | refine blk_drewN ?_ _ | refine blk_drew ?_ | refine blk_alloc ?_ _)); exact BK629.out)) : gb658 ≠ gb629))
                   have n10_ := Aside0.mk ((by rw [hg]; exact Nat.ne_of_lt (blk_lt (g := gb635) (o := .cells #[.int .i64 t632, .int .i64 t633] 23 (0, 0)) (by (with_reducible repeat (first | refine blk_drewN ?_ _ | refine blk_drew ?_ | refine blk_alloc ?_ _)); exact BK635.out)) : gb635 ≠ gb658))
                   have n11_ := Aside0.mk ((by rw [hg]; exact Nat.ne_of_gt (blk_lt (g := gb635) (o := .cells #[.int .i64 t632, .int .i64 t633] 23 (0, 0)) (by (with_reducible repeat (first | refine blk_drewN ?_ _ | refine blk_drew ?_ | refine blk_alloc ?_ _)); exact BK635.out)) : gb658 ≠ gb635))
                   clear HO651
                   clear HO654
                   clear BK629
                   clear BK635
                   clear HB
                   have HO651 := n0_
                   have HO654 := n1_
                   have BK629 := n2_
                   have BK635 := n3_
                   have HB := n4_
                   have BK658 := n5_
                   have GW658 := n6_
                   have GE658 := n7_
                   have NB629_658 := n8_
                   have NB658_629 := n9_
                   have NB635_658 := n10_
                   have NB658_635 := n11_
                   clear n0_ n1_ n2_ n3_ n4_ n5_ n6_ n7_ n8_ n9_ n10_ n11_
                   clear hb hbox hg
                   refine hK.out _ _ ⟨(blk_cell BK629.out 0).trans rfl, (blk_cell BK629.out 1).trans rfl, (blk_cell BK629.out 2).trans rfl, (blk_cell BK629.out 3).trans rfl, (blk_cell BK629.out 4).trans rfl⟩ (fun hHeld => ?_)
                   clear hK K
                   refine norm_ (a' := ?_) ?_ ?_
                   rotate_left
                   ·show Act.put _ (some 15) _ = _
                    simp only [Act.put, List.setIfInBounds_toArray, List.set_cons_zero, List.set_cons_succ, i64_w, i32_w]
                    rfl
                   exact norm_ (by first | (simp only [putAll, Act.put, List.setIfInBounds_toArray, List.set_cons_zero, List.set_cons_succ]; done) | (simp only [putAll, Act.put, List.setIfInBounds_toArray, List.set_cons_zero, List.set_cons_succ]; rfl)) (hJ0_2_4_5_10 (v644, v647, v650, .slice Ao48 y652.length co48, gb658) _ ⟨hHeld, (by (with_reducible repeat (first | apply Kd.R_alloc | apply Kd.R_drewN | apply Kd.R_drew)); exact HO651.out), (by (with_reducible repeat (first | apply Kd.R_alloc | apply Kd.R_drewN | apply Kd.R_drew)); exact HO654.out), (by (with_reducible repeat (first | refine blk_drewN ?_ _ | refine blk_drew ?_ | refine blk_alloc ?_ _)); exact BK629.out), (by (with_reducible repeat (first | refine blk_drewN ?_ _ | refine blk_drew ?_ | refine blk_alloc ?_ _)); exact BK635.out), (by (with_reducible repeat (first | refine blk_drewN ?_ _ | refine blk_drew ?_ | refine blk_alloc ?_ _)); exact BK658.out), GW658.out, GE658.out, NB629_658.out, NB658_629.out, NB635_658.out, NB658_635.out, (by repeat (first | (with_reducible first | exact HB.out | apply below_alloc | apply pw_below_drewN | apply below_drew1 | refine below_set ?_ GE629.out | refine below_set ?_ GE635.out | refine below_set ?_ GE658.out) | exact HB.out))⟩)
                ·skip
                 rintro ⟨v644, v647, v650, v653, gb658⟩ w48 ⟨hS_, h0_, h1_, h2_, h3_, h4_, h5_, h6_, h7_, h8_, h9_, h10_, h11_⟩
                 have n0_ : Aside0 (Kd.R k39 39 w48 w.heap.size (fun k_ => some k_ ≠ (v653 : Value).ownBlock ∧ k_ ≠ gb629) v650 y649) := ⟨h0_⟩
                 have n1_ : Aside0 (Kd.R k39 39 w48 w.heap.size (fun k_ => some k_ ≠ (v650 : Value).ownBlock ∧ k_ ≠ gb629) v653 y652) := ⟨h1_⟩
                 have n2_ : Aside0 (w48.heap[gb629]? = some (.cells #[.int .i64 a1_0, .int .i64 a1_1, .int .i64 a1_2, .int .i64 a1_3, .int .i64 a1_4] 39 (0, 0))) := ⟨h2_⟩
                 have n3_ : Aside0 (w48.heap[gb635]? = some (.cells #[.int .i64 t632, .int .i64 t633] 23 (0, 0))) := ⟨h3_⟩
                 have n4_ : Aside0 (w48.heap[gb658]? = some (.cells #[.int .i64 0, .int .i64 0] 23 (0, 0))) := ⟨h4_⟩
                 have n5_ : Aside0 (w.heap.size ≤ gb658) := ⟨h5_⟩
                 have n6_ : Aside0 (w.heap.size ≤ gb658) := ⟨h6_⟩
                 have n7_ : Aside0 (gb629 ≠ gb658) := ⟨h7_⟩
                 have n8_ : Aside0 (gb658 ≠ gb629) := ⟨h8_⟩
                 have n9_ : Aside0 (gb635 ≠ gb658) := ⟨h9_⟩
                 have n10_ : Aside0 (gb658 ≠ gb635) := ⟨h10_⟩
                 have n11_ : Aside0 (Below w.heap.size w w48) := ⟨h11_⟩
                 clear BK629
                 clear BK635
                 clear HB
                 clear h0_ h1_ h2_ h3_ h4_ h5_ h6_ h7_ h8_ h9_ h10_ h11_
                 have HO651 := n0_
                 have HO654 := n1_
                 have BK629 := n2_
                 have BK635 := n3_
                 have BK658 := n4_
                 have GW658 := n5_
                 have GE658 := n6_
                 have NB629_658 := n7_
                 have NB658_629 := n8_
                 have NB635_658 := n9_
                 have NB658_635 := n10_
                 have HB := n11_
                 clear n0_ n1_ n2_ n3_ n4_ n5_ n6_ n7_ n8_ n9_ n10_ n11_
                 have hHeld : w48.cell? ⟨gb629, 0, none⟩ = some (.int .i64 a1_0) ∧ w48.cell? ⟨gb629, 1, none⟩ = some (.int .i64 a1_1) ∧ w48.cell? ⟨gb629, 2, none⟩ = some (.int .i64 a1_2) ∧ w48.cell? ⟨gb629, 3, none⟩ = some (.int .i64 a1_3) ∧ w48.cell? ⟨gb629, 4, none⟩ = some (.int .i64 a1_4) := hS_
                 obtain ⟨Ao49, co49, eo49⟩ := Kd.R_slice HO654.out
                 (first | subst eo49 | (injection eo49 with f1_ f2_ f3_; have f4_ := f1_.symm; have f5_ := f3_.symm; clear f1_ f2_ f3_; subst f4_; subst f5_))
                 refine norm_ (a' := ?_) ?_ ?_
                 rotate_left
                 ·simp only [putAll, Act.put, List.setIfInBounds_toArray, List.set_cons_zero, List.set_cons_succ]
                  rfl
                 refine one_ (i := 6) (N := some 100) #[true, true, true, true, true, true, true, false, false, false, true, false, false] rfl rfl (one_of HT_.out (by kernel_rfl)) (by decide) (fun K hK => ?_)
                 refine goes_ Try.func33 (by kernel_rfl) rfl #[.slice Ao49 y652.length co49] (by rfl) rfl rfl (by (try simp only [List.map_toArray, List.map_cons, List.map_nil]); first | done | rfl | (simp only [List.length_drop, List.length_take]; rfl)) ?_
                 with_reducible refine (average_MeanC.calls _ _ y652 t655 t656 t657 _ ?side1 ?side2 A36.out).mono ?_
                 (case side1 => repeat (first | exact (Kd.R_reads' HO654.out).2.2 | (with_reducible refine Kd.C_alloc ?_ _) | (with_reducible refine Kd.C_drewN ?_ _) | (with_reducible refine Kd.C_drew ?_)))
                 (case side2 => exact (Kd.R_reads' HO654.out).2.1)
                 rintro e w50 ⟨rfl, hb⟩
                 refine ⟨_, rfl, ?_⟩
                 have n0_ := Aside0.mk (Kd.R_below (by (with_reducible repeat (first | apply Kd.R_alloc | apply Kd.R_drewN | apply Kd.R_drew)); exact HO651.out) hb)
                 have n1_ := Aside0.mk (Kd.R_below (by (with_reducible repeat (first | apply Kd.R_alloc | apply Kd.R_drewN | apply Kd.R_drew)); exact HO654.out) hb)
                 have n2_ := Aside0.mk (blk_below (g := gb629) (o := .cells #[.int .i64 a1_0, .int .i64 a1_1, .int .i64 a1_2, .int .i64 a1_3, .int .i64 a1_4] 39 (0, 0)) (by (with_reducible repeat (first | refine blk_drewN ?_ _ | refine blk_drew ?_ | refine blk_alloc ?_ _)); exact BK629.out) hb)
                 have n3_ := Aside0.mk (blk_below (g := gb635) (o := .cells #[.int .i64 t632, .int .i64 t633] 23 (0, 0)) (by (with_reducible repeat (first | refine blk_drewN ?_ _ | refine blk_drew ?_ | refine blk_alloc ?_ _)); exact BK635.out) hb)
                 have n4_ := Aside0.mk (blk_below (g := gb658) (o := .cells #[.int .i64 0, .int .i64 0] 23 (0, 0)) (by (with_reducible repeat (first | refine blk_drewN ?_ _ | refine blk_drew ?_ | refine blk_alloc ?_ _)); exact BK658.out) hb)
                 have n5_ := Aside0.mk (below_step (by repeat (first | (with_reducible first | exact HB.out | apply below_alloc | apply pw_below_drewN | apply below_drew1 | refine below_set ?_ GE629.out | refine below_set ?_ GE635.out | refine below_set ?_ GE658.out) | exact HB.out)) hb)
                 clear HO651
                 clear HO654
                 clear BK629
                 clear BK635
                 clear BK658
                 clear HB
                 have HO651 := n0_
                 have HO654 := n1_
                 have BK629 := n2_
                 have BK635 := n3_
                 have BK658 := n4_
                 have HB := n5_
                 clear n0_ n1_ n2_ n3_ n4_ n5_
                 (try clear hb)
                 (try clear hb2)
                 (try clear hk)
                 (try clear hi)
                 refine hK.out _ _ ⟨(blk_cell BK629.out 0).trans rfl, (blk_cell BK629.out 1).trans rfl, (blk_cell BK629.out 2).trans rfl, (blk_cell BK629.out 3).trans rfl, (blk_cell BK629.out 4).trans rfl⟩ (fun hHeld => ?_)
                 clear hK K
                 refine norm_ (a' := ?_) ?_ ?_
                 rotate_left
                 ·show Act.put _ (some 100) _ = _
                  simp only [Act.put, List.setIfInBounds_toArray, List.set_cons_zero, List.set_cons_succ, i64_w, i32_w]
                  rfl
                 refine pure_ (i := 7) (N := some 93) (v := ?_) (a' := ?_) #[true, true, true, true, true, true, true, true, false, false, true, false, false] rfl rfl (any_of HT_.out (by kernel_rfl)) (fun _ _ _ h => h) (Or.inl ⟨by rfl, ?_⟩) ?_ ?_
                 rotate_left
                 ·intro w'
                  go_simp
                  with_reducible rfl
                 rotate_left
                 ·simp only [Act.put, List.setIfInBounds_toArray, List.set_cons_zero, List.set_cons_succ, i64_w, i32_w]
                  rfl
                 refine pure_ (i := 8) (N := some 101) (v := ?_) (a' := ?_) #[true, true, true, true, true, true, true, true, true, false, true, false, false] rfl rfl (any_of HT_.out (by kernel_rfl)) (fun _ _ _ h => h) (Or.inl ⟨by rfl, ?_⟩) ?_ ?_
                 rotate_left
                 ·intro w'
                  go_simp
                  with_reducible rfl
                 rotate_left
                 ·simp only [Act.put, List.setIfInBounds_toArray, List.set_cons_zero, List.set_cons_succ, i64_w, i32_w]
                  rfl
                 refine pure_ (i := 9) (N := some 102) (v := ?_) (a' := ?_) #[true, true, true, true, true, true, true, true, true, true, true, false, false] rfl rfl (any_of HT_.out (by kernel_rfl)) (fun _ _ _ h => h) (Or.inl ⟨by rfl, ?_⟩) ?_ ?_
                 rotate_left
                 ·intro w'
                  go_simp
                  with_reducible rfl
                 rotate_left
                 ·simp only [Act.put, List.setIfInBounds_toArray, List.set_cons_zero, List.set_cons_succ, i64_w, i32_w]
                  rfl
                 exact norm_ (by first | (simp only [putAll, Act.put, List.setIfInBounds_toArray, List.set_cons_zero, List.set_cons_succ]; done) | (simp only [putAll, Act.put, List.setIfInBounds_toArray, List.set_cons_zero, List.set_cons_succ]; rfl)) (hJ0_2_4_5_6_10 (v644, v647, v650, .slice Ao49 y652.length co49, gb658) _ ⟨hHeld, (by (with_reducible repeat (first | apply Kd.R_alloc | apply Kd.R_drewN | apply Kd.R_drew)); exact HO651.out), (by (with_reducible repeat (first | apply Kd.R_alloc | apply Kd.R_drewN | apply Kd.R_drew)); exact HO654.out), (by (with_reducible repeat (first | refine blk_drewN ?_ _ | refine blk_drew ?_ | refine blk_alloc ?_ _)); exact BK629.out), (by (with_reducible repeat (first | refine blk_drewN ?_ _ | refine blk_drew ?_ | refine blk_alloc ?_ _)); exact BK635.out), (by (with_reducible repeat (first | refine blk_drewN ?_ _ | refine blk_drew ?_ | refine blk_alloc ?_ _)); exact BK658.out), GW658.out, GE658.out, NB629_658.out, NB658_629.out, NB635_658.out, NB658_635.out, (by repeat (first | (with_reducible first | exact HB.out | apply below_alloc | apply pw_below_drewN | apply below_drew1 | refine below_set ?_ GE629.out | refine below_set ?_ GE635.out | refine below_set ?_ GE658.out) | exact HB.out))⟩)
               ·skip
                rintro ⟨v644, v647, v650, v653⟩ w49 ⟨hS_, h0_, h1_, h2_, h3_, h4_⟩
                have n0_ : Aside0 (Kd.R k39 39 w49 w.heap.size (fun k_ => some k_ ≠ (v653 : Value).ownBlock ∧ k_ ≠ gb629) v650 y649) := ⟨h0_⟩
                have n1_ : Aside0 (Kd.R k39 39 w49 w.heap.size (fun k_ => some k_ ≠ (v650 : Value).ownBlock ∧ k_ ≠ gb629) v653 y652) := ⟨h1_⟩
                have n2_ : Aside0 (w49.heap[gb629]? = some (.cells #[.int .i64 a1_0, .int .i64 a1_1, .int .i64 a1_2, .int .i64 a1_3, .int .i64 a1_4] 39 (0, 0))) := ⟨h2_⟩
                have n3_ : Aside0 (w49.heap[gb635]? = some (.cells #[.int .i64 t632, .int .i64 t633] 23 (0, 0))) := ⟨h3_⟩
                have n4_ : Aside0 (Below w.heap.size w w49) := ⟨h4_⟩
                clear BK629
                clear BK635
                clear HB
                clear h0_ h1_ h2_ h3_ h4_
                have HO651 := n0_
                have HO654 := n1_
                have BK629 := n2_
                have BK635 := n3_
                have HB := n4_
                clear n0_ n1_ n2_ n3_ n4_
                have hHeld : w49.cell? ⟨gb629, 0, none⟩ = some (.int .i64 a1_0) ∧ w49.cell? ⟨gb629, 1, none⟩ = some (.int .i64 a1_1) ∧ w49.cell? ⟨gb629, 2, none⟩ = some (.int .i64 a1_2) ∧ w49.cell? ⟨gb629, 3, none⟩ = some (.int .i64 a1_3) ∧ w49.cell? ⟨gb629, 4, none⟩ = some (.int .i64 a1_4) := hS_
                refine norm_ (a' := ?_) ?_ ?_
                rotate_left
                ·simp only [putAll, Act.put, List.setIfInBounds_toArray, List.set_cons_zero, List.set_cons_succ]
                 rfl
                refine one_ (i := 10) (N := some 15) #[true, true, true, true, true, true, true, true, true, true, true, false, false] rfl rfl (one_of HT_.out (by kernel_rfl)) (by decide) (fun K hK => ?_)
                refine box_step ?hg (N := 15) ?hd (cs := #[.int .i64 0, .int .i64 0]) (t := 23) ?hr ?_; (case hd => rfl); (case hg => rfl); (case hr => first | (go_simp; done) | (go_simp; rfl))
                intro gb658 hg w50 hbox hb
                have n0_ := Aside0.mk (Kd.R_below (by (with_reducible repeat (first | apply Kd.R_alloc | apply Kd.R_drewN | apply Kd.R_drew)); exact HO651.out) hb)
                have n1_ := Aside0.mk (Kd.R_below (by (with_reducible repeat (first | apply Kd.R_alloc | apply Kd.R_drewN | apply Kd.R_drew)); exact HO654.out) hb)
                have n2_ := Aside0.mk (blk_below (g := gb629) (o := .cells #[.int .i64 a1_0, .int .i64 a1_1, .int .i64 a1_2, .int .i64 a1_3, .int .i64 a1_4] 39 (0, 0)) (by (with_reducible repeat (first | refine blk_drewN ?_ _ | refine blk_drew ?_ | refine blk_alloc ?_ _)); exact BK629.out) hb)
                have n3_ := Aside0.mk (blk_below (g := gb635) (o := .cells #[.int .i64 t632, .int .i64 t633] 23 (0, 0)) (by (with_reducible repeat (first | refine blk_drewN ?_ _ | refine blk_drew ?_ | refine blk_alloc ?_ _)); exact BK635.out) hb)
                have n4_ := Aside0.mk (below_step (by repeat (first | (with_reducible first | exact HB.out | apply below_alloc | apply pw_below_drewN | apply below_drew1 | refine below_set ?_ GE629.out | refine below_set ?_ GE635.out) | exact HB.out)) hb)
                have n5_ := Aside0.mk (hbox)
                have n6_ := Aside0.mk ((by rw [hg]; exact (below_size (by repeat (first | (with_reducible first | exact HB.out | apply below_alloc | apply pw_below_drewN | apply below_drew1 | refine below_set ?_ GE629.out | refine below_set ?_ GE635.out) | exact HB.out))) : w.heap.size ≤ gb658))
                have n7_ := Aside0.mk ((by rw [hg]; exact (below_size (by repeat (first | (with_reducible first | exact HB.out | apply below_alloc | apply pw_below_drewN | apply below_drew1 | refine below_set ?_ GE629.out | refine below_set ?_ GE635.out) | exact HB.out))) : w.heap.size ≤ gb658))
                have n8_ := Aside0.mk ((by rw [hg]; exact Nat.ne_of_lt (blk_lt (g := gb629) (o := .cells #[.int .i64 a1_0, .int .i64 a1_1, .int .i64 a1_2, .int .i64 a1_3, .int .i64 a1_4] 39 (0, 0)) (by (with_reducible repeat (first | refine blk_drewN ?_ _ | refine blk_drew ?_ | refine blk_alloc ?_ _)); exact BK629.out)) : gb629 ≠ gb658))
                have n9_ := Aside0.mk ((by rw [hg]; exact Nat.ne_of_gt (blk_lt (g := gb629) (o := .cells #[.int .i64 a1_0, .int .i64 a1_1, .int .i64 a1_2, .int .i64 a1_3, .int .i64 a1_4] 39 (0, 0)) (by (with_reducible repeat (first | refine blk_drewN ?_ _ | refine blk_drew ?_ | refine blk_alloc ?_ _)); exact BK629.out)) : gb658 ≠ gb629))
                have n10_ := Aside0.mk ((by rw [hg]; exact Nat.ne_of_lt (blk_lt (g := gb635) (o := .cells #[.int .i64 t632, .int .i64 t633] 23 (0, 0)) (by (with_reducible repeat (first | refine blk_drewN ?_ _ | refine blk_drew ?_ | refine blk_alloc ?_ _)); exact BK635.out)) : gb635 ≠ gb658))
                have n11_ := Aside0.mk ((by rw [hg]; exact Nat.ne_of_gt (blk_lt (g := gb635) (o := .cells #[.int .i64 t632, .int .i64 t633] 23 (0, 0)) (by (with_reducible repeat (first | refine blk_drewN ?_ _ | refine blk_drew ?_ | refine blk_alloc ?_ _)); exact BK635.out)) : gb658 ≠ gb635))
                clear HO651
                clear HO654
                clear BK629
                clear BK635
                clear HB
                have HO651 := n0_
                have HO654 := n1_
                have BK629 := n2_
                have BK635 := n3_
                have HB := n4_
                have BK658 := n5_
                have GW658 := n6_
                have GE658 := n7_
                have NB629_658 := n8_
                have NB658_629 := n9_
                have NB635_658 := n10_
                have NB658_635 := n11_
                clear n0_ n1_ n2_ n3_ n4_ n5_ n6_ n7_ n8_ n9_ n10_ n11_
                clear hb hbox hg
                refine hK.out _ _ ⟨(blk_cell BK629.out 0).trans rfl, (blk_cell BK629.out 1).trans rfl, (blk_cell BK629.out 2).trans rfl, (blk_cell BK629.out 3).trans rfl, (blk_cell BK629.out 4).trans rfl⟩ (fun hHeld => ?_)
                clear hK K
                refine norm_ (a' := ?_) ?_ ?_
                rotate_left
                ·show Act.put _ (some 15) _ = _
                 simp only [Act.put, List.setIfInBounds_toArray, List.set_cons_zero, List.set_cons_succ, i64_w, i32_w]
                 rfl
                exact norm_ (by first | (simp only [putAll, Act.put, List.setIfInBounds_toArray, List.set_cons_zero, List.set_cons_succ]; done) | (simp only [putAll, Act.put, List.setIfInBounds_toArray, List.set_cons_zero, List.set_cons_succ]; rfl)) (hJ0_2_4_5_6_10 (v644, v647, v650, v653, gb658) _ ⟨hHeld, (by (with_reducible repeat (first | apply Kd.R_alloc | apply Kd.R_drewN | apply Kd.R_drew)); exact HO651.out), (by (with_reducible repeat (first | apply Kd.R_alloc | apply Kd.R_drewN | apply Kd.R_drew)); exact HO654.out), (by (with_reducible repeat (first | refine blk_drewN ?_ _ | refine blk_drew ?_ | refine blk_alloc ?_ _)); exact BK629.out), (by (with_reducible repeat (first | refine blk_drewN ?_ _ | refine blk_drew ?_ | refine blk_alloc ?_ _)); exact BK635.out), (by (with_reducible repeat (first | refine blk_drewN ?_ _ | refine blk_drew ?_ | refine blk_alloc ?_ _)); exact BK658.out), GW658.out, GE658.out, NB629_658.out, NB658_629.out, NB635_658.out, NB658_635.out, (by repeat (first | (with_reducible first | exact HB.out | apply below_alloc | apply pw_below_drewN | apply below_drew1 | refine below_set ?_ GE629.out | refine below_set ?_ GE635.out | refine below_set ?_ GE658.out) | exact HB.out))⟩)
              rintro ⟨v644, v647, v650, v653, gb658⟩ w50 ⟨hS_, h0_, h1_, h2_, h3_, h4_, h5_, h6_, h7_, h8_, h9_, h10_, h11_⟩
              have n0_ : Aside0 (Kd.R k39 39 w50 w.heap.size (fun k_ => some k_ ≠ (v653 : Value).ownBlock ∧ k_ ≠ gb629) v650 y649) := ⟨h0_⟩
              have n1_ : Aside0 (Kd.R k39 39 w50 w.heap.size (fun k_ => some k_ ≠ (v650 : Value).ownBlock ∧ k_ ≠ gb629) v653 y652) := ⟨h1_⟩
              have n2_ : Aside0 (w50.heap[gb629]? = some (.cells #[.int .i64 a1_0, .int .i64 a1_1, .int .i64 a1_2, .int .i64 a1_3, .int .i64 a1_4] 39 (0, 0))) := ⟨h2_⟩
              have n3_ : Aside0 (w50.heap[gb635]? = some (.cells #[.int .i64 t632, .int .i64 t633] 23 (0, 0))) := ⟨h3_⟩
              have n4_ : Aside0 (w50.heap[gb658]? = some (.cells #[.int .i64 0, .int .i64 0] 23 (0, 0))) := ⟨h4_⟩
              have n5_ : Aside0 (w.heap.size ≤ gb658) := ⟨h5_⟩
              have n6_ : Aside0 (w.heap.size ≤ gb658) := ⟨h6_⟩
              have n7_ : Aside0 (gb629 ≠ gb658) := ⟨h7_⟩
              have n8_ : Aside0 (gb658 ≠ gb629) := ⟨h8_⟩
              have n9_ : Aside0 (gb635 ≠ gb658) := ⟨h9_⟩
              have n10_ : Aside0 (gb658 ≠ gb635) := ⟨h10_⟩
              have n11_ : Aside0 (Below w.heap.size w w50) := ⟨h11_⟩
              clear BK629
              clear BK635
              clear HB
              clear h0_ h1_ h2_ h3_ h4_ h5_ h6_ h7_ h8_ h9_ h10_ h11_
              have HO651 := n0_
              have HO654 := n1_
              have BK629 := n2_
              have BK635 := n3_
              have BK658 := n4_
              have GW658 := n5_
              have GE658 := n6_
              have NB629_658 := n7_
              have NB658_629 := n8_
              have NB635_658 := n9_
              have NB658_635 := n10_
              have HB := n11_
              clear n0_ n1_ n2_ n3_ n4_ n5_ n6_ n7_ n8_ n9_ n10_ n11_
              have hHeld : w50.cell? ⟨gb629, 0, none⟩ = some (.int .i64 a1_0) ∧ w50.cell? ⟨gb629, 1, none⟩ = some (.int .i64 a1_1) ∧ w50.cell? ⟨gb629, 2, none⟩ = some (.int .i64 a1_2) ∧ w50.cell? ⟨gb629, 3, none⟩ = some (.int .i64 a1_3) ∧ w50.cell? ⟨gb629, 4, none⟩ = some (.int .i64 a1_4) := hS_
              refine norm_ (a' := ?_) ?_ ?_
              rotate_left
              ·simp only [putAll, Act.put, List.setIfInBounds_toArray, List.set_cons_zero, List.set_cons_succ]
               rfl
              refine one_ (i := 11) (N := none) #[true, true, true, true, true, true, true, true, true, true, true, true, false] rfl rfl (one_of HT_.out (by kernel_rfl)) (by decide) (fun K hK => ?_)
              have hs51 : w50.cell? ⟨gb658, 0, none⟩ = some (.int .i64 0) := (blk_cell BK658.out 0).trans rfl
              have hfs51 := blk_frozen BK658.out 0
              have hns51_0 := NB629_658.out
              have hns51_1 := NB635_658.out
              have hms51_0 := NB658_629.out
              have hms51_1 := NB658_635.out
              have hs52 : w50.cell? ⟨gb658, 1, none⟩ = some (.int .i64 0) := (blk_cell BK658.out 1).trans rfl
              have hfs52 := blk_frozen BK658.out 1
              have hns52_0 := NB629_658.out
              have hns52_1 := NB635_658.out
              have hms52_0 := NB658_629.out
              have hms52_1 := NB658_635.out
              refine skip_ (w1 := ?_) (by rfl) rfl ?_ ?_
              rotate_left
              ·go_simp
               rfl
              refine hK.out _ _ ⟨((cell_far (p := ⟨gb658, _, none⟩) NB629_658.out _).trans (((cell_far (p := ⟨gb658, _, none⟩) NB629_658.out _).trans (hHeld.1)))), ((cell_far (p := ⟨gb658, _, none⟩) NB629_658.out _).trans (((cell_far (p := ⟨gb658, _, none⟩) NB629_658.out _).trans (hHeld.2.1)))), ((cell_far (p := ⟨gb658, _, none⟩) NB629_658.out _).trans (((cell_far (p := ⟨gb658, _, none⟩) NB629_658.out _).trans (hHeld.2.2.1)))), ((cell_far (p := ⟨gb658, _, none⟩) NB629_658.out _).trans (((cell_far (p := ⟨gb658, _, none⟩) NB629_658.out _).trans (hHeld.2.2.2.1)))), ((cell_far (p := ⟨gb658, _, none⟩) NB629_658.out _).trans (((cell_far (p := ⟨gb658, _, none⟩) NB629_658.out _).trans (hHeld.2.2.2.2))))⟩ (fun hHeld => ?_)
              clear hK K
              refine pure_ (i := 12) (N := some 16) (v := ?_) (a' := ?_) #[true, true, true, true, true, true, true, true, true, true, true, true, true] rfl rfl (any_of HT_.out (by kernel_rfl)) (fun _ _ _ h => h) (Or.inl ⟨by rfl, ?_⟩) ?_ ?_
              rotate_left
              ·intro w'
               go_simp
               with_reducible rfl
              rotate_left
              ·simp only [Act.put, List.setIfInBounds_toArray, List.set_cons_zero, List.set_cons_succ, i64_w, i32_w]
               rfl
              refine done_ (done_of HT_.out (by kernel_rfl)) ?_
              have hnb72 := NB629_635.out
              have hnc72 := NB635_629.out
              have hnb73 := NB629_658.out
              have hnc73 := NB658_629.out
              have hcz74_0 : w50.cell? ⟨gb629, 0, none⟩ = some (.int .i64 a1_0) := (blk_cell BK629.out 0).trans rfl
              have hcz74_1 : w50.cell? ⟨gb629, 1, none⟩ = some (.int .i64 a1_1) := (blk_cell BK629.out 1).trans rfl
              have hcz74_2 : w50.cell? ⟨gb629, 2, none⟩ = some (.int .i64 a1_2) := (blk_cell BK629.out 2).trans rfl
              have hcz74_3 : w50.cell? ⟨gb629, 3, none⟩ = some (.int .i64 a1_3) := (blk_cell BK629.out 3).trans rfl
              have hcz74_4 : w50.cell? ⟨gb629, 4, none⟩ = some (.int .i64 a1_4) := (blk_cell BK629.out 4).trans rfl
              have hfz74_0 := blk_frozen BK629.out 0
              have hfz74_1 := blk_frozen BK629.out 1
              have hfz74_2 := blk_frozen BK629.out 2
              have hfz74_3 := blk_frozen BK629.out 3
              have hfz74_4 := blk_frozen BK629.out 4
              have hnb75 := NB635_658.out
              have hnc75 := NB658_635.out
              have hcz76_0 : w50.cell? ⟨gb635, 0, none⟩ = some (.int .i64 t632) := (blk_cell BK635.out 0).trans rfl
              have hcz76_1 : w50.cell? ⟨gb635, 1, none⟩ = some (.int .i64 t633) := (blk_cell BK635.out 1).trans rfl
              have hfz76_0 := blk_frozen BK635.out 0
              have hfz76_1 := blk_frozen BK635.out 1
              have hcz77_0 : w50.cell? ⟨gb658, 0, none⟩ = some (.int .i64 0) := (blk_cell BK658.out 0).trans rfl
              have hcz77_1 : w50.cell? ⟨gb658, 1, none⟩ = some (.int .i64 0) := (blk_cell BK658.out 1).trans rfl
              have hfz77_0 := blk_frozen BK658.out 0
              have hfz77_1 := blk_frozen BK658.out 1
              try go_wp2
              go_meet
              case rel => exact ⟨gb658, rfl, rfl, GE658, ⟨blk_far (blk_far BK629.out NB629_658.out _) NB629_658.out _⟩, ⟨blk_far (blk_far BK635.out NB635_658.out _) NB635_658.out _⟩, ⟨by simpa using blk_set (blk_set BK658.out 0 (.int .i64 t655)) 1 (.int .i64 t656)⟩, ⟨below_set (below_set HB.out GE658.out) GE658.out⟩⟩
             case rest =>
              as_aux_lemma =>
              clear BK629 BK635 HB
              obtain ⟨gb658, rfl, rfl, GE658, BK629, BK635, BK658, HB⟩ := hcut
              have H := HC36.out
              clear HC36
              have zz629_0 := (blk_cell BK629.out 0).trans rfl
              have zz629_1 := (blk_cell BK629.out 1).trans rfl
              have zz629_2 := (blk_cell BK629.out 2).trans rfl
              have zz629_3 := (blk_cell BK629.out 3).trans rfl
              have zz629_4 := (blk_cell BK629.out 4).trans rfl
              have zz635_0 := (blk_cell BK635.out 0).trans rfl
              have zz635_1 := (blk_cell BK635.out 1).trans rfl
              have zz658_0 := (blk_cell BK658.out 0).trans rfl
              have zz658_1 := (blk_cell BK658.out 1).trans rfl
              by_cases c37 : t657 = 0
              ·rw [if_pos c37] at H
               have c37b0 : (t657 == 0) = true := beq_iff_eq.mpr c37
               have c37b1 : (t657 != 0) = false := bne_eq_false_iff_eq.mpr c37
               clear c37
               by_cases c38 : a1_2 < x8_1
               ·rw [if_pos c38] at H
                have c38b0 : decide (a1_2 < x8_1) = true := decide_eq_true c38
                clear c38
                obtain rfl := Option.some.inj H
                go_wp2
                go_ret
                exact ⟨rfl, HB.out⟩
               ·rw [if_neg c38] at H
                have c38b0 : decide (a1_2 < x8_1) = false := decide_eq_false c38
                clear c38
                replace H := Option.bind_eq_some_iff.mp H
                obtain ⟨⟨t659, t660⟩, A560, H⟩ := H
                replace H : (if t660 = 0 then (some (decide (t659 ≤ 0))) else (some false)) = some r := H
                have A56 := Aside0.mk A560
                clear A560
                by_cases c57 : t660 = 0
                ·rw [if_pos c57] at H
                 have c57b0 : (t660 == 0) = true := beq_iff_eq.mpr c57
                 have c57b1 : (t660 != 0) = false := bne_eq_false_iff_eq.mpr c57
                 clear c57
                 obtain rfl := Option.some.inj H
                 try go_wp2_with (first | ((with_reducible refine gate_callee (f := 27) rfl ?_); refine goesL_ (some 120) rfl rfl Try.func27 (by kernel_rfl) rfl #[.agg #[.int .i64 t632, .int .i64 t633], .agg #[.int .i64 t655, .int .i64 t656]] rfl (by (try simp only [List.map_toArray, List.map_cons, List.map_nil]); first | done | rfl | (simp only [List.length_drop, List.length_take]; rfl)) ?_; (with_reducible refine (ratio_Compare.calls t632 t633 t655 t656 t659 t660 _ A56.out).mono ?_); rintro e w78 ⟨rfl, hb⟩; refine ⟨_, rfl, ?_⟩; have n5_ := Aside0.mk (below_step (by repeat (first | (with_reducible first | exact HB.out | apply below_alloc | apply pw_below_drewN | apply below_drew1 | refine below_set ?_ GE629.out | refine below_set ?_ GE635.out | refine below_set ?_ GE658.out) | exact HB.out)) hb); clear HB; have HB := n5_; clear n5_; (try clear hb); (try clear hb2); (try clear hk); (try clear hi)))
                 go_ret
                 exact ⟨by first | rfl | (simp [errW_none, errW_some] <;> rfl) | (simp [*, errW_none, errW_some] <;> rfl), by repeat (first | (with_reducible first | exact HB.out | apply below_alloc | apply pw_below_drewN | apply below_drew1 | refine below_set ?_ GE629.out | refine below_set ?_ GE635.out | refine below_set ?_ GE658.out) | exact HB.out)⟩
                ·rw [if_neg c57] at H
                 have c57b0 : (t660 == 0) = false := beq_eq_false_iff_ne.mpr c57
                 have c57b1 : (t660 != 0) = true := bne_iff_ne.mpr c57
                 exact absurd ((Option.some.inj H).trans hrt.out) (by decide)
              ·rw [if_neg c37] at H
               have c37b0 : (t657 == 0) = false := beq_eq_false_iff_ne.mpr c37
               have c37b1 : (t657 != 0) = true := bne_iff_ne.mpr c37
               obtain rfl := Option.some.inj H
               go_wp2
               go_ret
               exact ⟨by first | rfl | (simp [errW_none, errW_some] <;> rfl) | (simp [*, errW_none, errW_some] <;> rfl), by repeat (first | (with_reducible first | exact HB.out | apply below_alloc | apply pw_below_drewN | apply below_drew1 | refine below_set ?_ GE629.out | refine below_set ?_ GE635.out | refine below_set ?_ GE658.out) | exact HB.out)⟩
            ·rw [if_neg c35] at H
             exact absurd H (by simp)
           ·rw [if_neg c34] at H
            exact absurd H (by simp)
       ·replace c21 := Bool.eq_false_iff.mpr c21
        subst c21
        have H1 : (some (t632 == 0 && (t633 == 1))) = some r := by rw [if_neg (show ¬ (false = true) by decide)] at H; exact H
        clear H
        have H := H1
        clear H1
        obtain rfl := Option.some.inj H
        have hnb93 := NB635_629.out
        have hnc93 := NB629_635.out
        have hcz94_0 : wr.cell? ⟨gb635, 0, none⟩ = some (.int .i64 t632) := (blk_cell BK635.out 0).trans rfl
        have hcz94_1 : wr.cell? ⟨gb635, 1, none⟩ = some (.int .i64 t633) := (blk_cell BK635.out 1).trans rfl
        have hfz94_0 := blk_frozen BK635.out 0
        have hfz94_1 := blk_frozen BK635.out 1
        go_wp2
        go_ret
        exact ⟨by first | rfl | (simp [errW_none, errW_some] <;> rfl) | (simp [*, errW_none, errW_some] <;> rfl), by repeat (first | (with_reducible first | exact HB.out | apply below_alloc | apply pw_below_drewN | apply below_drew1 | refine below_set ?_ GE629.out | refine below_set ?_ GE635.out) | exact HB.out)⟩
   ·rw [if_neg c8] at H
    have c8b0 : (t634 == 0) = false := beq_eq_false_iff_ne.mpr c8
    have c8b1 : (t634 != 0) = true := bne_iff_ne.mpr c8
    obtain rfl := Option.some.inj H
    go_enter Try.func6, Try.ntmps6
    go_wp2_with (first | ((with_reducible refine gate_dst (N := 3) rfl ?_); refine box_event ?hg (N := 3) ?hd (cs := #[.int .i64 a1_0, .int .i64 a1_1, .int .i64 a1_2, .int .i64 a1_3, .int .i64 a1_4]) (t := 39) ?hr ?_; (case hd => rfl); (case hg => rfl); (case hr => first | (go_simp; done) | (go_simp; rfl)); intro gb629 hg w95 hbox hb; have n0_ := Aside0.mk (below_step (by repeat (first | (with_reducible first | exact HB.out | apply below_alloc | apply pw_below_drewN | apply below_drew1) | exact HB.out)) hb); have n1_ := Aside0.mk (hbox); have n2_ := Aside0.mk ((by rw [hg]; exact (below_size (by repeat (first | (with_reducible first | exact HB.out | apply below_alloc | apply pw_below_drewN | apply below_drew1) | exact HB.out))) : w.heap.size ≤ gb629)); have n3_ := Aside0.mk ((by rw [hg]; exact (below_size (by repeat (first | (with_reducible first | exact HB.out | apply below_alloc | apply pw_below_drewN | apply below_drew1) | exact HB.out))) : w.heap.size ≤ gb629)); clear HB; have HB := n0_; have BK629 := n1_; have GW629 := n2_; have GE629 := n3_; clear n0_ n1_ n2_ n3_; clear hb hbox hg) | ((with_reducible refine gate_callee (f := 31) rfl ?_); refine goesL_ (some 19) rfl rfl Try.func31 (by kernel_rfl) rfl #[] rfl (by (try simp only [List.map_toArray, List.map_cons, List.map_nil]); first | done | rfl | (simp only [List.length_drop, List.length_take]; rfl)) ?_; (with_reducible refine (sizarlaw15_saneC.calls  true _ A3.out).mono ?_); rintro e w96 ⟨rfl, hb⟩; refine ⟨_, rfl, ?_⟩; have n0_ := Aside0.mk (blk_below (g := gb629) (o := .cells #[.int .i64 a1_0, .int .i64 a1_1, .int .i64 a1_2, .int .i64 a1_3, .int .i64 a1_4] 39 (0, 0)) (by (with_reducible repeat (first | refine blk_drewN ?_ _ | refine blk_drew ?_ | refine blk_alloc ?_ _)); exact BK629.out) hb); have n1_ := Aside0.mk (below_step (by repeat (first | (with_reducible first | exact HB.out | apply below_alloc | apply pw_below_drewN | apply below_drew1 | refine below_set ?_ GE629.out) | exact HB.out)) hb); clear BK629; clear HB; have BK629 := n0_; have HB := n1_; clear n0_ n1_; (try clear hb); (try clear hb2); (try clear hk); (try clear hi)) | ((with_reducible refine gate_callee (f := 32) rfl ?_); refine goesL_ (some 22) rfl rfl Try.func32 (by kernel_rfl) rfl #[.slice A0 l0.length c0] rfl (by (try simp only [List.map_toArray, List.map_cons, List.map_nil]); first | done | rfl | (simp only [List.length_drop, List.length_take]; rfl)) ?_; (with_reducible refine (sizarref15_Few.calls _ _ l0 true _ ?side1 ?side2 A5.out).mono ?_); (case side1 => repeat (first | exact (Kd.C_below HR0.out HB.out) | (with_reducible refine Kd.C_alloc ?_ _) | (with_reducible refine Kd.C_drewN ?_ _) | (with_reducible refine Kd.C_drew ?_))); (case side2 => exact HC0.out); rintro e w' ⟨rfl, ⟨nd, rfl⟩⟩; refine ⟨_, rfl, ?_⟩; (try (rw [drewN_self w96]; generalize hq_ : World.drewN w96 _ = w96; have n0_ : Aside0 (w96.heap[gb629]? = some (.cells #[.int .i64 a1_0, .int .i64 a1_1, .int .i64 a1_2, .int .i64 a1_3, .int .i64 a1_4] 39 (0, 0))) := ⟨by rw [← hq_]; exact (by (with_reducible repeat (first | refine blk_drewN ?_ _ | refine blk_drew ?_ | refine blk_alloc ?_ _)); exact BK629.out)⟩; have n1_ : Aside0 (Below w.heap.size w w96) := ⟨by rw [← hq_]; exact (by repeat (first | (with_reducible first | exact HB.out | apply below_alloc | apply pw_below_drewN | apply below_drew1 | refine below_set ?_ GE629.out) | exact HB.out))⟩; clear BK629 HB hq_; have BK629 := n0_; have HB := n1_; clear n0_ n1_))) | ((with_reducible refine gate_callee (f := 33) rfl ?_); refine goesL_ (some 26) rfl rfl Try.func33 (by kernel_rfl) rfl #[.slice A0 l0.length c0] rfl (by (try simp only [List.map_toArray, List.map_cons, List.map_nil]); first | done | rfl | (simp only [List.length_drop, List.length_take]; rfl)) ?_; (with_reducible refine (average_MeanC.calls _ _ l0 t632 t633 t634 _ ?side1 ?side2 A7.out).mono ?_); (case side1 => repeat (first | exact (Kd.C_below HR0.out HB.out) | (with_reducible refine Kd.C_alloc ?_ _) | (with_reducible refine Kd.C_drewN ?_ _) | (with_reducible refine Kd.C_drew ?_))); (case side2 => exact HC0.out); rintro e w97 ⟨rfl, hb⟩; refine ⟨_, rfl, ?_⟩; have n0_ := Aside0.mk (blk_below (g := gb629) (o := .cells #[.int .i64 a1_0, .int .i64 a1_1, .int .i64 a1_2, .int .i64 a1_3, .int .i64 a1_4] 39 (0, 0)) (by (with_reducible repeat (first | refine blk_drewN ?_ _ | refine blk_drew ?_ | refine blk_alloc ?_ _)); exact BK629.out) hb); have n1_ := Aside0.mk (below_step (by repeat (first | (with_reducible first | exact HB.out | apply below_alloc | apply pw_below_drewN | apply below_drew1 | refine below_set ?_ GE629.out) | exact HB.out)) hb); clear BK629; clear HB; have BK629 := n0_; have HB := n1_; clear n0_ n1_; (try clear hb); (try clear hb2); (try clear hk); (try clear hi)) | ((with_reducible refine gate_dst (N := 5) rfl ?_); refine box_event ?hg (N := 5) ?hd (cs := #[.int .i64 0, .int .i64 0]) (t := 23) ?hr ?_; (case hd => rfl); (case hg => rfl); (case hr => first | (go_simp; done) | (go_simp; rfl)); intro gb635 hg w98 hbox hb; have n0_ := Aside0.mk (blk_below (g := gb629) (o := .cells #[.int .i64 a1_0, .int .i64 a1_1, .int .i64 a1_2, .int .i64 a1_3, .int .i64 a1_4] 39 (0, 0)) (by (with_reducible repeat (first | refine blk_drewN ?_ _ | refine blk_drew ?_ | refine blk_alloc ?_ _)); exact BK629.out) hb); have n1_ := Aside0.mk (below_step (by repeat (first | (with_reducible first | exact HB.out | apply below_alloc | apply pw_below_drewN | apply below_drew1 | refine below_set ?_ GE629.out) | exact HB.out)) hb); have n2_ := Aside0.mk (hbox); have n3_ := Aside0.mk ((by rw [hg]; exact (below_size (by repeat (first | (with_reducible first | exact HB.out | apply below_alloc | apply pw_below_drewN | apply below_drew1 | refine below_set ?_ GE629.out) | exact HB.out))) : w.heap.size ≤ gb635)); have n4_ := Aside0.mk ((by rw [hg]; exact (below_size (by repeat (first | (with_reducible first | exact HB.out | apply below_alloc | apply pw_below_drewN | apply below_drew1 | refine below_set ?_ GE629.out) | exact HB.out))) : w.heap.size ≤ gb635)); have n5_ := Aside0.mk ((by rw [hg]; exact Nat.ne_of_lt (blk_lt (g := gb629) (o := .cells #[.int .i64 a1_0, .int .i64 a1_1, .int .i64 a1_2, .int .i64 a1_3, .int .i64 a1_4] 39 (0, 0)) (by (with_reducible repeat (first | refine blk_drewN ?_ _ | refine blk_drew ?_ | refine blk_alloc ?_ _)); exact BK629.out)) : gb629 ≠ gb635)); have n6_ := Aside0.mk ((by rw [hg]; exact Nat.ne_of_gt (blk_lt (g := gb629) (o := .cells #[.int .i64 a1_0, .int .i64 a1_1, .int .i64 a1_2, .int .i64 a1_3, .int .i64 a1_4] 39 (0, 0)) (by (with_reducible repeat (first | refine blk_drewN ?_ _ | refine blk_drew ?_ | refine blk_alloc ?_ _)); exact BK629.out)) : gb635 ≠ gb629)); clear BK629; clear HB; have BK629 := n0_; have HB := n1_; have BK635 := n2_; have GW635 := n3_; have GE635 := n4_; have NB629_635 := n5_; have NB635_629 := n6_; clear n0_ n1_ n2_ n3_ n4_ n5_ n6_; clear hb hbox hg; have hnb99 := NB635_629.out; have hnc99 := NB629_635.out; have hcz100_0 : w98.cell? ⟨gb635, 0, none⟩ = some (.int .i64 0) := (blk_cell BK635.out 0).trans rfl; have hcz100_1 : w98.cell? ⟨gb635, 1, none⟩ = some (.int .i64 0) := (blk_cell BK635.out 1).trans rfl; have hfz100_0 := blk_frozen BK635.out 0; have hfz100_1 := blk_frozen BK635.out 1))
    go_ret
    exact ⟨by first | rfl | (simp [errW_none, errW_some] <;> rfl) | (simp [*, errW_none, errW_some] <;> rfl), by repeat (first | (with_reducible first | exact HB.out | apply below_alloc | apply pw_below_drewN | apply below_drew1 | refine below_set ?_ GE629.out | refine below_set ?_ GE635.out) | exact HB.out)⟩
  ·replace c6 := Bool.eq_false_iff.mpr c6
   subst c6
   have H1 : (some true) = some r := by rw [if_neg (show ¬ (false = true) by decide)] at H; exact H
   clear H
   have H := H1
   clear H1
   obtain rfl := Option.some.inj H
   go_enter Try.func6, Try.ntmps6
   go_wp2_with (first | ((with_reducible refine gate_dst (N := 3) rfl ?_); refine box_event ?hg (N := 3) ?hd (cs := #[.int .i64 a1_0, .int .i64 a1_1, .int .i64 a1_2, .int .i64 a1_3, .int .i64 a1_4]) (t := 39) ?hr ?_; (case hd => rfl); (case hg => rfl); (case hr => first | (go_simp; done) | (go_simp; rfl)); intro gb629 hg w101 hbox hb; have n0_ := Aside0.mk (below_step (by repeat (first | (with_reducible first | exact HB.out | apply below_alloc | apply pw_below_drewN | apply below_drew1) | exact HB.out)) hb); have n1_ := Aside0.mk (hbox); have n2_ := Aside0.mk ((by rw [hg]; exact (below_size (by repeat (first | (with_reducible first | exact HB.out | apply below_alloc | apply pw_below_drewN | apply below_drew1) | exact HB.out))) : w.heap.size ≤ gb629)); have n3_ := Aside0.mk ((by rw [hg]; exact (below_size (by repeat (first | (with_reducible first | exact HB.out | apply below_alloc | apply pw_below_drewN | apply below_drew1) | exact HB.out))) : w.heap.size ≤ gb629)); clear HB; have HB := n0_; have BK629 := n1_; have GW629 := n2_; have GE629 := n3_; clear n0_ n1_ n2_ n3_; clear hb hbox hg) | ((with_reducible refine gate_callee (f := 31) rfl ?_); refine goesL_ (some 19) rfl rfl Try.func31 (by kernel_rfl) rfl #[] rfl (by (try simp only [List.map_toArray, List.map_cons, List.map_nil]); first | done | rfl | (simp only [List.length_drop, List.length_take]; rfl)) ?_; (with_reducible refine (sizarlaw15_saneC.calls  true _ A3.out).mono ?_); rintro e w102 ⟨rfl, hb⟩; refine ⟨_, rfl, ?_⟩; have n0_ := Aside0.mk (blk_below (g := gb629) (o := .cells #[.int .i64 a1_0, .int .i64 a1_1, .int .i64 a1_2, .int .i64 a1_3, .int .i64 a1_4] 39 (0, 0)) (by (with_reducible repeat (first | refine blk_drewN ?_ _ | refine blk_drew ?_ | refine blk_alloc ?_ _)); exact BK629.out) hb); have n1_ := Aside0.mk (below_step (by repeat (first | (with_reducible first | exact HB.out | apply below_alloc | apply pw_below_drewN | apply below_drew1 | refine below_set ?_ GE629.out) | exact HB.out)) hb); clear BK629; clear HB; have BK629 := n0_; have HB := n1_; clear n0_ n1_; (try clear hb); (try clear hb2); (try clear hk); (try clear hi)) | ((with_reducible refine gate_callee (f := 32) rfl ?_); refine goesL_ (some 22) rfl rfl Try.func32 (by kernel_rfl) rfl #[.slice A0 l0.length c0] rfl (by (try simp only [List.map_toArray, List.map_cons, List.map_nil]); first | done | rfl | (simp only [List.length_drop, List.length_take]; rfl)) ?_; (with_reducible refine (sizarref15_Few.calls _ _ l0 false _ ?side1 ?side2 A5.out).mono ?_); (case side1 => repeat (first | exact (Kd.C_below HR0.out HB.out) | (with_reducible refine Kd.C_alloc ?_ _) | (with_reducible refine Kd.C_drewN ?_ _) | (with_reducible refine Kd.C_drew ?_))); (case side2 => exact HC0.out); rintro e w' ⟨rfl, ⟨nd, rfl⟩⟩; refine ⟨_, rfl, ?_⟩))
   go_ret
   exact ⟨by first | rfl | (simp [errW_none, errW_some] <;> rfl) | (simp [*, errW_none, errW_some] <;> rfl), by repeat (first | (with_reducible first | exact HB.out | apply below_alloc | apply pw_below_drewN | apply below_drew1 | refine below_set ?_ GE629.out) | exact HB.out)⟩
 ·replace c4 := Bool.eq_false_iff.mpr c4
  subst c4
  have H1 : (some false) = some r := by rw [if_neg (show ¬ (false = true) by decide)] at H; exact H
  clear H
  have H := H1
  clear H1
  exact absurd ((Option.some.inj H).trans hrt.out) (by decide)

end Go.Proofs.Ytgoicalffgehoaa.P
