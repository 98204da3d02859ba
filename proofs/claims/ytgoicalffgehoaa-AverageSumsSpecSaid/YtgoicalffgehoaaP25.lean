/- Contracts of Go functions and the plain Lean functions that they compute, laid by this session's own program (wip/printall.sh). Conditions: as each theorem states them. -/
import Derived.Test.YtgoicalffgehoaaP0
import Derived.Test.YtgoicalffgehoaaP1
import Derived.Test.YtgoicalffgehoaaP11
import Derived.Test.YtgoicalffgehoaaCAvg
import Derived.Test.YtgoicalffgehoaaCRaf
import Derived.Test.YtgoicalffgehoaaCRag
import Derived.Test.YtgoicalffgehoaaCSen
import Derived.Test.YtgoicalffgehoaaESum
namespace Go.Proofs.Ytgoicalffgehoaa.P
open Go.RowKit Go.Proofs.YtgoicalffgehoaaW.PrintWords Go.Proofs.YtgoicalffgehoaaW.PrintLast Go.Proofs.YtgoicalffgehoaaW.PrintMore
attribute [local go_sem] max2_int min2_int max_two min_two max_three min_three max_four min_four   -- for this text's walks alone
set_option linter.unusedVariables false
set_option linter.unusedSimpArgs false

attribute [local go_sem high] eqA23
/-! ### sizarlaw15_AverageSumsSpec: function 13 -/
def sizarlaw15_AverageSumsSpec.f (l0 : List (S39)) : Option (Bool) := (sizarlaw15_saneC.f).bind fun t690 => (if t690 = true then ((sizarref15_Few.f l0).bind fun t691 => (if t691 = true then ((average_Sums.f l0).bind fun bt692 => ((sizarref15_SumsC.f l0).bind fun bt695 => ((average_MeanC.f l0).bind fun bt698 => ((sizarref15_MeanC.f l0).bind fun bt702 => ((average_Earned.f l0).bind fun bt706 => ((sizarref15_EarnedC.f l0).bind fun bt708 => (if bt692.1 = bt695.1 then (if bt692.2.1 = bt695.2.1 then (if bt692.2.2 = bt695.2.2 then (if (bt698.1 == bt702.1 && (bt698.2.1 == bt702.2.1)) = true then (if bt698.2.2 = bt702.2.2 then (if bt706.1 = bt708.1 then (some (bt706.2 == bt708.2)) else (some false)) else (some false)) else (some false)) else (some false)) else (some false)) else (some false)))))))) else (some true))) else (some false))
set_option maxHeartbeats 8000000 in
set_option maxRecDepth 100000 in
theorem sizarlaw15_AverageSumsSpec.calls (A0 : Option Addr) (c0 : Nat) (l0 : List (S39)) (r : Bool) (w : World) (hr0 : Kd.C k39 w A0 l0.length l0) (hc0 : l0.length ≤ c0) (hrt : Aside0 (r = true)) (h : sizarlaw15_AverageSumsSpec.f l0 = some r) :
    Calls Try.prog 13 #[.slice A0 l0.length c0] w fun e w' => e = .returned (.bool r) ∧ Below w.heap.size w w' := by
  have hu23 := Try.underlying23
  have HR0 := Aside0.mk hr0
  have HC0 := Aside0.mk hc0
  clear hr0 hc0
  have HB := Aside0.mk (Below.refl w.heap.size w)
  have H : ((sizarlaw15_saneC.f).bind fun t690 => (if t690 = true then ((sizarref15_Few.f l0).bind fun t691 => (if t691 = true then ((average_Sums.f l0).bind fun bt692 => ((sizarref15_SumsC.f l0).bind fun bt695 => ((average_MeanC.f l0).bind fun bt698 => ((sizarref15_MeanC.f l0).bind fun bt702 => ((average_Earned.f l0).bind fun bt706 => ((sizarref15_EarnedC.f l0).bind fun bt708 => (if bt692.1 = bt695.1 then (if bt692.2.1 = bt695.2.1 then (if bt692.2.2 = bt695.2.2 then (if (bt698.1 == bt702.1 && (bt698.2.1 == bt702.2.1)) = true then (if bt698.2.2 = bt702.2.2 then (if bt706.1 = bt708.1 then (some (bt706.2 == bt708.2)) else (some false)) else (some false)) else (some false)) else (some false)) else (some false)) else (some false)))))))) else (some true))) else (some false))) = some r := h
  clear h
  replace H := Option.bind_eq_some_iff.mp H
  obtain ⟨t690, A20, H⟩ := H
  replace H : (if t690 = true then ((sizarref15_Few.f l0).bind fun t691 => (if t691 = true then ((average_Sums.f l0).bind fun bt692 => ((sizarref15_SumsC.f l0).bind fun bt695 => ((average_MeanC.f l0).bind fun bt698 => ((sizarref15_MeanC.f l0).bind fun bt702 => ((average_Earned.f l0).bind fun bt706 => ((sizarref15_EarnedC.f l0).bind fun bt708 => (if bt692.1 = bt695.1 then (if bt692.2.1 = bt695.2.1 then (if bt692.2.2 = bt695.2.2 then (if (bt698.1 == bt702.1 && (bt698.2.1 == bt702.2.1)) = true then (if bt698.2.2 = bt702.2.2 then (if bt706.1 = bt708.1 then (some (bt706.2 == bt708.2)) else (some false)) else (some false)) else (some false)) else (some false)) else (some false)) else (some false)))))))) else (some true))) else (some false)) = some r := H
  have A2 := Aside0.mk A20
  clear A20
  by_cases c3 : t690 = true
  · subst c3
    have H1 : ((sizarref15_Few.f l0).bind fun t691 => (if t691 = true then ((average_Sums.f l0).bind fun bt692 => ((sizarref15_SumsC.f l0).bind fun bt695 => ((average_MeanC.f l0).bind fun bt698 => ((sizarref15_MeanC.f l0).bind fun bt702 => ((average_Earned.f l0).bind fun bt706 => ((sizarref15_EarnedC.f l0).bind fun bt708 => (if bt692.1 = bt695.1 then (if bt692.2.1 = bt695.2.1 then (if bt692.2.2 = bt695.2.2 then (if (bt698.1 == bt702.1 && (bt698.2.1 == bt702.2.1)) = true then (if bt698.2.2 = bt702.2.2 then (if bt706.1 = bt708.1 then (some (bt706.2 == bt708.2)) else (some false)) else (some false)) else (some false)) else (some false)) else (some false)) else (some false)))))))) else (some true))) = some r := by rw [if_pos rfl] at H; exact H
    clear H
    have H := H1
    clear H1
    replace H := Option.bind_eq_some_iff.mp H
    obtain ⟨t691, A40, H⟩ := H
    replace H : (if t691 = true then ((average_Sums.f l0).bind fun bt692 => ((sizarref15_SumsC.f l0).bind fun bt695 => ((average_MeanC.f l0).bind fun bt698 => ((sizarref15_MeanC.f l0).bind fun bt702 => ((average_Earned.f l0).bind fun bt706 => ((sizarref15_EarnedC.f l0).bind fun bt708 => (if bt692.1 = bt695.1 then (if bt692.2.1 = bt695.2.1 then (if bt692.2.2 = bt695.2.2 then (if (bt698.1 == bt702.1 && (bt698.2.1 == bt702.2.1)) = true then (if bt698.2.2 = bt702.2.2 then (if bt706.1 = bt708.1 then (some (bt706.2 == bt708.2)) else (some false)) else (some false)) else (some false)) else (some false)) else (some false)) else (some false)))))))) else (some true)) = some r := H
    have A4 := Aside0.mk A40
    clear A40
    by_cases c5 : t691 = true
    · subst c5
      have H1 : ((average_Sums.f l0).bind fun bt692 => ((sizarref15_SumsC.f l0).bind fun bt695 => ((average_MeanC.f l0).bind fun bt698 => ((sizarref15_MeanC.f l0).bind fun bt702 => ((average_Earned.f l0).bind fun bt706 => ((sizarref15_EarnedC.f l0).bind fun bt708 => (if bt692.1 = bt695.1 then (if bt692.2.1 = bt695.2.1 then (if bt692.2.2 = bt695.2.2 then (if (bt698.1 == bt702.1 && (bt698.2.1 == bt702.2.1)) = true then (if bt698.2.2 = bt702.2.2 then (if bt706.1 = bt708.1 then (some (bt706.2 == bt708.2)) else (some false)) else (some false)) else (some false)) else (some false)) else (some false)) else (some false)))))))) = some r := by rw [if_pos rfl] at H; exact H
      clear H
      have H := H1
      clear H1
      replace H := Option.bind_eq_some_iff.mp H
      obtain ⟨⟨t692, t693, t694⟩, A60, H⟩ := H
      replace H : ((sizarref15_SumsC.f l0).bind fun bt695 => ((average_MeanC.f l0).bind fun bt698 => ((sizarref15_MeanC.f l0).bind fun bt702 => ((average_Earned.f l0).bind fun bt706 => ((sizarref15_EarnedC.f l0).bind fun bt708 => (if t692 = bt695.1 then (if t693 = bt695.2.1 then (if t694 = bt695.2.2 then (if (bt698.1 == bt702.1 && (bt698.2.1 == bt702.2.1)) = true then (if bt698.2.2 = bt702.2.2 then (if bt706.1 = bt708.1 then (some (bt706.2 == bt708.2)) else (some false)) else (some false)) else (some false)) else (some false)) else (some false)) else (some false))))))) = some r := H
      have A6 := Aside0.mk A60
      clear A60
      replace H := Option.bind_eq_some_iff.mp H
      obtain ⟨⟨t695, t696, t697⟩, A70, H⟩ := H
      replace H : ((average_MeanC.f l0).bind fun bt698 => ((sizarref15_MeanC.f l0).bind fun bt702 => ((average_Earned.f l0).bind fun bt706 => ((sizarref15_EarnedC.f l0).bind fun bt708 => (if t692 = t695 then (if t693 = t696 then (if t694 = t697 then (if (bt698.1 == bt702.1 && (bt698.2.1 == bt702.2.1)) = true then (if bt698.2.2 = bt702.2.2 then (if bt706.1 = bt708.1 then (some (bt706.2 == bt708.2)) else (some false)) else (some false)) else (some false)) else (some false)) else (some false)) else (some false)))))) = some r := H
      have A7 := Aside0.mk A70
      clear A70
      replace H := Option.bind_eq_some_iff.mp H
      obtain ⟨⟨t698, t699, t700⟩, A80, H⟩ := H
      replace H : ((sizarref15_MeanC.f l0).bind fun bt702 => ((average_Earned.f l0).bind fun bt706 => ((sizarref15_EarnedC.f l0).bind fun bt708 => (if t692 = t695 then (if t693 = t696 then (if t694 = t697 then (if (t698 == bt702.1 && (t699 == bt702.2.1)) = true then (if t700 = bt702.2.2 then (if bt706.1 = bt708.1 then (some (bt706.2 == bt708.2)) else (some false)) else (some false)) else (some false)) else (some false)) else (some false)) else (some false))))) = some r := H
      have A8 := Aside0.mk A80
      clear A80
      replace H := Option.bind_eq_some_iff.mp H
      obtain ⟨⟨t702, t703, t704⟩, A90, H⟩ := H
      replace H : ((average_Earned.f l0).bind fun bt706 => ((sizarref15_EarnedC.f l0).bind fun bt708 => (if t692 = t695 then (if t693 = t696 then (if t694 = t697 then (if (t698 == t702 && (t699 == t703)) = true then (if t700 = t704 then (if bt706.1 = bt708.1 then (some (bt706.2 == bt708.2)) else (some false)) else (some false)) else (some false)) else (some false)) else (some false)) else (some false)))) = some r := H
      have A9 := Aside0.mk A90
      clear A90
      replace H := Option.bind_eq_some_iff.mp H
      obtain ⟨⟨t706, t707⟩, A100, H⟩ := H
      replace H : ((sizarref15_EarnedC.f l0).bind fun bt708 => (if t692 = t695 then (if t693 = t696 then (if t694 = t697 then (if (t698 == t702 && (t699 == t703)) = true then (if t700 = t704 then (if t706 = bt708.1 then (some (t707 == bt708.2)) else (some false)) else (some false)) else (some false)) else (some false)) else (some false)) else (some false))) = some r := H
      have A10 := Aside0.mk A100
      clear A100
      replace H := Option.bind_eq_some_iff.mp H
      obtain ⟨⟨t708, t709⟩, A110, H⟩ := H
      replace H : (if t692 = t695 then (if t693 = t696 then (if t694 = t697 then (if (t698 == t702 && (t699 == t703)) = true then (if t700 = t704 then (if t706 = t708 then (some (t707 == t709)) else (some false)) else (some false)) else (some false)) else (some false)) else (some false)) else (some false)) = some r := H
      have A11 := Aside0.mk A110
      clear A110
      by_cases c12 : t692 = t695
      · rw [if_pos c12] at H
        have c12b0 : (t692 == t695) = true := beq_iff_eq.mpr c12
        have c12b1 : (t692 != t695) = false := bne_eq_false_iff_eq.mpr c12
        clear c12
        by_cases c13 : t693 = t696
        · rw [if_pos c13] at H
          have c13b0 : (t693 == t696) = true := beq_iff_eq.mpr c13
          have c13b1 : (t693 != t696) = false := bne_eq_false_iff_eq.mpr c13
          clear c13
          by_cases c14 : t694 = t697
          · rw [if_pos c14] at H
            have c14b0 : (t694 == t697) = true := beq_iff_eq.mpr c14
            have c14b1 : (t694 != t697) = false := bne_eq_false_iff_eq.mpr c14
            clear c14
            by_cases c15 : (t698 == t702 && (t699 == t703)) = true
            · rw [if_pos c15] at H
              have c15b0 : (t698 == t702 && (t699 == t703)) = true := c15
              (try (have c15b1 : decide (t698 = t702 && (t699 == t703)) = true := by simpa using c15))
              (try (have c15b2 : (t698 == t702 && (t699 == t703)) = true := by simpa using c15))
              clear c15
              by_cases c16 : t700 = t704
              · rw [if_pos c16] at H
                have c16b0 : (t700 == t704) = true := beq_iff_eq.mpr c16
                have c16b1 : (t700 != t704) = false := bne_eq_false_iff_eq.mpr c16
                clear c16
                by_cases c17 : t706 = t708
                · rw [if_pos c17] at H
                  have c17b0 : (t706 == t708) = true := beq_iff_eq.mpr c17
                  have c17b1 : (t706 != t708) = false := bne_eq_false_iff_eq.mpr c17
                  clear c17
                  obtain rfl := Option.some.inj H
                  go_enter Try.func13, Try.ntmps13
                  go_wp2_with (first | ((with_reducible refine gate_callee (f := 31) rfl ?_); refine goesL_ (some 17) rfl rfl Try.func31 (by kernel_rfl) rfl #[] rfl (by (try simp only [List.map_toArray, List.map_cons, List.map_nil]); first | done | rfl | (simp only [List.length_drop, List.length_take]; rfl)) ?_; (with_reducible refine (sizarlaw15_saneC.calls  true _ A2.out).mono ?_); rintro e w18 ⟨rfl, hb⟩; refine ⟨_, rfl, ?_⟩; have n0_ := Aside0.mk (below_step (by repeat (first | (with_reducible first | exact HB.out | apply below_alloc | apply pw_below_drewN | apply below_drew1) | exact HB.out)) hb); clear HB; have HB := n0_; clear n0_; (try clear hb); (try clear hb2); (try clear hk); (try clear hi)) | ((with_reducible refine gate_callee (f := 32) rfl ?_); refine goesL_ (some 20) rfl rfl Try.func32 (by kernel_rfl) rfl #[.slice A0 l0.length c0] rfl (by (try simp only [List.map_toArray, List.map_cons, List.map_nil]); first | done | rfl | (simp only [List.length_drop, List.length_take]; rfl)) ?_; (with_reducible refine (sizarref15_Few.calls _ _ l0 true _ ?side1 ?side2 A4.out).mono ?_); (case side1 => repeat (first | exact (Kd.C_below HR0.out HB.out) | (with_reducible refine Kd.C_alloc ?_ _) | (with_reducible refine Kd.C_drewN ?_ _) | (with_reducible refine Kd.C_drew ?_))); (case side2 => exact HC0.out); rintro e w' ⟨rfl, ⟨nd, rfl⟩⟩; refine ⟨_, rfl, ?_⟩; (try (rw [drewN_self w18]; generalize hq_ : World.drewN w18 _ = w18; have n0_ : Aside0 (Below w.heap.size w w18) := ⟨by rw [← hq_]; exact (by repeat (first | (with_reducible first | exact HB.out | apply below_alloc | apply pw_below_drewN | apply below_drew1) | exact HB.out))⟩; clear HB hq_; have HB := n0_; clear n0_))) | ((with_reducible refine gate_callee (f := 37) rfl ?_); refine goesL_ (some 24) rfl rfl Try.func37 (by kernel_rfl) rfl #[.slice A0 l0.length c0] rfl (by (try simp only [List.map_toArray, List.map_cons, List.map_nil]); first | done | rfl | (simp only [List.length_drop, List.length_take]; rfl)) ?_; (with_reducible refine (average_Sums.calls _ _ l0 t692 t693 t694 _ ?side1 ?side2 A6.out).mono ?_); (case side1 => repeat (first | exact (Kd.C_below HR0.out HB.out) | (with_reducible refine Kd.C_alloc ?_ _) | (with_reducible refine Kd.C_drewN ?_ _) | (with_reducible refine Kd.C_drew ?_))); (case side2 => exact HC0.out); rintro e w19 ⟨rfl, hb⟩; refine ⟨_, rfl, ?_⟩; have n0_ := Aside0.mk (below_step (by repeat (first | (with_reducible first | exact HB.out | apply below_alloc | apply pw_below_drewN | apply below_drew1) | exact HB.out)) hb); clear HB; have HB := n0_; clear n0_; (try clear hb); (try clear hb2); (try clear hk); (try clear hi)) | ((with_reducible refine gate_callee (f := 38) rfl ?_); refine goesL_ (some 30) rfl rfl Try.func38 (by kernel_rfl) rfl #[.slice A0 l0.length c0] rfl (by (try simp only [List.map_toArray, List.map_cons, List.map_nil]); first | done | rfl | (simp only [List.length_drop, List.length_take]; rfl)) ?_; (with_reducible refine (sizarref15_SumsC.calls _ _ l0 t695 t696 t697 _ ?side1 ?side2 A7.out).mono ?_); (case side1 => repeat (first | exact (Kd.C_below HR0.out HB.out) | (with_reducible refine Kd.C_alloc ?_ _) | (with_reducible refine Kd.C_drewN ?_ _) | (with_reducible refine Kd.C_drew ?_))); (case side2 => exact HC0.out); rintro e w20 ⟨rfl, hb⟩; refine ⟨_, rfl, ?_⟩; have n0_ := Aside0.mk (below_step (by repeat (first | (with_reducible first | exact HB.out | apply below_alloc | apply pw_below_drewN | apply below_drew1) | exact HB.out)) hb); clear HB; have HB := n0_; clear n0_; (try clear hb); (try clear hb2); (try clear hk); (try clear hi)) | ((with_reducible refine gate_callee (f := 33) rfl ?_); refine goesL_ (some 36) rfl rfl Try.func33 (by kernel_rfl) rfl #[.slice A0 l0.length c0] rfl (by (try simp only [List.map_toArray, List.map_cons, List.map_nil]); first | done | rfl | (simp only [List.length_drop, List.length_take]; rfl)) ?_; (with_reducible refine (average_MeanC.calls _ _ l0 t698 t699 t700 _ ?side1 ?side2 A8.out).mono ?_); (case side1 => repeat (first | exact (Kd.C_below HR0.out HB.out) | (with_reducible refine Kd.C_alloc ?_ _) | (with_reducible refine Kd.C_drewN ?_ _) | (with_reducible refine Kd.C_drew ?_))); (case side2 => exact HC0.out); rintro e w21 ⟨rfl, hb⟩; refine ⟨_, rfl, ?_⟩; have n0_ := Aside0.mk (below_step (by repeat (first | (with_reducible first | exact HB.out | apply below_alloc | apply pw_below_drewN | apply below_drew1) | exact HB.out)) hb); clear HB; have HB := n0_; clear n0_; (try clear hb); (try clear hb2); (try clear hk); (try clear hi)) | ((with_reducible refine gate_dst (N := 9) rfl ?_); refine box_event ?hg (N := 9) ?hd (cs := #[.int .i64 0, .int .i64 0]) (t := 23) ?hr ?_; (case hd => rfl); (case hg => rfl); (case hr => first | (go_simp; done) | (go_simp; rfl)); intro gb701 hg w22 hbox hb; have n0_ := Aside0.mk (below_step (by repeat (first | (with_reducible first | exact HB.out | apply below_alloc | apply pw_below_drewN | apply below_drew1) | exact HB.out)) hb); have n1_ := Aside0.mk (hbox); have n2_ := Aside0.mk ((by rw [hg]; exact (below_size (by repeat (first | (with_reducible first | exact HB.out | apply below_alloc | apply pw_below_drewN | apply below_drew1) | exact HB.out))) : w.heap.size ≤ gb701)); have n3_ := Aside0.mk ((by rw [hg]; exact (below_size (by repeat (first | (with_reducible first | exact HB.out | apply below_alloc | apply pw_below_drewN | apply below_drew1) | exact HB.out))) : w.heap.size ≤ gb701)); clear HB; have HB := n0_; have BK701 := n1_; have GW701 := n2_; have GE701 := n3_; clear n0_ n1_ n2_ n3_; clear hb hbox hg; have hcz23_0 : w22.cell? ⟨gb701, 0, none⟩ = some (.int .i64 0) := (blk_cell BK701.out 0).trans rfl; have hcz23_1 : w22.cell? ⟨gb701, 1, none⟩ = some (.int .i64 0) := (blk_cell BK701.out 1).trans rfl; have hfz23_0 := blk_frozen BK701.out 0; have hfz23_1 := blk_frozen BK701.out 1) | ((with_reducible refine gate_callee (f := 39) rfl ?_); refine goesL_ (some 41) rfl rfl Try.func39 (by kernel_rfl) rfl #[.slice A0 l0.length c0] rfl (by (try simp only [List.map_toArray, List.map_cons, List.map_nil]); first | done | rfl | (simp only [List.length_drop, List.length_take]; rfl)) ?_; (with_reducible refine (sizarref15_MeanC.calls _ _ l0 t702 t703 t704 _ ?side1 ?side2 A9.out).mono ?_); (case side1 => exact Kd.C_below HR0.out (by repeat (first | (with_reducible first | exact HB.out | apply below_alloc | apply pw_below_drewN | apply below_drew1 | refine below_set ?_ GE701.out) | exact HB.out))); (case side2 => exact HC0.out); rintro e w24 ⟨rfl, hb⟩; refine ⟨_, rfl, ?_⟩; have n0_ := Aside0.mk (blk_below (g := gb701) (o := .cells #[.int .i64 t698, .int .i64 t699] 23 (0, 0)) (by (with_reducible repeat (first | refine blk_drewN ?_ _ | refine blk_drew ?_ | refine blk_alloc ?_ _)); refine blk_put (cs := #[.int .i64 t698, .int .i64 0]) ?_ 1 _ rfl; (with_reducible repeat (first | refine blk_drewN ?_ _ | refine blk_drew ?_ | refine blk_alloc ?_ _)); refine blk_put (cs := #[.int .i64 0, .int .i64 0]) ?_ 0 _ rfl; (with_reducible repeat (first | refine blk_drewN ?_ _ | refine blk_drew ?_ | refine blk_alloc ?_ _)); exact BK701.out) hb); have n1_ := Aside0.mk (below_step (by repeat (first | (with_reducible first | exact HB.out | apply below_alloc | apply pw_below_drewN | apply below_drew1 | refine below_set ?_ GE701.out) | exact HB.out)) hb); clear BK701; clear HB; have BK701 := n0_; have HB := n1_; clear n0_ n1_; (try clear hb); (try clear hb2); (try clear hk); (try clear hi)) | ((with_reducible refine gate_dst (N := 11) rfl ?_); refine box_event ?hg (N := 11) ?hd (cs := #[.int .i64 0, .int .i64 0]) (t := 23) ?hr ?_; (case hd => rfl); (case hg => rfl); (case hr => first | (go_simp; done) | (go_simp; rfl)); intro gb705 hg w25 hbox hb; have n0_ := Aside0.mk (blk_below (g := gb701) (o := .cells #[.int .i64 t698, .int .i64 t699] 23 (0, 0)) (by (with_reducible repeat (first | refine blk_drewN ?_ _ | refine blk_drew ?_ | refine blk_alloc ?_ _)); exact BK701.out) hb); have n1_ := Aside0.mk (below_step (by repeat (first | (with_reducible first | exact HB.out | apply below_alloc | apply pw_below_drewN | apply below_drew1 | refine below_set ?_ GE701.out) | exact HB.out)) hb); have n2_ := Aside0.mk (hbox); have n3_ := Aside0.mk ((by rw [hg]; exact (below_size (by repeat (first | (with_reducible first | exact HB.out | apply below_alloc | apply pw_below_drewN | apply below_drew1 | refine below_set ?_ GE701.out) | exact HB.out))) : w.heap.size ≤ gb705)); have n4_ := Aside0.mk ((by rw [hg]; exact (below_size (by repeat (first | (with_reducible first | exact HB.out | apply below_alloc | apply pw_below_drewN | apply below_drew1 | refine below_set ?_ GE701.out) | exact HB.out))) : w.heap.size ≤ gb705)); have n5_ := Aside0.mk ((by rw [hg]; exact Nat.ne_of_lt (blk_lt (g := gb701) (o := .cells #[.int .i64 t698, .int .i64 t699] 23 (0, 0)) (by (with_reducible repeat (first | refine blk_drewN ?_ _ | refine blk_drew ?_ | refine blk_alloc ?_ _)); exact BK701.out)) : gb701 ≠ gb705)); have n6_ := Aside0.mk ((by rw [hg]; exact Nat.ne_of_gt (blk_lt (g := gb701) (o := .cells #[.int .i64 t698, .int .i64 t699] 23 (0, 0)) (by (with_reducible repeat (first | refine blk_drewN ?_ _ | refine blk_drew ?_ | refine blk_alloc ?_ _)); exact BK701.out)) : gb705 ≠ gb701)); clear BK701; clear HB; have BK701 := n0_; have HB := n1_; have BK705 := n2_; have GW705 := n3_; have GE705 := n4_; have NB701_705 := n5_; have NB705_701 := n6_; clear n0_ n1_ n2_ n3_ n4_ n5_ n6_; clear hb hbox hg; have hnb26 := NB705_701.out; have hnc26 := NB701_705.out; have hcz27_0 : w25.cell? ⟨gb705, 0, none⟩ = some (.int .i64 0) := (blk_cell BK705.out 0).trans rfl; have hcz27_1 : w25.cell? ⟨gb705, 1, none⟩ = some (.int .i64 0) := (blk_cell BK705.out 1).trans rfl; have hfz27_0 := blk_frozen BK705.out 0; have hfz27_1 := blk_frozen BK705.out 1) | ((with_reducible refine gate_callee (f := 40) rfl ?_); refine goesL_ (some 46) rfl rfl Try.func40 (by kernel_rfl) rfl #[.slice A0 l0.length c0] rfl (by (try simp only [List.map_toArray, List.map_cons, List.map_nil]); first | done | rfl | (simp only [List.length_drop, List.length_take]; rfl)) ?_; (with_reducible refine (average_Earned.calls _ _ l0 t706 t707 _ ?side1 ?side2 A10.out).mono ?_); (case side1 => exact Kd.C_below HR0.out (by repeat (first | (with_reducible first | exact HB.out | apply below_alloc | apply pw_below_drewN | apply below_drew1 | refine below_set ?_ GE701.out | refine below_set ?_ GE705.out) | exact HB.out))); (case side2 => exact HC0.out); rintro e w28 ⟨rfl, hb⟩; refine ⟨_, rfl, ?_⟩; have n0_ := Aside0.mk (blk_below (g := gb701) (o := .cells #[.int .i64 t698, .int .i64 t699] 23 (0, 0)) (by (with_reducible repeat (first | refine blk_drewN ?_ _ | refine blk_drew ?_ | refine blk_alloc ?_ _)); refine blk_far ?_ NB701_705.out _; (with_reducible repeat (first | refine blk_drewN ?_ _ | refine blk_drew ?_ | refine blk_alloc ?_ _)); refine blk_far ?_ NB701_705.out _; (with_reducible repeat (first | refine blk_drewN ?_ _ | refine blk_drew ?_ | refine blk_alloc ?_ _)); exact BK701.out) hb); have n1_ := Aside0.mk (blk_below (g := gb705) (o := .cells #[.int .i64 t702, .int .i64 t703] 23 (0, 0)) (by (with_reducible repeat (first | refine blk_drewN ?_ _ | refine blk_drew ?_ | refine blk_alloc ?_ _)); refine blk_put (cs := #[.int .i64 t702, .int .i64 0]) ?_ 1 _ rfl; (with_reducible repeat (first | refine blk_drewN ?_ _ | refine blk_drew ?_ | refine blk_alloc ?_ _)); refine blk_put (cs := #[.int .i64 0, .int .i64 0]) ?_ 0 _ rfl; (with_reducible repeat (first | refine blk_drewN ?_ _ | refine blk_drew ?_ | refine blk_alloc ?_ _)); exact BK705.out) hb); have n2_ := Aside0.mk (below_step (by repeat (first | (with_reducible first | exact HB.out | apply below_alloc | apply pw_below_drewN | apply below_drew1 | refine below_set ?_ GE701.out | refine below_set ?_ GE705.out) | exact HB.out)) hb); clear BK701; clear BK705; clear HB; have BK701 := n0_; have BK705 := n1_; have HB := n2_; clear n0_ n1_ n2_; (try clear hb); (try clear hb2); (try clear hk); (try clear hi)) | ((with_reducible refine gate_callee (f := 41) rfl ?_); refine goesL_ (some 51) rfl rfl Try.func41 (by kernel_rfl) rfl #[.slice A0 l0.length c0] rfl (by (try simp only [List.map_toArray, List.map_cons, List.map_nil]); first | done | rfl | (simp only [List.length_drop, List.length_take]; rfl)) ?_; (with_reducible refine (sizarref15_EarnedC.calls _ _ l0 t708 t709 _ ?side1 ?side2 A11.out).mono ?_); (case side1 => repeat (first | exact (Kd.C_below HR0.out HB.out) | (with_reducible refine Kd.C_alloc ?_ _) | (with_reducible refine Kd.C_drewN ?_ _) | (with_reducible refine Kd.C_drew ?_))); (case side2 => exact HC0.out); rintro e w29 ⟨rfl, hb⟩; refine ⟨_, rfl, ?_⟩; have n0_ := Aside0.mk (blk_below (g := gb701) (o := .cells #[.int .i64 t698, .int .i64 t699] 23 (0, 0)) (by (with_reducible repeat (first | refine blk_drewN ?_ _ | refine blk_drew ?_ | refine blk_alloc ?_ _)); exact BK701.out) hb); have n1_ := Aside0.mk (blk_below (g := gb705) (o := .cells #[.int .i64 t702, .int .i64 t703] 23 (0, 0)) (by (with_reducible repeat (first | refine blk_drewN ?_ _ | refine blk_drew ?_ | refine blk_alloc ?_ _)); exact BK705.out) hb); have n2_ := Aside0.mk (below_step (by repeat (first | (with_reducible first | exact HB.out | apply below_alloc | apply pw_below_drewN | apply below_drew1 | refine below_set ?_ GE701.out | refine below_set ?_ GE705.out) | exact HB.out)) hb); clear BK701; clear BK705; clear HB; have BK701 := n0_; have BK705 := n1_; have HB := n2_; clear n0_ n1_ n2_; (try clear hb); (try clear hb2); (try clear hk); (try clear hi); have hcz30_0 : w29.cell? ⟨gb701, 0, none⟩ = some (.int .i64 t698) := (blk_cell BK701.out 0).trans rfl; have hcz30_1 : w29.cell? ⟨gb701, 1, none⟩ = some (.int .i64 t699) := (blk_cell BK701.out 1).trans rfl; have hfz30_0 := blk_frozen BK701.out 0; have hfz30_1 := blk_frozen BK701.out 1; have hcz31_0 : w29.cell? ⟨gb705, 0, none⟩ = some (.int .i64 t702) := (blk_cell BK705.out 0).trans rfl; have hcz31_1 : w29.cell? ⟨gb705, 1, none⟩ = some (.int .i64 t703) := (blk_cell BK705.out 1).trans rfl; have hfz31_0 := blk_frozen BK705.out 0; have hfz31_1 := blk_frozen BK705.out 1))
                  go_ret
                  exact ⟨by first | rfl | (simp [errW_none, errW_some] <;> rfl) | (simp [*, errW_none, errW_some] <;> rfl), by repeat (first | (with_reducible first | exact HB.out | apply below_alloc | apply pw_below_drewN | apply below_drew1 | refine below_set ?_ GE701.out | refine below_set ?_ GE705.out) | exact HB.out)⟩
                · rw [if_neg c17] at H
                  have c17b0 : (t706 == t708) = false := beq_eq_false_iff_ne.mpr c17
                  have c17b1 : (t706 != t708) = true := bne_iff_ne.mpr c17
                  exact absurd ((Option.some.inj H).trans hrt.out) (by decide)
              · rw [if_neg c16] at H
                have c16b0 : (t700 == t704) = false := beq_eq_false_iff_ne.mpr c16
                have c16b1 : (t700 != t704) = true := bne_iff_ne.mpr c16
                exact absurd ((Option.some.inj H).trans hrt.out) (by decide)
            · rw [if_neg c15] at H
              have c15b0 : (t698 == t702 && (t699 == t703)) = false := by simpa using c15
              (try (have c15b1 : decide (t698 = t702 && (t699 == t703)) = false := by simpa using c15))
              (try (have c15b2 : (t698 == t702 && (t699 == t703)) = false := by simpa using c15))
              (try (have c15b3 : ¬ (t698 = t702 && (t699 == t703)) := by simpa using c15))
              clear c15
              exact absurd ((Option.some.inj H).trans hrt.out) (by decide)
          · rw [if_neg c14] at H
            have c14b0 : (t694 == t697) = false := beq_eq_false_iff_ne.mpr c14
            have c14b1 : (t694 != t697) = true := bne_iff_ne.mpr c14
            exact absurd ((Option.some.inj H).trans hrt.out) (by decide)
        · rw [if_neg c13] at H
          have c13b0 : (t693 == t696) = false := beq_eq_false_iff_ne.mpr c13
          have c13b1 : (t693 != t696) = true := bne_iff_ne.mpr c13
          exact absurd ((Option.some.inj H).trans hrt.out) (by decide)
      · rw [if_neg c12] at H
        have c12b0 : (t692 == t695) = false := beq_eq_false_iff_ne.mpr c12
        have c12b1 : (t692 != t695) = true := bne_iff_ne.mpr c12
        exact absurd ((Option.some.inj H).trans hrt.out) (by decide)
    · replace c5 := Bool.eq_false_iff.mpr c5
      subst c5
      have H1 : (some true) = some r := by rw [if_neg (show ¬ (false = true) by decide)] at H; exact H
      clear H
      have H := H1
      clear H1
      obtain rfl := Option.some.inj H
      go_enter Try.func13, Try.ntmps13
      go_wp2_with (first | ((with_reducible refine gate_callee (f := 31) rfl ?_); refine goesL_ (some 17) rfl rfl Try.func31 (by kernel_rfl) rfl #[] rfl (by (try simp only [List.map_toArray, List.map_cons, List.map_nil]); first | done | rfl | (simp only [List.length_drop, List.length_take]; rfl)) ?_; (with_reducible refine (sizarlaw15_saneC.calls  true _ A2.out).mono ?_); rintro e w32 ⟨rfl, hb⟩; refine ⟨_, rfl, ?_⟩; have n0_ := Aside0.mk (below_step (by repeat (first | (with_reducible first | exact HB.out | apply below_alloc | apply pw_below_drewN | apply below_drew1) | exact HB.out)) hb); clear HB; have HB := n0_; clear n0_; (try clear hb); (try clear hb2); (try clear hk); (try clear hi)) | ((with_reducible refine gate_callee (f := 32) rfl ?_); refine goesL_ (some 20) rfl rfl Try.func32 (by kernel_rfl) rfl #[.slice A0 l0.length c0] rfl (by (try simp only [List.map_toArray, List.map_cons, List.map_nil]); first | done | rfl | (simp only [List.length_drop, List.length_take]; rfl)) ?_; (with_reducible refine (sizarref15_Few.calls _ _ l0 false _ ?side1 ?side2 A4.out).mono ?_); (case side1 => repeat (first | exact (Kd.C_below HR0.out HB.out) | (with_reducible refine Kd.C_alloc ?_ _) | (with_reducible refine Kd.C_drewN ?_ _) | (with_reducible refine Kd.C_drew ?_))); (case side2 => exact HC0.out); rintro e w' ⟨rfl, ⟨nd, rfl⟩⟩; refine ⟨_, rfl, ?_⟩))
      go_ret
      exact ⟨by first | rfl | (simp [errW_none, errW_some] <;> rfl) | (simp [*, errW_none, errW_some] <;> rfl), by repeat (first | (with_reducible first | exact HB.out | apply below_alloc | apply pw_below_drewN | apply below_drew1) | exact HB.out)⟩
  · replace c3 := Bool.eq_false_iff.mpr c3
    subst c3
    have H1 : (some false) = some r := by rw [if_neg (show ¬ (false = true) by decide)] at H; exact H
    clear H
    have H := H1
    clear H1
    exact absurd ((Option.some.inj H).trans hrt.out) (by decide)

end Go.Proofs.Ytgoicalffgehoaa.P
