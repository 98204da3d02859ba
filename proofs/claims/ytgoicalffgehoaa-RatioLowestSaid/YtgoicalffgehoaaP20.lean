/- Contracts of Go functions and the plain Lean functions that they compute, laid by this session's own program (wip/printall.sh). Conditions: as each theorem states them. -/
import Derived.Test.YtgoicalffgehoaaP0
import Derived.Test.YtgoicalffgehoaaP1
import Derived.Test.YtgoicalffgehoaaCSan
import Derived.Test.YtgoicalffgehoaaERat
namespace Go.Proofs.Ytgoicalffgehoaa.P
open Go.RowKit Go.Proofs.YtgoicalffgehoaaW.PrintWords Go.Proofs.YtgoicalffgehoaaW.PrintLast Go.Proofs.YtgoicalffgehoaaW.PrintMore
attribute [local go_sem] max2_int min2_int max_two min_two max_three min_three max_four min_four   -- for this text's walks alone
set_option linter.unusedVariables false
set_option linter.unusedSimpArgs false

attribute [local go_sem high] eqA23
/-! ### sizarlaw05_RatioLowest: function 10 -/
mutual
def sizarlaw05_RatioLowest.j0 : Nat → Int → Int → Int → Bool → Option (Bool)
  | 0, _, _, _, _ => none
  | k + 1, x0, x1, x2, x27 => if x27 = true then ((ratio_NewC.f (wrap64 (x0)) 0).bind fun bt523 => (some (bt523.2.2 == 1))) else ((ratio_NewC.f (wrap64 (x0)) (wrap64 (x1))).bind fun bt527 => ((ratio_NewC.f (wrap64 ((wrap64 (x0)) * (wrap64 (x2)))) (wrap64 ((wrap64 (x1)) * (wrap64 (x2))))).bind fun bt531 => ((ratio_NewC.f (wrap64 (-(wrap64 (x0)))) (wrap64 (-(wrap64 (x1))))).bind fun bt535 => (if (!(bt527.1 == bt531.1) || (!(bt527.2.1 == bt531.2.1))) = true then (sizarlaw05_RatioLowest.j1 k (wrap64 (x0)) (wrap64 (x1)) bt527.2.2 true bt527.1 bt527.2.1) else (if (!(bt527.1 == bt535.1) || (!(bt527.2.1 == bt535.2.1))) = true then (sizarlaw05_RatioLowest.j1 k (wrap64 (x0)) (wrap64 (x1)) bt527.2.2 true bt527.1 bt527.2.1) else (if bt527.2.2 = bt531.2.2 then (sizarlaw05_RatioLowest.j1 k (wrap64 (x0)) (wrap64 (x1)) bt527.2.2 (bt527.2.2 != bt535.2.2) bt527.1 bt527.2.1) else (sizarlaw05_RatioLowest.j1 k (wrap64 (x0)) (wrap64 (x1)) bt527.2.2 true bt527.1 bt527.2.1)))))))
def sizarlaw05_RatioLowest.j1 : Nat → Int → Int → Int → Bool → Int → Int → Option (Bool)
  | 0, _, _, _, _, _, _ => none
  | k + 1, x9, x10, x13, x83, x531000, x531001 => if x83 = true then (some false) else (if x13 = 0 then ((ratio_NewC.f x531000 x531001).bind fun bt539 => (if bt539.2.2 = 0 then (if (bt539.1 == x531000 && (bt539.2.1 == x531001)) = true then (if (wrap64 (x531000 * x10)) = (wrap64 (x9 * x531001)) then ((ratio_CheckC.f x531000 x531001).bind fun t543 => (some (t543 == 0))) else (some false)) else (some false)) else (some false))) else (if x13 = 2 then (some (x531000 == 0 && (x531001 == 0))) else (some false)))
end
def sizarlaw05_RatioLowest.f (k : Nat) (a0 : Int) (a1 : Int) (a2 : Int) : Option (Bool) := (sizarlaw05_saneC.f).bind fun t522 => (if t522 = true then (if a1 = 0 then (sizarlaw05_RatioLowest.j0 k a0 a1 a2 true) else (sizarlaw05_RatioLowest.j0 k a0 a1 a2 (a2 == 0))) else (some false))
theorem sizarlaw05_RatioLowest.mono_l : ∀ k, (∀ y0 y1 y2 y3, LeO (sizarlaw05_RatioLowest.j0 k y0 y1 y2 y3) (sizarlaw05_RatioLowest.j0 (k + 1) y0 y1 y2 y3)) ∧ (∀ y0 y1 y2 y3 y4 y5, LeO (sizarlaw05_RatioLowest.j1 k y0 y1 y2 y3 y4 y5) (sizarlaw05_RatioLowest.j1 (k + 1) y0 y1 y2 y3 y4 y5))
  | 0 => ⟨fun _ _ _ _ r h => by simp [sizarlaw05_RatioLowest.j0] at h, fun _ _ _ _ _ _ r h => by simp [sizarlaw05_RatioLowest.j1] at h⟩
  | k + 1 => by
    obtain ⟨ih0, ih1⟩ := sizarlaw05_RatioLowest.mono_l k
    refine ⟨?_, ?_⟩
    · intro y0 y1 y2 y3
      unfold sizarlaw05_RatioLowest.j0
      repeat' first
      | (with_reducible exact ih0 _ _ _ _)
      | (with_reducible exact ih1 _ _ _ _ _ _)
      | (with_reducible exact LeO.refl _)
      | (with_reducible exact LeO.none _)
      | (with_reducible refine LeO.ite ?_ ?_)
      | (with_reducible refine LeO.bind ?_ (fun _ => ?_))
      | exact ih0 _ _ _ _
      | exact ih1 _ _ _ _ _ _
      | exact LeO.none _
      | refine LeO.ite ?_ ?_
      | refine LeO.bind ?_ (fun _ => ?_)
    · intro y0 y1 y2 y3 y4 y5
      unfold sizarlaw05_RatioLowest.j1
      repeat' first
      | (with_reducible exact ih0 _ _ _ _)
      | (with_reducible exact ih1 _ _ _ _ _ _)
      | (with_reducible exact LeO.refl _)
      | (with_reducible exact LeO.none _)
      | (with_reducible refine LeO.ite ?_ ?_)
      | (with_reducible refine LeO.bind ?_ (fun _ => ?_))
      | exact ih0 _ _ _ _
      | exact ih1 _ _ _ _ _ _
      | exact LeO.none _
      | refine LeO.ite ?_ ?_
      | refine LeO.bind ?_ (fun _ => ?_)
theorem sizarlaw05_RatioLowest.mono : ∀ a0 a1 a2 k, LeO (sizarlaw05_RatioLowest.f k a0 a1 a2) (sizarlaw05_RatioLowest.f (k + 1) a0 a1 a2) := by
  intro a0 a1 a2 k
  obtain ⟨ih0, ih1⟩ := sizarlaw05_RatioLowest.mono_l k
  unfold sizarlaw05_RatioLowest.f
  repeat' first
      | (with_reducible exact ih0 _ _ _ _)
      | (with_reducible exact ih1 _ _ _ _ _ _)
      | (with_reducible exact LeO.refl _)
      | (with_reducible exact LeO.none _)
      | (with_reducible refine LeO.ite ?_ ?_)
      | (with_reducible refine LeO.bind ?_ (fun _ => ?_))
      | exact ih0 _ _ _ _
      | exact ih1 _ _ _ _ _ _
      | exact LeO.none _
      | refine LeO.ite ?_ ?_
      | refine LeO.bind ?_ (fun _ => ?_)
set_option maxHeartbeats 8000000 in
set_option maxRecDepth 100000 in
theorem sizarlaw05_RatioLowest.calls (k : Nat) (a0 : Int) (a1 : Int) (a2 : Int) (r : Bool) (w : World) (hrt : Aside0 (r = true)) (h : sizarlaw05_RatioLowest.f k a0 a1 a2 = some r) :
    Calls Try.prog 10 #[.int .i32 a0, .int .i32 a1, .int .i16 a2] w fun e w' => e = .returned (.bool r) ∧ Below w.heap.size w w' := by
  have hu23 := Try.underlying23
  have HB := Aside0.mk (Below.refl w.heap.size w)
  have H : ((sizarlaw05_saneC.f).bind fun t522 => (if t522 = true then (if a1 = 0 then (sizarlaw05_RatioLowest.j0 k a0 a1 a2 true) else (sizarlaw05_RatioLowest.j0 k a0 a1 a2 (a2 == 0))) else (some false))) = some r := h
  clear h
  replace H := Option.bind_eq_some_iff.mp H
  obtain ⟨t522, A40, H⟩ := H
  replace H : (if t522 = true then (if a1 = 0 then (sizarlaw05_RatioLowest.j0 k a0 a1 a2 true) else (sizarlaw05_RatioLowest.j0 k a0 a1 a2 (a2 == 0))) else (some false)) = some r := H
  have A4 := Aside0.mk A40
  clear A40
  by_cases c5 : t522 = true
  · subst c5
    have H1 : (if a1 = 0 then (sizarlaw05_RatioLowest.j0 k a0 a1 a2 true) else (sizarlaw05_RatioLowest.j0 k a0 a1 a2 (a2 == 0))) = some r := by rw [if_pos rfl] at H; exact H
    clear H
    have H := H1
    clear H1
    have HC6 := Aside0.mk H
    clear H
    go_enter Try.func10, Try.ntmps10
    go_upto_region 3 with (first | ((with_reducible refine gate_callee (f := 18) rfl ?_); refine goesL_ (some 20) rfl rfl Try.func18 (by kernel_rfl) rfl #[] rfl (by (try simp only [List.map_toArray, List.map_cons, List.map_nil]); first | done | rfl | (simp only [List.length_drop, List.length_take]; rfl)) ?_; (with_reducible refine (sizarlaw05_saneC.calls  true _ A4.out).mono ?_); rintro e w7 ⟨rfl, hb⟩; refine ⟨_, rfl, ?_⟩; have n0_ := Aside0.mk (below_step (by repeat (first | (with_reducible first | exact HB.out | apply below_alloc | apply pw_below_drewN | apply below_drew1) | exact HB.out)) hb); clear HB; have HB := n0_; clear n0_; (try clear hb); (try clear hb2); (try clear hk); (try clear hi)))
    (try simp only [Act.put, List.setIfInBounds_toArray, List.set_cons_zero, List.set_cons_succ])
    go_cut [27] (fun v27 wc => ∃ (kq : Nat) (x27_5 : Bool), v27 = .bool x27_5 ∧ Aside0 (sizarlaw05_RatioLowest.j0 kq a0 a1 a2 x27_5 = some r) ∧ Aside0 (kq ≤ k) ∧ Aside0 (Below w.heap.size w wc))
    case first =>
      have H := HC6.out
      clear HC6
      by_cases c8 : a1 = 0
      · rw [if_pos c8] at H
        have c8b0 : (a1 == 0) = true := beq_iff_eq.mpr c8
        have c8b1 : (a1 != 0) = false := bne_eq_false_iff_eq.mpr c8
        clear c8
        (first | rw [c8b0] | (simp only [i64_w, i32_w]; rw [c8b0]) | skip)
        have H' := Aside0.mk H
        clear H
        go_wp2
        go_meet
        case rel => exact ⟨_, (true), (by first | rfl | (simp; done) | (simp [*]; done)), H', ⟨by first | omega | exact Nat.le_refl _⟩, ⟨by repeat (first | (with_reducible first | exact HB.out | apply below_alloc | apply pw_below_drewN | apply below_drew1) | exact HB.out)⟩⟩
      · rw [if_neg c8] at H
        have c8b0 : (a1 == 0) = false := beq_eq_false_iff_ne.mpr c8
        have c8b1 : (a1 != 0) = true := bne_iff_ne.mpr c8
        (first | rw [c8b0] | (simp only [i64_w, i32_w]; rw [c8b0]) | skip)
        have H' := Aside0.mk H
        clear H
        go_wp2
        go_meet
        case rel => exact ⟨_, ((a2 == 0)), (by first | rfl | (simp; done) | (simp [*]; done)), H', ⟨by first | omega | exact Nat.le_refl _⟩, ⟨by repeat (first | (with_reducible first | exact HB.out | apply below_alloc | apply pw_below_drewN | apply below_drew1) | exact HB.out)⟩⟩
    case rest =>
      clear HC6
      try clear c1
      try clear p2
      try clear c5
      try clear c8
      try clear c8b0
      try clear c8b1
      obtain ⟨kq, x27_5, rfl, HA, HJ5, HB⟩ := hcut
      cases kq with
      | zero => exact absurd HA.out (by simp [sizarlaw05_RatioLowest.j0])
      | succ kj5 =>
        have H := HA.out
        clear HA
        simp only [sizarlaw05_RatioLowest.j0] at H
        by_cases c9 : x27_5 = true
        · subst c9
          have H1 : ((ratio_NewC.f (wrap64 (a0)) 0).bind fun bt523 => (some (bt523.2.2 == 1))) = some r := by rw [if_pos rfl] at H; exact H
          clear H
          have H := H1
          clear H1
          replace H := Option.bind_eq_some_iff.mp H
          obtain ⟨⟨t523, t524, t525⟩, A100, H⟩ := H
          replace H : (some (t525 == 1)) = some r := H
          have A10 := Aside0.mk A100
          clear A100
          obtain rfl := Option.some.inj H
          go_wp2_with (first | ((with_reducible refine gate_callee (f := 19) rfl ?_); refine goesL_ (some 31) rfl rfl Try.func19 (by kernel_rfl) rfl #[.int .i64 (wrap64 (a0)), .int .i64 0] rfl (by (try simp only [List.map_toArray, List.map_cons, List.map_nil]); first | done | rfl | (simp only [List.length_drop, List.length_take]; rfl)) ?_; (with_reducible refine (ratio_NewC.calls (wrap64 (a0)) 0 t523 t524 t525 _ A10.out).mono ?_); rintro e w11 ⟨rfl, hb⟩; refine ⟨_, rfl, ?_⟩; have n0_ := Aside0.mk (below_step (by repeat (first | (with_reducible first | exact HB.out | apply below_alloc | apply pw_below_drewN | apply below_drew1) | exact HB.out)) hb); clear HB; have HB := n0_; clear n0_; (try clear hb); (try clear hb2); (try clear hk); (try clear hi)) | ((with_reducible refine gate_dst (N := 7) rfl ?_); refine box_event ?hg (N := 7) ?hd (cs := #[.int .i64 0, .int .i64 0]) (t := 23) ?hr ?_; (case hd => rfl); (case hg => rfl); (case hr => first | (go_simp; done) | (go_simp; rfl)); intro gb526 hg w12 hbox hb; have n0_ := Aside0.mk (below_step (by repeat (first | (with_reducible first | exact HB.out | apply below_alloc | apply pw_below_drewN | apply below_drew1) | exact HB.out)) hb); have n1_ := Aside0.mk (hbox); have n2_ := Aside0.mk ((by rw [hg]; exact (below_size (by repeat (first | (with_reducible first | exact HB.out | apply below_alloc | apply pw_below_drewN | apply below_drew1) | exact HB.out))) : w.heap.size ≤ gb526)); have n3_ := Aside0.mk ((by rw [hg]; exact (below_size (by repeat (first | (with_reducible first | exact HB.out | apply below_alloc | apply pw_below_drewN | apply below_drew1) | exact HB.out))) : w.heap.size ≤ gb526)); clear HB; have HB := n0_; have BK526 := n1_; have GW526 := n2_; have GE526 := n3_; clear n0_ n1_ n2_ n3_; clear hb hbox hg; have hcz13_0 : w12.cell? ⟨gb526, 0, none⟩ = some (.int .i64 0) := (blk_cell BK526.out 0).trans rfl; have hcz13_1 : w12.cell? ⟨gb526, 1, none⟩ = some (.int .i64 0) := (blk_cell BK526.out 1).trans rfl; have hfz13_0 := blk_frozen BK526.out 0; have hfz13_1 := blk_frozen BK526.out 1))
          go_ret
          exact ⟨by first | rfl | (simp [errW_none, errW_some] <;> rfl) | (simp [*, errW_none, errW_some] <;> rfl), by repeat (first | (with_reducible first | exact HB.out | apply below_alloc | apply pw_below_drewN | apply below_drew1 | refine below_set ?_ GE526.out) | exact HB.out)⟩
        · replace c9 := Bool.eq_false_iff.mpr c9
          subst c9
          have H1 : ((ratio_NewC.f (wrap64 (a0)) (wrap64 (a1))).bind fun bt527 => ((ratio_NewC.f (wrap64 ((wrap64 (a0)) * (wrap64 (a2)))) (wrap64 ((wrap64 (a1)) * (wrap64 (a2))))).bind fun bt531 => ((ratio_NewC.f (wrap64 (-(wrap64 (a0)))) (wrap64 (-(wrap64 (a1))))).bind fun bt535 => (if (!(bt527.1 == bt531.1) || (!(bt527.2.1 == bt531.2.1))) = true then (sizarlaw05_RatioLowest.j1 kj5 (wrap64 (a0)) (wrap64 (a1)) bt527.2.2 true bt527.1 bt527.2.1) else (if (!(bt527.1 == bt535.1) || (!(bt527.2.1 == bt535.2.1))) = true then (sizarlaw05_RatioLowest.j1 kj5 (wrap64 (a0)) (wrap64 (a1)) bt527.2.2 true bt527.1 bt527.2.1) else (if bt527.2.2 = bt531.2.2 then (sizarlaw05_RatioLowest.j1 kj5 (wrap64 (a0)) (wrap64 (a1)) bt527.2.2 (bt527.2.2 != bt535.2.2) bt527.1 bt527.2.1) else (sizarlaw05_RatioLowest.j1 kj5 (wrap64 (a0)) (wrap64 (a1)) bt527.2.2 true bt527.1 bt527.2.1))))))) = some r := by rw [if_neg (show ¬ (false = true) by decide)] at H; exact H
          clear H
          have H := H1
          clear H1
          replace H := Option.bind_eq_some_iff.mp H
          obtain ⟨⟨t527, t528, t529⟩, A140, H⟩ := H
          replace H : ((ratio_NewC.f (wrap64 ((wrap64 (a0)) * (wrap64 (a2)))) (wrap64 ((wrap64 (a1)) * (wrap64 (a2))))).bind fun bt531 => ((ratio_NewC.f (wrap64 (-(wrap64 (a0)))) (wrap64 (-(wrap64 (a1))))).bind fun bt535 => (if (!(t527 == bt531.1) || (!(t528 == bt531.2.1))) = true then (sizarlaw05_RatioLowest.j1 kj5 (wrap64 (a0)) (wrap64 (a1)) t529 true t527 t528) else (if (!(t527 == bt535.1) || (!(t528 == bt535.2.1))) = true then (sizarlaw05_RatioLowest.j1 kj5 (wrap64 (a0)) (wrap64 (a1)) t529 true t527 t528) else (if t529 = bt531.2.2 then (sizarlaw05_RatioLowest.j1 kj5 (wrap64 (a0)) (wrap64 (a1)) t529 (t529 != bt535.2.2) t527 t528) else (sizarlaw05_RatioLowest.j1 kj5 (wrap64 (a0)) (wrap64 (a1)) t529 true t527 t528)))))) = some r := H
          have A14 := Aside0.mk A140
          clear A140
          replace H := Option.bind_eq_some_iff.mp H
          obtain ⟨⟨t531, t532, t533⟩, A150, H⟩ := H
          replace H : ((ratio_NewC.f (wrap64 (-(wrap64 (a0)))) (wrap64 (-(wrap64 (a1))))).bind fun bt535 => (if (!(t527 == t531) || (!(t528 == t532))) = true then (sizarlaw05_RatioLowest.j1 kj5 (wrap64 (a0)) (wrap64 (a1)) t529 true t527 t528) else (if (!(t527 == bt535.1) || (!(t528 == bt535.2.1))) = true then (sizarlaw05_RatioLowest.j1 kj5 (wrap64 (a0)) (wrap64 (a1)) t529 true t527 t528) else (if t529 = t533 then (sizarlaw05_RatioLowest.j1 kj5 (wrap64 (a0)) (wrap64 (a1)) t529 (t529 != bt535.2.2) t527 t528) else (sizarlaw05_RatioLowest.j1 kj5 (wrap64 (a0)) (wrap64 (a1)) t529 true t527 t528))))) = some r := H
          have A15 := Aside0.mk A150
          clear A150
          replace H := Option.bind_eq_some_iff.mp H
          obtain ⟨⟨t535, t536, t537⟩, A160, H⟩ := H
          replace H : (if (!(t527 == t531) || (!(t528 == t532))) = true then (sizarlaw05_RatioLowest.j1 kj5 (wrap64 (a0)) (wrap64 (a1)) t529 true t527 t528) else (if (!(t527 == t535) || (!(t528 == t536))) = true then (sizarlaw05_RatioLowest.j1 kj5 (wrap64 (a0)) (wrap64 (a1)) t529 true t527 t528) else (if t529 = t533 then (sizarlaw05_RatioLowest.j1 kj5 (wrap64 (a0)) (wrap64 (a1)) t529 (t529 != t537) t527 t528) else (sizarlaw05_RatioLowest.j1 kj5 (wrap64 (a0)) (wrap64 (a1)) t529 true t527 t528)))) = some r := H
          have A16 := Aside0.mk A160
          clear A160
          have HC17 := Aside0.mk H
          clear H
          go_upto_region 10 with (first | ((with_reducible refine gate_callee (f := 19) rfl ?_); refine goesL_ (some 45) rfl rfl Try.func19 (by kernel_rfl) rfl #[.int .i64 (wrap64 (a0)), .int .i64 (wrap64 (a1))] rfl (by (try simp only [List.map_toArray, List.map_cons, List.map_nil]); first | done | rfl | (simp only [List.length_drop, List.length_take]; rfl)) ?_; (with_reducible refine (ratio_NewC.calls (wrap64 (a0)) (wrap64 (a1)) t527 t528 t529 _ A14.out).mono ?_); rintro e w18 ⟨rfl, hb⟩; refine ⟨_, rfl, ?_⟩; have n0_ := Aside0.mk (below_step (by repeat (first | (with_reducible first | exact HB.out | apply below_alloc | apply pw_below_drewN | apply below_drew1) | exact HB.out)) hb); clear HB; have HB := n0_; clear n0_; (try clear hb); (try clear hb2); (try clear hk); (try clear hi)) | ((with_reducible refine gate_dst (N := 12) rfl ?_); refine box_event ?hg (N := 12) ?hd (cs := #[.int .i64 0, .int .i64 0]) (t := 23) ?hr ?_; (case hd => rfl); (case hg => rfl); (case hr => first | (go_simp; done) | (go_simp; rfl)); intro gb530 hg w19 hbox hb; have n0_ := Aside0.mk (below_step (by repeat (first | (with_reducible first | exact HB.out | apply below_alloc | apply pw_below_drewN | apply below_drew1) | exact HB.out)) hb); have n1_ := Aside0.mk (hbox); have n2_ := Aside0.mk ((by rw [hg]; exact (below_size (by repeat (first | (with_reducible first | exact HB.out | apply below_alloc | apply pw_below_drewN | apply below_drew1) | exact HB.out))) : w.heap.size ≤ gb530)); have n3_ := Aside0.mk ((by rw [hg]; exact (below_size (by repeat (first | (with_reducible first | exact HB.out | apply below_alloc | apply pw_below_drewN | apply below_drew1) | exact HB.out))) : w.heap.size ≤ gb530)); clear HB; have HB := n0_; have BK530 := n1_; have GW530 := n2_; have GE530 := n3_; clear n0_ n1_ n2_ n3_; clear hb hbox hg; have hcz20_0 : w19.cell? ⟨gb530, 0, none⟩ = some (.int .i64 0) := (blk_cell BK530.out 0).trans rfl; have hcz20_1 : w19.cell? ⟨gb530, 1, none⟩ = some (.int .i64 0) := (blk_cell BK530.out 1).trans rfl; have hfz20_0 := blk_frozen BK530.out 0; have hfz20_1 := blk_frozen BK530.out 1) | ((with_reducible refine gate_callee (f := 19) rfl ?_); refine goesL_ (some 55) rfl rfl Try.func19 (by kernel_rfl) rfl #[.int .i64 (wrap64 ((wrap64 (a0)) * (wrap64 (a2)))), .int .i64 (wrap64 ((wrap64 (a1)) * (wrap64 (a2))))] rfl (by (try simp only [List.map_toArray, List.map_cons, List.map_nil]); first | done | rfl | (simp only [List.length_drop, List.length_take]; rfl)) ?_; (with_reducible refine (ratio_NewC.calls (wrap64 ((wrap64 (a0)) * (wrap64 (a2)))) (wrap64 ((wrap64 (a1)) * (wrap64 (a2)))) t531 t532 t533 _ A15.out).mono ?_); rintro e w21 ⟨rfl, hb⟩; refine ⟨_, rfl, ?_⟩; have n0_ := Aside0.mk (blk_below (g := gb530) (o := .cells #[.int .i64 t527, .int .i64 t528] 23 (0, 0)) (by (with_reducible repeat (first | refine blk_drewN ?_ _ | refine blk_drew ?_ | refine blk_alloc ?_ _)); refine blk_put (cs := #[.int .i64 t527, .int .i64 0]) ?_ 1 _ rfl; (with_reducible repeat (first | refine blk_drewN ?_ _ | refine blk_drew ?_ | refine blk_alloc ?_ _)); refine blk_put (cs := #[.int .i64 0, .int .i64 0]) ?_ 0 _ rfl; (with_reducible repeat (first | refine blk_drewN ?_ _ | refine blk_drew ?_ | refine blk_alloc ?_ _)); exact BK530.out) hb); have n1_ := Aside0.mk (below_step (by repeat (first | (with_reducible first | exact HB.out | apply below_alloc | apply pw_below_drewN | apply below_drew1 | refine below_set ?_ GE530.out) | exact HB.out)) hb); clear BK530; clear HB; have BK530 := n0_; have HB := n1_; clear n0_ n1_; (try clear hb); (try clear hb2); (try clear hk); (try clear hi)) | ((with_reducible refine gate_dst (N := 14) rfl ?_); refine box_event ?hg (N := 14) ?hd (cs := #[.int .i64 0, .int .i64 0]) (t := 23) ?hr ?_; (case hd => rfl); (case hg => rfl); (case hr => first | (go_simp; done) | (go_simp; rfl)); intro gb534 hg w22 hbox hb; have n0_ := Aside0.mk (blk_below (g := gb530) (o := .cells #[.int .i64 t527, .int .i64 t528] 23 (0, 0)) (by (with_reducible repeat (first | refine blk_drewN ?_ _ | refine blk_drew ?_ | refine blk_alloc ?_ _)); exact BK530.out) hb); have n1_ := Aside0.mk (below_step (by repeat (first | (with_reducible first | exact HB.out | apply below_alloc | apply pw_below_drewN | apply below_drew1 | refine below_set ?_ GE530.out) | exact HB.out)) hb); have n2_ := Aside0.mk (hbox); have n3_ := Aside0.mk ((by rw [hg]; exact (below_size (by repeat (first | (with_reducible first | exact HB.out | apply below_alloc | apply pw_below_drewN | apply below_drew1 | refine below_set ?_ GE530.out) | exact HB.out))) : w.heap.size ≤ gb534)); have n4_ := Aside0.mk ((by rw [hg]; exact (below_size (by repeat (first | (with_reducible first | exact HB.out | apply below_alloc | apply pw_below_drewN | apply below_drew1 | refine below_set ?_ GE530.out) | exact HB.out))) : w.heap.size ≤ gb534)); have n5_ := Aside0.mk ((by rw [hg]; exact Nat.ne_of_lt (blk_lt (g := gb530) (o := .cells #[.int .i64 t527, .int .i64 t528] 23 (0, 0)) (by (with_reducible repeat (first | refine blk_drewN ?_ _ | refine blk_drew ?_ | refine blk_alloc ?_ _)); exact BK530.out)) : gb530 ≠ gb534)); have n6_ := Aside0.mk ((by rw [hg]; exact Nat.ne_of_gt (blk_lt (g := gb530) (o := .cells #[.int .i64 t527, .int .i64 t528] 23 (0, 0)) (by (with_reducible repeat (first | refine blk_drewN ?_ _ | refine blk_drew ?_ | refine blk_alloc ?_ _)); exact BK530.out)) : gb534 ≠ gb530)); clear BK530; clear HB; have BK530 := n0_; have HB := n1_; have BK534 := n2_; have GW534 := n3_; have GE534 := n4_; have NB530_534 := n5_; have NB534_530 := n6_; clear n0_ n1_ n2_ n3_ n4_ n5_ n6_; clear hb hbox hg; have hnb23 := NB534_530.out; have hnc23 := NB530_534.out; have hcz24_0 : w22.cell? ⟨gb534, 0, none⟩ = some (.int .i64 0) := (blk_cell BK534.out 0).trans rfl; have hcz24_1 : w22.cell? ⟨gb534, 1, none⟩ = some (.int .i64 0) := (blk_cell BK534.out 1).trans rfl; have hfz24_0 := blk_frozen BK534.out 0; have hfz24_1 := blk_frozen BK534.out 1) | ((with_reducible refine gate_callee (f := 19) rfl ?_); refine goesL_ (some 63) rfl rfl Try.func19 (by kernel_rfl) rfl #[.int .i64 (wrap64 (-(wrap64 (a0)))), .int .i64 (wrap64 (-(wrap64 (a1))))] rfl (by (try simp only [List.map_toArray, List.map_cons, List.map_nil]); first | done | rfl | (simp only [List.length_drop, List.length_take]; rfl)) ?_; (with_reducible refine (ratio_NewC.calls (wrap64 (-(wrap64 (a0)))) (wrap64 (-(wrap64 (a1)))) t535 t536 t537 _ A16.out).mono ?_); rintro e w25 ⟨rfl, hb⟩; refine ⟨_, rfl, ?_⟩; have n0_ := Aside0.mk (blk_below (g := gb530) (o := .cells #[.int .i64 t527, .int .i64 t528] 23 (0, 0)) (by (with_reducible repeat (first | refine blk_drewN ?_ _ | refine blk_drew ?_ | refine blk_alloc ?_ _)); refine blk_far ?_ NB530_534.out _; (with_reducible repeat (first | refine blk_drewN ?_ _ | refine blk_drew ?_ | refine blk_alloc ?_ _)); refine blk_far ?_ NB530_534.out _; (with_reducible repeat (first | refine blk_drewN ?_ _ | refine blk_drew ?_ | refine blk_alloc ?_ _)); exact BK530.out) hb); have n1_ := Aside0.mk (blk_below (g := gb534) (o := .cells #[.int .i64 t531, .int .i64 t532] 23 (0, 0)) (by (with_reducible repeat (first | refine blk_drewN ?_ _ | refine blk_drew ?_ | refine blk_alloc ?_ _)); refine blk_put (cs := #[.int .i64 t531, .int .i64 0]) ?_ 1 _ rfl; (with_reducible repeat (first | refine blk_drewN ?_ _ | refine blk_drew ?_ | refine blk_alloc ?_ _)); refine blk_put (cs := #[.int .i64 0, .int .i64 0]) ?_ 0 _ rfl; (with_reducible repeat (first | refine blk_drewN ?_ _ | refine blk_drew ?_ | refine blk_alloc ?_ _)); exact BK534.out) hb); have n2_ := Aside0.mk (below_step (by repeat (first | (with_reducible first | exact HB.out | apply below_alloc | apply pw_below_drewN | apply below_drew1 | refine below_set ?_ GE530.out | refine below_set ?_ GE534.out) | exact HB.out)) hb); clear BK530; clear BK534; clear HB; have BK530 := n0_; have BK534 := n1_; have HB := n2_; clear n0_ n1_ n2_; (try clear hb); (try clear hb2); (try clear hk); (try clear hi)) | ((with_reducible refine gate_dst (N := 16) rfl ?_); refine box_event ?hg (N := 16) ?hd (cs := #[.int .i64 0, .int .i64 0]) (t := 23) ?hr ?_; (case hd => rfl); (case hg => rfl); (case hr => first | (go_simp; done) | (go_simp; rfl)); intro gb538 hg w26 hbox hb; have n0_ := Aside0.mk (blk_below (g := gb530) (o := .cells #[.int .i64 t527, .int .i64 t528] 23 (0, 0)) (by (with_reducible repeat (first | refine blk_drewN ?_ _ | refine blk_drew ?_ | refine blk_alloc ?_ _)); exact BK530.out) hb); have n1_ := Aside0.mk (blk_below (g := gb534) (o := .cells #[.int .i64 t531, .int .i64 t532] 23 (0, 0)) (by (with_reducible repeat (first | refine blk_drewN ?_ _ | refine blk_drew ?_ | refine blk_alloc ?_ _)); exact BK534.out) hb); have n2_ := Aside0.mk (below_step (by repeat (first | (with_reducible first | exact HB.out | apply below_alloc | apply pw_below_drewN | apply below_drew1 | refine below_set ?_ GE530.out | refine below_set ?_ GE534.out) | exact HB.out)) hb); have n3_ := Aside0.mk (hbox); have n4_ := Aside0.mk ((by rw [hg]; exact (below_size (by repeat (first | (with_reducible first | exact HB.out | apply below_alloc | apply pw_below_drewN | apply below_drew1 | refine below_set ?_ GE530.out | refine below_set ?_ GE534.out) | exact HB.out))) : w.heap.size ≤ gb538)); have n5_ := Aside0.mk ((by rw [hg]; exact (below_size (by repeat (first | (with_reducible first | exact HB.out | apply below_alloc | apply pw_below_drewN | apply below_drew1 | refine below_set ?_ GE530.out | refine below_set ?_ GE534.out) | exact HB.out))) : w.heap.size ≤ gb538)); have n6_ := Aside0.mk ((by rw [hg]; exact Nat.ne_of_lt (blk_lt (g := gb530) (o := .cells #[.int .i64 t527, .int .i64 t528] 23 (0, 0)) (by (with_reducible repeat (first | refine blk_drewN ?_ _ | refine blk_drew ?_ | refine blk_alloc ?_ _)); exact BK530.out)) : gb530 ≠ gb538)); have n7_ := Aside0.mk ((by rw [hg]; exact Nat.ne_of_gt (blk_lt (g := gb530) (o := .cells #[.int .i64 t527, .int .i64 t528] 23 (0, 0)) (by (with_reducible repeat (first | refine blk_drewN ?_ _ | refine blk_drew ?_ | refine blk_alloc ?_ _)); exact BK530.out)) : gb538 ≠ gb530)); have n8_ := Aside0.mk ((by rw [hg]; exact Nat.ne_of_lt (blk_lt (g := gb534) (o := .cells #[.int .i64 t531, .int .i64 t532] 23 (0, 0)) (by (with_reducible repeat (first | refine blk_drewN ?_ _ | refine blk_drew ?_ | refine blk_alloc ?_ _)); exact BK534.out)) : gb534 ≠ gb538)); have n9_ := Aside0.mk ((by rw [hg]; exact Nat.ne_of_gt (blk_lt (g := gb534) (o := .cells #[.int .i64 t531, .int .i64 t532] 23 (0, 0)) (by (with_reducible repeat (first | refine blk_drewN ?_ _ | refine blk_drew ?_ | refine blk_alloc ?_ _)); exact BK534.out)) : gb538 ≠ gb534)); clear BK530; clear BK534; clear HB; have BK530 := n0_; have BK534 := n1_; have HB := n2_; have BK538 := n3_; have GW538 := n4_; have GE538 := n5_; have NB530_538 := n6_; have NB538_530 := n7_; have NB534_538 := n8_; have NB538_534 := n9_; clear n0_ n1_ n2_ n3_ n4_ n5_ n6_ n7_ n8_ n9_; clear hb hbox hg; have hnb27 := NB538_530.out; have hnc27 := NB530_538.out; have hnb28 := NB538_534.out; have hnc28 := NB534_538.out; have hcz29_0 : w26.cell? ⟨gb538, 0, none⟩ = some (.int .i64 0) := (blk_cell BK538.out 0).trans rfl; have hcz29_1 : w26.cell? ⟨gb538, 1, none⟩ = some (.int .i64 0) := (blk_cell BK538.out 1).trans rfl; have hfz29_0 := blk_frozen BK538.out 0; have hfz29_1 := blk_frozen BK538.out 1))
          (try simp only [Act.put, List.setIfInBounds_toArray, List.set_cons_zero, List.set_cons_succ])
          go_cut [83] (fun v83 wc => ∃ (kq : Nat) (x83_16 : Bool), v83 = .bool x83_16 ∧ Aside0 (sizarlaw05_RatioLowest.j1 kq (wrap64 (a0)) (wrap64 (a1)) t529 x83_16 t527 t528 = some r) ∧ Aside0 (kq ≤ kj5) ∧ Aside0 (wc.heap[gb530]? = some (.cells #[.int .i64 t527, .int .i64 t528] 23 (0, 0))) ∧ Aside0 (wc.heap[gb534]? = some (.cells #[.int .i64 t531, .int .i64 t532] 23 (0, 0))) ∧ Aside0 (wc.heap[gb538]? = some (.cells #[.int .i64 t535, .int .i64 t536] 23 (0, 0))) ∧ Aside0 (Below w.heap.size w wc))
          case first =>
            have H := HC17.out
            clear HC17
            by_cases c30 : (!(t527 == t531) || (!(t528 == t532))) = true
            · rw [if_pos c30] at H
              have c30b0 : (!(t527 == t531) || (!(t528 == t532))) = true := c30
              clear c30
              (first | rw [c30b0] | (simp only [i64_w, i32_w]; rw [c30b0]) | skip)
              cases kj5 with
              | zero => exact absurd H (by simp [sizarlaw05_RatioLowest.j1])
              | succ kd_ =>
                simp only [sizarlaw05_RatioLowest.j1, if_true] at H
                exact absurd ((Option.some.inj H).trans hrt.out) (by decide)
            · rw [if_neg c30] at H
              have c30b0 : (!(t527 == t531) || (!(t528 == t532))) = false := by simpa using c30
              clear c30
              (first | rw [c30b0] | (simp only [i64_w, i32_w]; rw [c30b0]) | skip)
              by_cases c31 : (!(t527 == t535) || (!(t528 == t536))) = true
              · rw [if_pos c31] at H
                have c31b0 : (!(t527 == t535) || (!(t528 == t536))) = true := c31
                clear c31
                cases kj5 with
                | zero => exact absurd H (by simp [sizarlaw05_RatioLowest.j1])
                | succ kd_ =>
                  simp only [sizarlaw05_RatioLowest.j1, if_true] at H
                  exact absurd ((Option.some.inj H).trans hrt.out) (by decide)
              · rw [if_neg c31] at H
                have c31b0 : (!(t527 == t535) || (!(t528 == t536))) = false := by simpa using c31
                clear c31
                by_cases c32 : t529 = t533
                · rw [if_pos c32] at H
                  have c32b0 : (t529 == t533) = true := beq_iff_eq.mpr c32
                  have c32b1 : (t529 != t533) = false := bne_eq_false_iff_eq.mpr c32
                  clear c32
                  have H' := Aside0.mk H
                  clear H
                  have hnb33 := NB530_534.out
                  have hnc33 := NB534_530.out
                  have hnb34 := NB530_538.out
                  have hnc34 := NB538_530.out
                  have hcz35_0 : w26.cell? ⟨gb530, 0, none⟩ = some (.int .i64 t527) := (blk_cell BK530.out 0).trans rfl
                  have hcz35_1 : w26.cell? ⟨gb530, 1, none⟩ = some (.int .i64 t528) := (blk_cell BK530.out 1).trans rfl
                  have hfz35_0 := blk_frozen BK530.out 0
                  have hfz35_1 := blk_frozen BK530.out 1
                  have hnb36 := NB534_538.out
                  have hnc36 := NB538_534.out
                  have hcz37_0 : w26.cell? ⟨gb534, 0, none⟩ = some (.int .i64 t531) := (blk_cell BK534.out 0).trans rfl
                  have hcz37_1 : w26.cell? ⟨gb534, 1, none⟩ = some (.int .i64 t532) := (blk_cell BK534.out 1).trans rfl
                  have hfz37_0 := blk_frozen BK534.out 0
                  have hfz37_1 := blk_frozen BK534.out 1
                  have hcz38_0 : w26.cell? ⟨gb538, 0, none⟩ = some (.int .i64 0) := (blk_cell BK538.out 0).trans rfl
                  have hcz38_1 : w26.cell? ⟨gb538, 1, none⟩ = some (.int .i64 0) := (blk_cell BK538.out 1).trans rfl
                  have hfz38_0 := blk_frozen BK538.out 0
                  have hfz38_1 := blk_frozen BK538.out 1
                  go_wp2
                  go_meet
                  case rel => exact ⟨_, ((t529 != t537)), (by first | rfl | (simp; done) | (simp [*]; done)), H', ⟨by have := HJ5.out; first | omega | exact Nat.le_refl _⟩, ⟨by (with_reducible repeat (first | refine blk_drewN ?_ _ | refine blk_drew ?_ | refine blk_alloc ?_ _)); refine blk_far ?_ NB530_538.out _; (with_reducible repeat (first | refine blk_drewN ?_ _ | refine blk_drew ?_ | refine blk_alloc ?_ _)); refine blk_far ?_ NB530_538.out _; (with_reducible repeat (first | refine blk_drewN ?_ _ | refine blk_drew ?_ | refine blk_alloc ?_ _)); exact BK530.out⟩, ⟨by (with_reducible repeat (first | refine blk_drewN ?_ _ | refine blk_drew ?_ | refine blk_alloc ?_ _)); refine blk_far ?_ NB534_538.out _; (with_reducible repeat (first | refine blk_drewN ?_ _ | refine blk_drew ?_ | refine blk_alloc ?_ _)); refine blk_far ?_ NB534_538.out _; (with_reducible repeat (first | refine blk_drewN ?_ _ | refine blk_drew ?_ | refine blk_alloc ?_ _)); exact BK534.out⟩, ⟨by (with_reducible repeat (first | refine blk_drewN ?_ _ | refine blk_drew ?_ | refine blk_alloc ?_ _)); refine blk_put (cs := #[.int .i64 t535, .int .i64 0]) ?_ 1 _ rfl; (with_reducible repeat (first | refine blk_drewN ?_ _ | refine blk_drew ?_ | refine blk_alloc ?_ _)); refine blk_put (cs := #[.int .i64 0, .int .i64 0]) ?_ 0 _ rfl; (with_reducible repeat (first | refine blk_drewN ?_ _ | refine blk_drew ?_ | refine blk_alloc ?_ _)); exact BK538.out⟩, ⟨by repeat (first | (with_reducible first | exact HB.out | apply below_alloc | apply pw_below_drewN | apply below_drew1 | refine below_set ?_ GE530.out | refine below_set ?_ GE534.out | refine below_set ?_ GE538.out) | exact HB.out)⟩⟩
                · rw [if_neg c32] at H
                  have c32b0 : (t529 == t533) = false := beq_eq_false_iff_ne.mpr c32
                  have c32b1 : (t529 != t533) = true := bne_iff_ne.mpr c32
                  cases kj5 with
                  | zero => exact absurd H (by simp [sizarlaw05_RatioLowest.j1])
                  | succ kd_ =>
                    simp only [sizarlaw05_RatioLowest.j1, if_true] at H
                    exact absurd ((Option.some.inj H).trans hrt.out) (by decide)
          case rest =>
            clear HC17
            try clear c1
            try clear c2
            try clear p2
            try clear c3
            try clear c5
            try clear p6
            try clear c8
            try clear c8b0
            try clear c8b1
            try clear c9
            try clear c10
            try clear c18
            try clear c19
            try clear c23
            try clear c27
            try clear c28
            try clear c30
            try clear c30b0
            try clear c31
            try clear c31b0
            try clear c32
            try clear c32b0
            try clear c32b1
            try clear c33
            try clear c34
            try clear c36
            try clear hcz13_0
            try clear hcz13_1
            try clear hcz20_0
            try clear hcz20_1
            try clear hcz24_0
            try clear hcz24_1
            try clear hcz29_0
            try clear hcz29_1
            try clear hcz35_0
            try clear hcz35_1
            try clear hcz37_0
            try clear hcz37_1
            try clear hcz38_0
            try clear hcz38_1
            try clear hfz13_0
            try clear hfz13_1
            try clear hfz20_0
            try clear hfz20_1
            try clear hfz24_0
            try clear hfz24_1
            try clear hfz29_0
            try clear hfz29_1
            try clear hfz35_0
            try clear hfz35_1
            try clear hfz37_0
            try clear hfz37_1
            try clear hfz38_0
            try clear hfz38_1
            try clear p2
            obtain ⟨kq, x83_16, rfl, HA, HJ16, BK530, BK534, BK538, HB⟩ := hcut
            cases kq with
            | zero => exact absurd HA.out (by simp [sizarlaw05_RatioLowest.j1])
            | succ kj16 =>
              have H := HA.out
              clear HA
              simp only [sizarlaw05_RatioLowest.j1] at H
              by_cases c39 : x83_16 = true
              · subst c39
                have H1 : (some false) = some r := by rw [if_pos rfl] at H; exact H
                clear H
                have H := H1
                clear H1
                exact absurd ((Option.some.inj H).trans hrt.out) (by decide)
              · replace c39 := Bool.eq_false_iff.mpr c39
                subst c39
                have H1 : (if t529 = 0 then ((ratio_NewC.f t527 t528).bind fun bt539 => (if bt539.2.2 = 0 then (if (bt539.1 == t527 && (bt539.2.1 == t528)) = true then (if (wrap64 (t527 * (wrap64 (a1)))) = (wrap64 ((wrap64 (a0)) * t528)) then ((ratio_CheckC.f t527 t528).bind fun t543 => (some (t543 == 0))) else (some false)) else (some false)) else (some false))) else (if t529 = 2 then (some (t527 == 0 && (t528 == 0))) else (some false))) = some r := by rw [if_neg (show ¬ (false = true) by decide)] at H; exact H
                clear H
                have H := H1
                clear H1
                by_cases c40 : t529 = 0
                · rw [if_pos c40] at H
                  have c40b0 : (t529 == 0) = true := beq_iff_eq.mpr c40
                  have c40b1 : (t529 != 0) = false := bne_eq_false_iff_eq.mpr c40
                  clear c40
                  replace H := Option.bind_eq_some_iff.mp H
                  obtain ⟨⟨t539, t540, t541⟩, A410, H⟩ := H
                  replace H : (if t541 = 0 then (if (t539 == t527 && (t540 == t528)) = true then (if (wrap64 (t527 * (wrap64 (a1)))) = (wrap64 ((wrap64 (a0)) * t528)) then ((ratio_CheckC.f t527 t528).bind fun t543 => (some (t543 == 0))) else (some false)) else (some false)) else (some false)) = some r := H
                  have A41 := Aside0.mk A410
                  clear A410
                  by_cases c42 : t541 = 0
                  · rw [if_pos c42] at H
                    have c42b0 : (t541 == 0) = true := beq_iff_eq.mpr c42
                    have c42b1 : (t541 != 0) = false := bne_eq_false_iff_eq.mpr c42
                    clear c42
                    by_cases c43 : (t539 == t527 && (t540 == t528)) = true
                    · rw [if_pos c43] at H
                      have c43b0 : (t539 == t527 && (t540 == t528)) = true := c43
                      (try (have c43b1 : decide (t539 = t527 && (t540 == t528)) = true := by simpa using c43))
                      (try (have c43b2 : (t539 == t527 && (t540 == t528)) = true := by simpa using c43))
                      clear c43
                      by_cases c44 : (wrap64 (t527 * (wrap64 (a1)))) = (wrap64 ((wrap64 (a0)) * t528))
                      · rw [if_pos c44] at H
                        have c44b0 : ((wrap64 (t527 * (wrap64 (a1)))) == (wrap64 ((wrap64 (a0)) * t528))) = true := beq_iff_eq.mpr c44
                        have c44b1 : ((wrap64 (t527 * (wrap64 (a1)))) != (wrap64 ((wrap64 (a0)) * t528))) = false := bne_eq_false_iff_eq.mpr c44
                        clear c44
                        replace H := Option.bind_eq_some_iff.mp H
                        obtain ⟨t543, A450, H⟩ := H
                        replace H : (some (t543 == 0)) = some r := H
                        have A45 := Aside0.mk A450
                        clear A450
                        obtain rfl := Option.some.inj H
                        have hnb46 := NB530_534.out
                        have hnc46 := NB534_530.out
                        have hnb47 := NB530_538.out
                        have hnc47 := NB538_530.out
                        have hcz48_0 : wc.cell? ⟨gb530, 0, none⟩ = some (.int .i64 t527) := (blk_cell BK530.out 0).trans rfl
                        have hcz48_1 : wc.cell? ⟨gb530, 1, none⟩ = some (.int .i64 t528) := (blk_cell BK530.out 1).trans rfl
                        have hfz48_0 := blk_frozen BK530.out 0
                        have hfz48_1 := blk_frozen BK530.out 1
                        go_wp2_with (first | ((with_reducible refine gate_callee (f := 19) rfl ?_); refine goesL_ (some 98) rfl rfl Try.func19 (by kernel_rfl) rfl #[.int .i64 t527, .int .i64 t528] rfl (by (try simp only [List.map_toArray, List.map_cons, List.map_nil]); first | done | rfl | (simp only [List.length_drop, List.length_take]; rfl)) ?_; (with_reducible refine (ratio_NewC.calls t527 t528 t539 t540 t541 _ A41.out).mono ?_); rintro e w49 ⟨rfl, hb⟩; refine ⟨_, rfl, ?_⟩; have n0_ := Aside0.mk (blk_below (g := gb530) (o := .cells #[.int .i64 t527, .int .i64 t528] 23 (0, 0)) (by (with_reducible repeat (first | refine blk_drewN ?_ _ | refine blk_drew ?_ | refine blk_alloc ?_ _)); exact BK530.out) hb); have n1_ := Aside0.mk (blk_below (g := gb534) (o := .cells #[.int .i64 t531, .int .i64 t532] 23 (0, 0)) (by (with_reducible repeat (first | refine blk_drewN ?_ _ | refine blk_drew ?_ | refine blk_alloc ?_ _)); exact BK534.out) hb); have n2_ := Aside0.mk (blk_below (g := gb538) (o := .cells #[.int .i64 t535, .int .i64 t536] 23 (0, 0)) (by (with_reducible repeat (first | refine blk_drewN ?_ _ | refine blk_drew ?_ | refine blk_alloc ?_ _)); exact BK538.out) hb); have n3_ := Aside0.mk (below_step (by repeat (first | (with_reducible first | exact HB.out | apply below_alloc | apply pw_below_drewN | apply below_drew1 | refine below_set ?_ GE530.out | refine below_set ?_ GE534.out | refine below_set ?_ GE538.out) | exact HB.out)) hb); clear BK530; clear BK534; clear BK538; clear HB; have BK530 := n0_; have BK534 := n1_; have BK538 := n2_; have HB := n3_; clear n0_ n1_ n2_ n3_; (try clear hb); (try clear hb2); (try clear hk); (try clear hi)) | ((with_reducible refine gate_dst (N := 18) rfl ?_); refine box_event ?hg (N := 18) ?hd (cs := #[.int .i64 0, .int .i64 0]) (t := 23) ?hr ?_; (case hd => rfl); (case hg => rfl); (case hr => first | (go_simp; done) | (go_simp; rfl)); intro gb542 hg w50 hbox hb; have n0_ := Aside0.mk (blk_below (g := gb530) (o := .cells #[.int .i64 t527, .int .i64 t528] 23 (0, 0)) (by (with_reducible repeat (first | refine blk_drewN ?_ _ | refine blk_drew ?_ | refine blk_alloc ?_ _)); exact BK530.out) hb); have n1_ := Aside0.mk (blk_below (g := gb534) (o := .cells #[.int .i64 t531, .int .i64 t532] 23 (0, 0)) (by (with_reducible repeat (first | refine blk_drewN ?_ _ | refine blk_drew ?_ | refine blk_alloc ?_ _)); exact BK534.out) hb); have n2_ := Aside0.mk (blk_below (g := gb538) (o := .cells #[.int .i64 t535, .int .i64 t536] 23 (0, 0)) (by (with_reducible repeat (first | refine blk_drewN ?_ _ | refine blk_drew ?_ | refine blk_alloc ?_ _)); exact BK538.out) hb); have n3_ := Aside0.mk (below_step (by repeat (first | (with_reducible first | exact HB.out | apply below_alloc | apply pw_below_drewN | apply below_drew1 | refine below_set ?_ GE530.out | refine below_set ?_ GE534.out | refine below_set ?_ GE538.out) | exact HB.out)) hb); have n4_ := Aside0.mk (hbox); have n5_ := Aside0.mk ((by rw [hg]; exact (below_size (by repeat (first | (with_reducible first | exact HB.out | apply below_alloc | apply pw_below_drewN | apply below_drew1 | refine below_set ?_ GE530.out | refine below_set ?_ GE534.out | refine below_set ?_ GE538.out) | exact HB.out))) : w.heap.size ≤ gb542)); have n6_ := Aside0.mk ((by rw [hg]; exact (below_size (by repeat (first | (with_reducible first | exact HB.out | apply below_alloc | apply pw_below_drewN | apply below_drew1 | refine below_set ?_ GE530.out | refine below_set ?_ GE534.out | refine below_set ?_ GE538.out) | exact HB.out))) : w.heap.size ≤ gb542)); have n7_ := Aside0.mk ((by rw [hg]; exact Nat.ne_of_lt (blk_lt (g := gb530) (o := .cells #[.int .i64 t527, .int .i64 t528] 23 (0, 0)) (by (with_reducible repeat (first | refine blk_drewN ?_ _ | refine blk_drew ?_ | refine blk_alloc ?_ _)); exact BK530.out)) : gb530 ≠ gb542)); have n8_ := Aside0.mk ((by rw [hg]; exact Nat.ne_of_gt (blk_lt (g := gb530) (o := .cells #[.int .i64 t527, .int .i64 t528] 23 (0, 0)) (by (with_reducible repeat (first | refine blk_drewN ?_ _ | refine blk_drew ?_ | refine blk_alloc ?_ _)); exact BK530.out)) : gb542 ≠ gb530)); have n9_ := Aside0.mk ((by rw [hg]; exact Nat.ne_of_lt (blk_lt (g := gb534) (o := .cells #[.int .i64 t531, .int .i64 t532] 23 (0, 0)) (by (with_reducible repeat (first | refine blk_drewN ?_ _ | refine blk_drew ?_ | refine blk_alloc ?_ _)); exact BK534.out)) : gb534 ≠ gb542)); have n10_ := Aside0.mk ((by rw [hg]; exact Nat.ne_of_gt (blk_lt (g := gb534) (o := .cells #[.int .i64 t531, .int .i64 t532] 23 (0, 0)) (by (with_reducible repeat (first | refine blk_drewN ?_ _ | refine blk_drew ?_ | refine blk_alloc ?_ _)); exact BK534.out)) : gb542 ≠ gb534)); have n11_ := Aside0.mk ((by rw [hg]; exact Nat.ne_of_lt (blk_lt (g := gb538) (o := .cells #[.int .i64 t535, .int .i64 t536] 23 (0, 0)) (by (with_reducible repeat (first | refine blk_drewN ?_ _ | refine blk_drew ?_ | refine blk_alloc ?_ _)); exact BK538.out)) : gb538 ≠ gb542)); have n12_ := Aside0.mk ((by rw [hg]; exact Nat.ne_of_gt (blk_lt (g := gb538) (o := .cells #[.int .i64 t535, .int .i64 t536] 23 (0, 0)) (by (with_reducible repeat (first | refine blk_drewN ?_ _ | refine blk_drew ?_ | refine blk_alloc ?_ _)); exact BK538.out)) : gb542 ≠ gb538)); clear BK530; clear BK534; clear BK538; clear HB; have BK530 := n0_; have BK534 := n1_; have BK538 := n2_; have HB := n3_; have BK542 := n4_; have GW542 := n5_; have GE542 := n6_; have NB530_542 := n7_; have NB542_530 := n8_; have NB534_542 := n9_; have NB542_534 := n10_; have NB538_542 := n11_; have NB542_538 := n12_; clear n0_ n1_ n2_ n3_ n4_ n5_ n6_ n7_ n8_ n9_ n10_ n11_ n12_; clear hb hbox hg; have hnb51 := NB542_530.out; have hnc51 := NB530_542.out; have hnb52 := NB542_534.out; have hnc52 := NB534_542.out; have hnb53 := NB542_538.out; have hnc53 := NB538_542.out; have hcz54_0 : w50.cell? ⟨gb542, 0, none⟩ = some (.int .i64 0) := (blk_cell BK542.out 0).trans rfl; have hcz54_1 : w50.cell? ⟨gb542, 1, none⟩ = some (.int .i64 0) := (blk_cell BK542.out 1).trans rfl; have hfz54_0 := blk_frozen BK542.out 0; have hfz54_1 := blk_frozen BK542.out 1; have hcz55_0 : w50.cell? ⟨gb530, 0, none⟩ = some (.int .i64 t527) := (blk_cell BK530.out 0).trans rfl; have hcz55_1 : w50.cell? ⟨gb530, 1, none⟩ = some (.int .i64 t528) := (blk_cell BK530.out 1).trans rfl; have hfz55_0 := blk_frozen BK530.out 0; have hfz55_1 := blk_frozen BK530.out 1) | (go_at_call 21; (with_reducible refine (ratio_CheckC.calls t527 t528 t543 _ A45.out).mono ?_); rintro e w56 ⟨rfl, hb⟩; have n0_ := Aside0.mk (blk_below (g := gb530) (o := .cells #[.int .i64 t527, .int .i64 t528] 23 (0, 0)) (by (with_reducible repeat (first | refine blk_drewN ?_ _ | refine blk_drew ?_ | refine blk_alloc ?_ _)); refine blk_far ?_ NB530_542.out _; (with_reducible repeat (first | refine blk_drewN ?_ _ | refine blk_drew ?_ | refine blk_alloc ?_ _)); refine blk_far ?_ NB530_542.out _; (with_reducible repeat (first | refine blk_drewN ?_ _ | refine blk_drew ?_ | refine blk_alloc ?_ _)); exact BK530.out) hb); have n1_ := Aside0.mk (blk_below (g := gb534) (o := .cells #[.int .i64 t531, .int .i64 t532] 23 (0, 0)) (by (with_reducible repeat (first | refine blk_drewN ?_ _ | refine blk_drew ?_ | refine blk_alloc ?_ _)); refine blk_far ?_ NB534_542.out _; (with_reducible repeat (first | refine blk_drewN ?_ _ | refine blk_drew ?_ | refine blk_alloc ?_ _)); refine blk_far ?_ NB534_542.out _; (with_reducible repeat (first | refine blk_drewN ?_ _ | refine blk_drew ?_ | refine blk_alloc ?_ _)); exact BK534.out) hb); have n2_ := Aside0.mk (blk_below (g := gb538) (o := .cells #[.int .i64 t535, .int .i64 t536] 23 (0, 0)) (by (with_reducible repeat (first | refine blk_drewN ?_ _ | refine blk_drew ?_ | refine blk_alloc ?_ _)); refine blk_far ?_ NB538_542.out _; (with_reducible repeat (first | refine blk_drewN ?_ _ | refine blk_drew ?_ | refine blk_alloc ?_ _)); refine blk_far ?_ NB538_542.out _; (with_reducible repeat (first | refine blk_drewN ?_ _ | refine blk_drew ?_ | refine blk_alloc ?_ _)); exact BK538.out) hb); have n3_ := Aside0.mk (blk_below (g := gb542) (o := .cells #[.int .i64 t539, .int .i64 t540] 23 (0, 0)) (by (with_reducible repeat (first | refine blk_drewN ?_ _ | refine blk_drew ?_ | refine blk_alloc ?_ _)); refine blk_put (cs := #[.int .i64 t539, .int .i64 0]) ?_ 1 _ rfl; (with_reducible repeat (first | refine blk_drewN ?_ _ | refine blk_drew ?_ | refine blk_alloc ?_ _)); refine blk_put (cs := #[.int .i64 0, .int .i64 0]) ?_ 0 _ rfl; (with_reducible repeat (first | refine blk_drewN ?_ _ | refine blk_drew ?_ | refine blk_alloc ?_ _)); exact BK542.out) hb); have n4_ := Aside0.mk (below_step (by repeat (first | (with_reducible first | exact HB.out | apply below_alloc | apply pw_below_drewN | apply below_drew1 | refine below_set ?_ GE530.out | refine below_set ?_ GE534.out | refine below_set ?_ GE538.out | refine below_set ?_ GE542.out) | exact HB.out)) hb); clear BK530; clear BK534; clear BK538; clear BK542; clear HB; have BK530 := n0_; have BK534 := n1_; have BK538 := n2_; have BK542 := n3_; have HB := n4_; clear n0_ n1_ n2_ n3_ n4_; (try clear hb); (try clear hb2); (try clear hk); (try clear hi)))
                        go_ret
                        exact ⟨by first | rfl | (simp [errW_none, errW_some] <;> rfl) | (simp [*, errW_none, errW_some] <;> rfl), by repeat (first | (with_reducible first | exact HB.out | apply below_alloc | apply pw_below_drewN | apply below_drew1 | refine below_set ?_ GE530.out | refine below_set ?_ GE534.out | refine below_set ?_ GE538.out | refine below_set ?_ GE542.out) | exact HB.out)⟩
                      · rw [if_neg c44] at H
                        have c44b0 : ((wrap64 (t527 * (wrap64 (a1)))) == (wrap64 ((wrap64 (a0)) * t528))) = false := beq_eq_false_iff_ne.mpr c44
                        have c44b1 : ((wrap64 (t527 * (wrap64 (a1)))) != (wrap64 ((wrap64 (a0)) * t528))) = true := bne_iff_ne.mpr c44
                        exact absurd ((Option.some.inj H).trans hrt.out) (by decide)
                    · rw [if_neg c43] at H
                      have c43b0 : (t539 == t527 && (t540 == t528)) = false := by simpa using c43
                      (try (have c43b1 : decide (t539 = t527 && (t540 == t528)) = false := by simpa using c43))
                      (try (have c43b2 : (t539 == t527 && (t540 == t528)) = false := by simpa using c43))
                      (try (have c43b3 : ¬ (t539 = t527 && (t540 == t528)) := by simpa using c43))
                      clear c43
                      exact absurd ((Option.some.inj H).trans hrt.out) (by decide)
                  · rw [if_neg c42] at H
                    have c42b0 : (t541 == 0) = false := beq_eq_false_iff_ne.mpr c42
                    have c42b1 : (t541 != 0) = true := bne_iff_ne.mpr c42
                    exact absurd ((Option.some.inj H).trans hrt.out) (by decide)
                · rw [if_neg c40] at H
                  have c40b0 : (t529 == 0) = false := beq_eq_false_iff_ne.mpr c40
                  have c40b1 : (t529 != 0) = true := bne_iff_ne.mpr c40
                  by_cases c57 : t529 = 2
                  · rw [if_pos c57] at H
                    have c57b0 : (t529 == 2) = true := beq_iff_eq.mpr c57
                    have c57b1 : (t529 != 2) = false := bne_eq_false_iff_eq.mpr c57
                    clear c57
                    obtain rfl := Option.some.inj H
                    have hnb58 := NB530_534.out
                    have hnc58 := NB534_530.out
                    have hnb59 := NB530_538.out
                    have hnc59 := NB538_530.out
                    have hcz60_0 : wc.cell? ⟨gb530, 0, none⟩ = some (.int .i64 t527) := (blk_cell BK530.out 0).trans rfl
                    have hcz60_1 : wc.cell? ⟨gb530, 1, none⟩ = some (.int .i64 t528) := (blk_cell BK530.out 1).trans rfl
                    have hfz60_0 := blk_frozen BK530.out 0
                    have hfz60_1 := blk_frozen BK530.out 1
                    go_wp2
                    go_ret
                    exact ⟨by first | rfl | (simp [errW_none, errW_some] <;> rfl) | (simp [*, errW_none, errW_some] <;> rfl), by repeat (first | (with_reducible first | exact HB.out | apply below_alloc | apply pw_below_drewN | apply below_drew1 | refine below_set ?_ GE530.out | refine below_set ?_ GE534.out | refine below_set ?_ GE538.out) | exact HB.out)⟩
                  · rw [if_neg c57] at H
                    have c57b0 : (t529 == 2) = false := beq_eq_false_iff_ne.mpr c57
                    have c57b1 : (t529 != 2) = true := bne_iff_ne.mpr c57
                    exact absurd ((Option.some.inj H).trans hrt.out) (by decide)
  · replace c5 := Bool.eq_false_iff.mpr c5
    subst c5
    have H1 : (some false) = some r := by rw [if_neg (show ¬ (false = true) by decide)] at H; exact H
    clear H
    have H := H1
    clear H1
    exact absurd ((Option.some.inj H).trans hrt.out) (by decide)

/-- THE ONE PURE STATEMENT of sizarlaw05_RatioLowest: yours. -/
def sizarlaw05_RatioLowest.Pure : Prop := ∀ (a0 : Int) (a1 : Int) (a2 : Int), (Lit.int .i32 a0).wf = true → (Lit.int .i32 a1).wf = true → (Lit.int .i16 a2).wf = true → ∃ k, sizarlaw05_RatioLowest.f k a0 a1 a2 = some true
theorem sizarlaw05_RatioLowest.walk (P : sizarlaw05_RatioLowest.Pure) (a0 : Int) (a1 : Int) (a2 : Int) (w : World) (w0 : (Lit.int .i32 a0).wf = true) (w1 : (Lit.int .i32 a1).wf = true) (w2 : (Lit.int .i16 a2).wf = true) :
    Calls Try.prog 10 #[.int .i32 a0, .int .i32 a1, .int .i16 a2] w fun e w' => e = .returned (.bool true) ∧ Below w.heap.size w w' := by
  obtain ⟨k, h⟩ := P a0 a1 a2 w0 w1 w2
  refine (sizarlaw05_RatioLowest.calls k a0 a1 a2 true w ⟨rfl⟩ h).mono ?_
  rintro e w' ⟨rfl, hd⟩
  exact ⟨rfl, hd⟩

end Go.Proofs.Ytgoicalffgehoaa.P
