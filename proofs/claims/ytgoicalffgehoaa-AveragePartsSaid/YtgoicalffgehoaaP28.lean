/- Contracts of Go functions and the plain Lean functions that they compute, laid by this session's own program (wip/printall.sh). Conditions: as each theorem states them. -/
import Derived.Test.YtgoicalffgehoaaP0
import Derived.Test.YtgoicalffgehoaaP11
import Derived.Test.YtgoicalffgehoaaCSen
import Derived.Test.YtgoicalffgehoaaESum
namespace Go.Proofs.Ytgoicalffgehoaa.P
open Go.RowKit Go.Proofs.YtgoicalffgehoaaW.PrintWords Go.Proofs.YtgoicalffgehoaaW.PrintLast Go.Proofs.YtgoicalffgehoaaW.PrintMore
attribute [local go_sem] max2_int min2_int max_two min_two max_three min_three max_four min_four   -- for this text's walks alone
set_option linter.unusedVariables false
set_option linter.unusedSimpArgs false

/-! ### sizarlaw15_AverageParts: function 16 -/
mutual
def sizarlaw15_AverageParts.j0 : Nat → List (S39) → List (S39) → Bool → Option (Bool)
  | 0, _, _, _ => none
  | k + 1, x0, x1, x29 => if x29 = true then (some true) else ((average_Sums.f x0).bind fun bt733 => ((average_Sums.f x1).bind fun bt736 => ((some (([] : List (S39)) : List (S39))).bind fun y739 => (if y739.length + x1.length < 3518437208883 then ((some (y739 ++ x1 : List (S39))).bind fun y742 => (if y742.length + x0.length < 3518437208883 then ((average_Sums.f (y742 ++ x0)).bind fun bt748 => (if bt733.2.2 = 0 then (sizarlaw15_AverageParts.j1 k x0 x1 bt733.1 bt733.2.1 bt736.1 bt736.2.1 bt748.1 bt748.2.1 bt748.2.2 (bt736.2.2 != 0)) else (sizarlaw15_AverageParts.j1 k x0 x1 bt733.1 bt733.2.1 bt736.1 bt736.2.1 bt748.1 bt748.2.1 bt748.2.2 true))) else (none))) else (none)))))
def sizarlaw15_AverageParts.j1 : Nat → List (S39) → List (S39) → Int → Int → Int → Int → Int → Int → Int → Bool → Option (Bool)
  | 0, _, _, _, _, _, _, _, _, _, _ => none
  | k + 1, x0, x1, x5, x6, x8, x9, x11, x12, x13, x57 => if x57 = true then (if x13 = 150 then (if x11 = 0 then (some (x12 == 0)) else (some false)) else (some false)) else ((average_Earned.f x0).bind fun bt751 => ((average_Earned.f x1).bind fun bt753 => ((some (([] : List (S39)) : List (S39))).bind fun y755 => (if y755.length + x1.length < 3518437208883 then ((some (y755 ++ x1 : List (S39))).bind fun y758 => (if y758.length + x0.length < 3518437208883 then ((average_Earned.f (y758 ++ x0)).bind fun bt764 => (if x13 = 0 then (if bt751.2 = 0 then (if bt753.2 = 0 then (if bt764.2 = 0 then (if x11 = (wrap64 (x5 + x8)) then (if x12 = (wrap64 (x6 + x9)) then (if bt764.1 = (wrap64 (bt751.1 + bt753.1)) then (some (decide (bt764.1 ≤ x11))) else (some false)) else (some false)) else (some false)) else (some false)) else (some false)) else (some false)) else (some false))) else (none))) else (none)))))
end
def sizarlaw15_AverageParts.f (k : Nat) (l0 : List (S39)) (l1 : List (S39)) : Option (Bool) := (sizarlaw15_saneC.f).bind fun t730 => (if t730 = true then ((sizarref15_Few.f l0).bind fun t731 => (if t731 = true then ((sizarref15_Few.f l1).bind fun t732 => (sizarlaw15_AverageParts.j0 k l0 l1 (!t732))) else (sizarlaw15_AverageParts.j0 k l0 l1 true))) else (some false))
theorem sizarlaw15_AverageParts.mono_l : ∀ k, (∀ y0 y1 y2, LeO (sizarlaw15_AverageParts.j0 k y0 y1 y2) (sizarlaw15_AverageParts.j0 (k + 1) y0 y1 y2)) ∧ (∀ y0 y1 y2 y3 y4 y5 y6 y7 y8 y9, LeO (sizarlaw15_AverageParts.j1 k y0 y1 y2 y3 y4 y5 y6 y7 y8 y9) (sizarlaw15_AverageParts.j1 (k + 1) y0 y1 y2 y3 y4 y5 y6 y7 y8 y9))
  | 0 => ⟨fun _ _ _ r h => by simp [sizarlaw15_AverageParts.j0] at h, fun _ _ _ _ _ _ _ _ _ _ r h => by simp [sizarlaw15_AverageParts.j1] at h⟩
  | k + 1 => by
    obtain ⟨ih0, ih1⟩ := sizarlaw15_AverageParts.mono_l k
    refine ⟨?_, ?_⟩
    · intro y0 y1 y2
      unfold sizarlaw15_AverageParts.j0
      repeat' first
      | (with_reducible exact ih0 _ _ _)
      | (with_reducible exact ih1 _ _ _ _ _ _ _ _ _ _)
      | (with_reducible exact LeO.refl _)
      | (with_reducible exact LeO.none _)
      | (with_reducible refine LeO.ite ?_ ?_)
      | (with_reducible refine LeO.bind ?_ (fun _ => ?_))
      | exact ih0 _ _ _
      | exact ih1 _ _ _ _ _ _ _ _ _ _
      | exact LeO.none _
      | refine LeO.ite ?_ ?_
      | refine LeO.bind ?_ (fun _ => ?_)
    · intro y0 y1 y2 y3 y4 y5 y6 y7 y8 y9
      unfold sizarlaw15_AverageParts.j1
      repeat' first
      | (with_reducible exact ih0 _ _ _)
      | (with_reducible exact ih1 _ _ _ _ _ _ _ _ _ _)
      | (with_reducible exact LeO.refl _)
      | (with_reducible exact LeO.none _)
      | (with_reducible refine LeO.ite ?_ ?_)
      | (with_reducible refine LeO.bind ?_ (fun _ => ?_))
      | exact ih0 _ _ _
      | exact ih1 _ _ _ _ _ _ _ _ _ _
      | exact LeO.none _
      | refine LeO.ite ?_ ?_
      | refine LeO.bind ?_ (fun _ => ?_)
theorem sizarlaw15_AverageParts.mono : ∀ a0 a1 k, LeO (sizarlaw15_AverageParts.f k a0 a1) (sizarlaw15_AverageParts.f (k + 1) a0 a1) := by
  intro a0 a1 k
  obtain ⟨ih0, ih1⟩ := sizarlaw15_AverageParts.mono_l k
  unfold sizarlaw15_AverageParts.f
  repeat' first
      | (with_reducible exact ih0 _ _ _)
      | (with_reducible exact ih1 _ _ _ _ _ _ _ _ _ _)
      | (with_reducible exact LeO.refl _)
      | (with_reducible exact LeO.none _)
      | (with_reducible refine LeO.ite ?_ ?_)
      | (with_reducible refine LeO.bind ?_ (fun _ => ?_))
      | exact ih0 _ _ _
      | exact ih1 _ _ _ _ _ _ _ _ _ _
      | exact LeO.none _
      | refine LeO.ite ?_ ?_
      | refine LeO.bind ?_ (fun _ => ?_)
set_option maxHeartbeats 8000000 in
set_option maxRecDepth 100000 in
theorem sizarlaw15_AverageParts.calls (k : Nat) (A0 : Option Addr) (c0 : Nat) (l0 : List (S39)) (A1 : Option Addr) (c1 : Nat) (l1 : List (S39)) (r : Bool) (w : World) (hr0 : Kd.C k39 w A0 l0.length l0) (hc0 : l0.length ≤ c0) (hr1 : Kd.C k39 w A1 l1.length l1) (hc1 : l1.length ≤ c1) (hrt : Aside0 (r = true)) (h : sizarlaw15_AverageParts.f k l0 l1 = some r) :
    Calls Try.prog 16 #[.slice A0 l0.length c0, .slice A1 l1.length c1] w fun e w' => e = .returned (.bool r) ∧ Below w.heap.size w w' := by
  have HR0 := Aside0.mk hr0
  have HC0 := Aside0.mk hc0
  clear hr0 hc0
  have HR1 := Aside0.mk hr1
  have HC1 := Aside0.mk hc1
  clear hr1 hc1
  have HB := Aside0.mk (Below.refl w.heap.size w)
  have H : ((sizarlaw15_saneC.f).bind fun t730 => (if t730 = true then ((sizarref15_Few.f l0).bind fun t731 => (if t731 = true then ((sizarref15_Few.f l1).bind fun t732 => (sizarlaw15_AverageParts.j0 k l0 l1 (!t732))) else (sizarlaw15_AverageParts.j0 k l0 l1 true))) else (some false))) = some r := h
  clear h
  replace H := Option.bind_eq_some_iff.mp H
  obtain ⟨t730, A30, H⟩ := H
  replace H : (if t730 = true then ((sizarref15_Few.f l0).bind fun t731 => (if t731 = true then ((sizarref15_Few.f l1).bind fun t732 => (sizarlaw15_AverageParts.j0 k l0 l1 (!t732))) else (sizarlaw15_AverageParts.j0 k l0 l1 true))) else (some false)) = some r := H
  have A3 := Aside0.mk A30
  clear A30
  by_cases c4 : t730 = true
  · subst c4
    have H1 : ((sizarref15_Few.f l0).bind fun t731 => (if t731 = true then ((sizarref15_Few.f l1).bind fun t732 => (sizarlaw15_AverageParts.j0 k l0 l1 (!t732))) else (sizarlaw15_AverageParts.j0 k l0 l1 true))) = some r := by rw [if_pos rfl] at H; exact H
    clear H
    have H := H1
    clear H1
    have HC5 := Aside0.mk H
    clear H
    go_enter Try.func16, Try.ntmps16
    go_upto_region 3 with (first | ((with_reducible refine gate_callee (f := 31) rfl ?_); refine goesL_ (some 20) rfl rfl Try.func31 (by kernel_rfl) rfl #[] rfl (by (try simp only [List.map_toArray, List.map_cons, List.map_nil]); first | done | rfl | (simp only [List.length_drop, List.length_take]; rfl)) ?_; (with_reducible refine (sizarlaw15_saneC.calls  true _ A3.out).mono ?_); rintro e w6 ⟨rfl, hb⟩; refine ⟨_, rfl, ?_⟩; have n0_ := Aside0.mk (below_step (by repeat (first | (with_reducible first | exact HB.out | apply below_alloc | apply pw_below_drewN | apply below_drew1) | exact HB.out)) hb); clear HB; have HB := n0_; clear n0_; (try clear hb); (try clear hb2); (try clear hk); (try clear hi)))
    (try simp only [Act.put, List.setIfInBounds_toArray, List.set_cons_zero, List.set_cons_succ])
    go_cut [29] (fun v29 wc => ∃ (kq : Nat) (x29_4 : Bool), v29 = .bool x29_4 ∧ Aside0 (sizarlaw15_AverageParts.j0 kq l0 l1 x29_4 = some r) ∧ Aside0 (kq ≤ k) ∧ Aside0 (Below w.heap.size w wc))
    case first =>
      have H := HC5.out
      clear HC5
      replace H := Option.bind_eq_some_iff.mp H
      obtain ⟨t731, A70, H⟩ := H
      replace H : (if t731 = true then ((sizarref15_Few.f l1).bind fun t732 => (sizarlaw15_AverageParts.j0 k l0 l1 (!t732))) else (sizarlaw15_AverageParts.j0 k l0 l1 true)) = some r := H
      have A7 := Aside0.mk A70
      clear A70
      by_cases c8 : t731 = true
      · subst c8
        have H1 : ((sizarref15_Few.f l1).bind fun t732 => (sizarlaw15_AverageParts.j0 k l0 l1 (!t732))) = some r := by rw [if_pos rfl] at H; exact H
        clear H
        have H := H1
        clear H1
        replace H := Option.bind_eq_some_iff.mp H
        obtain ⟨t732, A90, H⟩ := H
        replace H : (sizarlaw15_AverageParts.j0 k l0 l1 (!t732)) = some r := H
        have A9 := Aside0.mk A90
        clear A90
        have H' := Aside0.mk H
        clear H
        go_wp2_with (first | ((with_reducible refine gate_callee (f := 32) rfl ?_); refine goesL_ (some 23) rfl rfl Try.func32 (by kernel_rfl) rfl #[.slice A0 l0.length c0] rfl (by (try simp only [List.map_toArray, List.map_cons, List.map_nil]); first | done | rfl | (simp only [List.length_drop, List.length_take]; rfl)) ?_; (with_reducible refine (sizarref15_Few.calls _ _ l0 true _ ?side1 ?side2 A7.out).mono ?_); (case side1 => repeat (first | exact (Kd.C_below HR0.out HB.out) | (with_reducible refine Kd.C_alloc ?_ _) | (with_reducible refine Kd.C_drewN ?_ _) | (with_reducible refine Kd.C_drew ?_))); (case side2 => exact HC0.out); rintro e w' ⟨rfl, ⟨nd, rfl⟩⟩; refine ⟨_, rfl, ?_⟩) | (go_at_call 32; (with_reducible refine (sizarref15_Few.calls _ _ l1 t732 _ ?side1 ?side2 A9.out).mono ?_); (case side1 => repeat (first | exact (Kd.C_below HR1.out (by repeat (first | (with_reducible first | exact HB.out | apply below_alloc | apply pw_below_drewN | apply below_drew1) | exact HB.out))) | (with_reducible refine Kd.C_alloc ?_ _) | (with_reducible refine Kd.C_drewN ?_ _) | (with_reducible refine Kd.C_drew ?_))); (case side2 => exact HC1.out); rintro e w' ⟨rfl, ⟨nd, rfl⟩⟩))
        go_meet
        case rel => exact ⟨_, (!t732), (by first | rfl | (simp; done) | (simp [*]; done)), H', ⟨by first | omega | exact Nat.le_refl _⟩, ⟨by repeat (first | (with_reducible first | exact HB.out | apply below_alloc | apply pw_below_drewN | apply below_drew1) | exact HB.out)⟩⟩
      · replace c8 := Bool.eq_false_iff.mpr c8
        subst c8
        have H1 : (sizarlaw15_AverageParts.j0 k l0 l1 true) = some r := by rw [if_neg (show ¬ (false = true) by decide)] at H; exact H
        clear H
        have H := H1
        clear H1
        have H' := Aside0.mk H
        clear H
        go_wp2_with (first | ((with_reducible refine gate_callee (f := 32) rfl ?_); refine goesL_ (some 23) rfl rfl Try.func32 (by kernel_rfl) rfl #[.slice A0 l0.length c0] rfl (by (try simp only [List.map_toArray, List.map_cons, List.map_nil]); first | done | rfl | (simp only [List.length_drop, List.length_take]; rfl)) ?_; (with_reducible refine (sizarref15_Few.calls _ _ l0 false _ ?side1 ?side2 A7.out).mono ?_); (case side1 => repeat (first | exact (Kd.C_below HR0.out HB.out) | (with_reducible refine Kd.C_alloc ?_ _) | (with_reducible refine Kd.C_drewN ?_ _) | (with_reducible refine Kd.C_drew ?_))); (case side2 => exact HC0.out); rintro e w' ⟨rfl, ⟨nd, rfl⟩⟩; refine ⟨_, rfl, ?_⟩))
        go_meet
        case rel => exact ⟨_, (true), (by first | rfl | (simp; done) | (simp [*]; done)), H', ⟨by first | omega | exact Nat.le_refl _⟩, ⟨by repeat (first | (with_reducible first | exact HB.out | apply below_alloc | apply pw_below_drewN | apply below_drew1) | exact HB.out)⟩⟩
    case rest =>
      clear HC5
      try clear c1
      try clear p2
      try clear c3
      try clear c4
      try clear c8
      obtain ⟨kq, x29_4, rfl, HA, HJ4, HB⟩ := hcut
      cases kq with
      | zero => exact absurd HA.out (by simp [sizarlaw15_AverageParts.j0])
      | succ kj4 =>
        have H := HA.out
        clear HA
        simp only [sizarlaw15_AverageParts.j0] at H
        by_cases c10 : x29_4 = true
        · subst c10
          have H1 : (some true) = some r := by rw [if_pos rfl] at H; exact H
          clear H
          have H := H1
          clear H1
          obtain rfl := Option.some.inj H
          go_wp2
          go_ret
          exact ⟨by first | rfl | (simp [errW_none, errW_some] <;> rfl) | (simp [*, errW_none, errW_some] <;> rfl), by repeat (first | (with_reducible first | exact HB.out | apply below_alloc | apply pw_below_drewN | apply below_drew1) | exact HB.out)⟩
        · replace c10 := Bool.eq_false_iff.mpr c10
          subst c10
          have H1 : ((average_Sums.f l0).bind fun bt733 => ((average_Sums.f l1).bind fun bt736 => ((some (([] : List (S39)) : List (S39))).bind fun y739 => (if y739.length + l1.length < 3518437208883 then ((some (y739 ++ l1 : List (S39))).bind fun y742 => (if y742.length + l0.length < 3518437208883 then ((average_Sums.f (y742 ++ l0)).bind fun bt748 => (if bt733.2.2 = 0 then (sizarlaw15_AverageParts.j1 kj4 l0 l1 bt733.1 bt733.2.1 bt736.1 bt736.2.1 bt748.1 bt748.2.1 bt748.2.2 (bt736.2.2 != 0)) else (sizarlaw15_AverageParts.j1 kj4 l0 l1 bt733.1 bt733.2.1 bt736.1 bt736.2.1 bt748.1 bt748.2.1 bt748.2.2 true))) else (none))) else (none))))) = some r := by rw [if_neg (show ¬ (false = true) by decide)] at H; exact H
          clear H
          have H := H1
          clear H1
          replace H := Option.bind_eq_some_iff.mp H
          obtain ⟨⟨t733, t734, t735⟩, A110, H⟩ := H
          replace H : ((average_Sums.f l1).bind fun bt736 => ((some (([] : List (S39)) : List (S39))).bind fun y739 => (if y739.length + l1.length < 3518437208883 then ((some (y739 ++ l1 : List (S39))).bind fun y742 => (if y742.length + l0.length < 3518437208883 then ((average_Sums.f (y742 ++ l0)).bind fun bt748 => (if t735 = 0 then (sizarlaw15_AverageParts.j1 kj4 l0 l1 t733 t734 bt736.1 bt736.2.1 bt748.1 bt748.2.1 bt748.2.2 (bt736.2.2 != 0)) else (sizarlaw15_AverageParts.j1 kj4 l0 l1 t733 t734 bt736.1 bt736.2.1 bt748.1 bt748.2.1 bt748.2.2 true))) else (none))) else (none)))) = some r := H
          have A11 := Aside0.mk A110
          clear A110
          replace H := Option.bind_eq_some_iff.mp H
          obtain ⟨⟨t736, t737, t738⟩, A120, H⟩ := H
          replace H : ((some (([] : List (S39)) : List (S39))).bind fun y739 => (if y739.length + l1.length < 3518437208883 then ((some (y739 ++ l1 : List (S39))).bind fun y742 => (if y742.length + l0.length < 3518437208883 then ((average_Sums.f (y742 ++ l0)).bind fun bt748 => (if t735 = 0 then (sizarlaw15_AverageParts.j1 kj4 l0 l1 t733 t734 t736 t737 bt748.1 bt748.2.1 bt748.2.2 (t738 != 0)) else (sizarlaw15_AverageParts.j1 kj4 l0 l1 t733 t734 t736 t737 bt748.1 bt748.2.1 bt748.2.2 true))) else (none))) else (none))) = some r := H
          have A12 := Aside0.mk A120
          clear A120
          obtain ⟨y739, hy739⟩ : ∃ y_ : List (S39), y_ = (([] : List (S39))) := ⟨_, rfl⟩
          replace H : (if y739.length + l1.length < 3518437208883 then ((some (y739 ++ l1 : List (S39))).bind fun y742 => (if y742.length + l0.length < 3518437208883 then ((average_Sums.f (y742 ++ l0)).bind fun bt748 => (if t735 = 0 then (sizarlaw15_AverageParts.j1 kj4 l0 l1 t733 t734 t736 t737 bt748.1 bt748.2.1 bt748.2.2 (t738 != 0)) else (sizarlaw15_AverageParts.j1 kj4 l0 l1 t733 t734 t736 t737 bt748.1 bt748.2.1 bt748.2.2 true))) else (none))) else (none)) = some r := by first | (rw [hy739]; with_reducible exact H) | (have H2_ := (Option.bind_some _ _).symm.trans H; rw [hy739]; with_reducible exact H2_) | (have H2_ := (Option.bind_some _ _).symm.trans H; with_reducible exact H2_) | with_reducible exact H | (rw [hy739]; exact H) | exact H
          have Ny739 := Aside0.mk hy739
          clear hy739
          by_cases c13 : y739.length + l1.length < 3518437208883
          · rw [if_pos c13] at H
            have LMc13 := Aside0.mk c13
            clear c13
            obtain ⟨y742, hy742⟩ : ∃ y_ : List (S39), y_ = (y739 ++ l1) := ⟨_, rfl⟩
            replace H : (if y742.length + l0.length < 3518437208883 then ((average_Sums.f (y742 ++ l0)).bind fun bt748 => (if t735 = 0 then (sizarlaw15_AverageParts.j1 kj4 l0 l1 t733 t734 t736 t737 bt748.1 bt748.2.1 bt748.2.2 (t738 != 0)) else (sizarlaw15_AverageParts.j1 kj4 l0 l1 t733 t734 t736 t737 bt748.1 bt748.2.1 bt748.2.2 true))) else (none)) = some r := by first | (rw [hy742]; with_reducible exact H) | (have H2_ := (Option.bind_some _ _).symm.trans H; rw [hy742]; with_reducible exact H2_) | (have H2_ := (Option.bind_some _ _).symm.trans H; with_reducible exact H2_) | with_reducible exact H | (rw [hy742]; exact H) | exact H
            have Ny742 := Aside0.mk hy742
            clear hy742
            by_cases c14 : y742.length + l0.length < 3518437208883
            · rw [if_pos c14] at H
              have LMc14 := Aside0.mk c14
              clear c14
              obtain ⟨y745, hy745⟩ : ∃ y_ : List (S39), y_ = (y742 ++ l0) := ⟨_, rfl⟩
              replace H : ((average_Sums.f y745).bind fun bt748 => (if t735 = 0 then (sizarlaw15_AverageParts.j1 kj4 l0 l1 t733 t734 t736 t737 bt748.1 bt748.2.1 bt748.2.2 (t738 != 0)) else (sizarlaw15_AverageParts.j1 kj4 l0 l1 t733 t734 t736 t737 bt748.1 bt748.2.1 bt748.2.2 true))) = some r := by first | (rw [hy745]; with_reducible exact H) | (have H2_ := (Option.bind_some _ _).symm.trans H; rw [hy745]; with_reducible exact H2_) | (have H2_ := (Option.bind_some _ _).symm.trans H; with_reducible exact H2_) | with_reducible exact H | (rw [hy745]; exact H) | exact H
              have Ny745 := Aside0.mk hy745
              clear hy745
              replace H := Option.bind_eq_some_iff.mp H
              obtain ⟨⟨t748, t749, t750⟩, A150, H⟩ := H
              replace H : (if t735 = 0 then (sizarlaw15_AverageParts.j1 kj4 l0 l1 t733 t734 t736 t737 t748 t749 t750 (t738 != 0)) else (sizarlaw15_AverageParts.j1 kj4 l0 l1 t733 t734 t736 t737 t748 t749 t750 true)) = some r := H
              have A15 := Aside0.mk A150
              clear A150
              have HC16 := Aside0.mk H
              clear H
              go_upto_region 8 with (first | ((with_reducible refine gate_callee (f := 37) rfl ?_); refine goesL_ (some 32) rfl rfl Try.func37 (by kernel_rfl) rfl #[.slice A0 l0.length c0] rfl (by (try simp only [List.map_toArray, List.map_cons, List.map_nil]); first | done | rfl | (simp only [List.length_drop, List.length_take]; rfl)) ?_; (with_reducible refine (average_Sums.calls _ _ l0 t733 t734 t735 _ ?side1 ?side2 A11.out).mono ?_); (case side1 => repeat (first | exact (Kd.C_below HR0.out HB.out) | (with_reducible refine Kd.C_alloc ?_ _) | (with_reducible refine Kd.C_drewN ?_ _) | (with_reducible refine Kd.C_drew ?_))); (case side2 => exact HC0.out); rintro e w17 ⟨rfl, hb⟩; refine ⟨_, rfl, ?_⟩; have n0_ := Aside0.mk (below_step (by repeat (first | (with_reducible first | exact HB.out | apply below_alloc | apply pw_below_drewN | apply below_drew1) | exact HB.out)) hb); clear HB; have HB := n0_; clear n0_; (try clear hb); (try clear hb2); (try clear hk); (try clear hi)) | ((with_reducible refine gate_callee (f := 37) rfl ?_); refine goesL_ (some 38) rfl rfl Try.func37 (by kernel_rfl) rfl #[.slice A1 l1.length c1] rfl (by (try simp only [List.map_toArray, List.map_cons, List.map_nil]); first | done | rfl | (simp only [List.length_drop, List.length_take]; rfl)) ?_; (with_reducible refine (average_Sums.calls _ _ l1 t736 t737 t738 _ ?side1 ?side2 A12.out).mono ?_); (case side1 => repeat (first | exact (Kd.C_below HR1.out HB.out) | (with_reducible refine Kd.C_alloc ?_ _) | (with_reducible refine Kd.C_drewN ?_ _) | (with_reducible refine Kd.C_drew ?_))); (case side2 => exact HC1.out); rintro e w18 ⟨rfl, hb⟩; refine ⟨_, rfl, ?_⟩; have n0_ := Aside0.mk (below_step (by repeat (first | (with_reducible first | exact HB.out | apply below_alloc | apply pw_below_drewN | apply below_drew1) | exact HB.out)) hb); clear HB; have HB := n0_; clear n0_; (try clear hb); (try clear hb2); (try clear hk); (try clear hi)) | ((with_reducible refine gate_dst (N := 43) rfl ?_); refine Kd.R_lit k39 _ 39 ?hg (N := 43) ?hd (xs := ([] : List (S39))) (inner := []) (ok := fun _ => True) (okp := fun _ => True) ?hr ?hp (fun _ hk => hk) trivial (Below.refl _ _) (Nat.le_refl _) (by simp) ?_; (case hd => rfl); (case hg => rfl); (case hr => first | (go_simp; done) | (go_simp; rfl)); (case hp => exact (Reps.none _ _)); intro v740 w19 ho20 hb hg_ hnew_; clear hg_ hnew_; (first | rw [← Ny739.out] at ho20 | (simp only [Int.reduceToNat] at ho20; rw [← Ny739.out] at ho20)); have n0_ := Aside0.mk (Kd.R_lower ho20 (below_size (by repeat (first | (with_reducible first | exact HB.out | apply below_alloc | apply pw_below_drewN | apply below_drew1) | exact HB.out)))); have n1_ := Aside0.mk (below_step (by repeat (first | (with_reducible first | exact HB.out | apply below_alloc | apply pw_below_drewN | apply below_drew1) | exact HB.out)) hb); clear HB; have HO741 := n0_; have HB := n1_; clear n0_ n1_; clear hb ho20) | ((with_reducible refine gate_builtin (b := .append) (xs := #[.tmp 43, .tmp 44]) rfl ?_); at_builtin; refine Kd.R_append_rows k39 (w0 := w) w.heap.size rfl (.tmp 43) (.tmp 44) 37 39 (.agg #[(.int .i64 0), (.int .i64 0), (.int .i64 0), (.int .i64 0), (.int .i64 0)]) 40 rfl Try.underlying37 info39 rfl (by decide) (by omega) v740 y739 l1 _ _ _ (fun _ => True) (fun _ => False) rfl rfl ?aO ?aR (fun _ _ h => h) (fun _ h => h.elim) ?aF ?aB ?aS ?aL ?_; (case aR => repeat (first | exact (Kd.C_below HR1.out HB.out) | (with_reducible refine Kd.C_alloc ?_ _) | (with_reducible refine Kd.C_drewN ?_ _) | (with_reducible refine Kd.C_drew ?_))); (case aB => exact (by repeat (first | (with_reducible first | exact HB.out | apply below_alloc | apply pw_below_drewN | apply below_drew1) | exact HB.out))); (case aF => exact (fun _ _ => trivial)); (case aO => exact (by (with_reducible repeat (first | apply Kd.R_alloc | apply Kd.R_drewN | apply Kd.R_drew)); exact HO741.out)); (case aS => exact (below_size (by repeat (first | (with_reducible first | exact HB.out | apply below_alloc | apply pw_below_drewN | apply below_drew1) | exact HB.out)))); (case aL => have := LMc13.out; omega); intro v743 w21 ho hb hg hat; rw [← Ny742.out] at ho; have n0_ := Aside0.mk (hb); have n1_ := Aside0.mk (ho); clear HB; clear HO741; have HB := n0_; have HO744 := n1_; clear n0_ n1_; clear ho hb hg hat) | ((with_reducible refine gate_builtin (b := .append) (xs := #[.tmp 45, .tmp 46]) rfl ?_); at_builtin; refine Kd.R_append_rows k39 (w0 := w) w.heap.size rfl (.tmp 45) (.tmp 46) 37 39 (.agg #[(.int .i64 0), (.int .i64 0), (.int .i64 0), (.int .i64 0), (.int .i64 0)]) 40 rfl Try.underlying37 info39 rfl (by decide) (by omega) v743 y742 l0 _ _ _ (fun _ => True) (fun _ => False) rfl rfl ?aO ?aR (fun _ _ h => h) (fun _ h => h.elim) ?aF ?aB ?aS ?aL ?_; (case aR => repeat (first | exact (Kd.C_below HR0.out HB.out) | (with_reducible refine Kd.C_alloc ?_ _) | (with_reducible refine Kd.C_drewN ?_ _) | (with_reducible refine Kd.C_drew ?_))); (case aB => exact (by repeat (first | (with_reducible first | exact HB.out | apply below_alloc | apply pw_below_drewN | apply below_drew1) | exact HB.out))); (case aF => exact (fun _ _ => trivial)); (case aO => exact (by (with_reducible repeat (first | apply Kd.R_alloc | apply Kd.R_drewN | apply Kd.R_drew)); exact HO744.out)); (case aS => exact (below_size (by repeat (first | (with_reducible first | exact HB.out | apply below_alloc | apply pw_below_drewN | apply below_drew1) | exact HB.out)))); (case aL => have := LMc14.out; omega); intro v746 w22 ho hb hg hat; rw [← Ny745.out] at ho; have n0_ := Aside0.mk (hb); have n1_ := Aside0.mk (ho); clear HB; clear HO744; have HB := n0_; have HO747 := n1_; clear n0_ n1_; clear ho hb hg hat; obtain ⟨Ao23, co23, eo23⟩ := Kd.R_slice HO747.out; subst eo23) | ((with_reducible refine gate_callee (f := 37) rfl ?_); refine goesL_ (some 48) rfl rfl Try.func37 (by kernel_rfl) rfl #[.slice Ao23 y745.length co23] rfl (by (try simp only [List.map_toArray, List.map_cons, List.map_nil]); first | done | rfl | (simp only [List.length_drop, List.length_take]; rfl)) ?_; (with_reducible refine (average_Sums.calls _ _ y745 t748 t749 t750 _ ?side1 ?side2 A15.out).mono ?_); (case side1 => repeat (first | exact (Kd.R_reads' HO747.out).2.2 | (with_reducible refine Kd.C_alloc ?_ _) | (with_reducible refine Kd.C_drewN ?_ _) | (with_reducible refine Kd.C_drew ?_))); (case side2 => exact (Kd.R_reads' HO747.out).2.1); rintro e w24 ⟨rfl, hb⟩; refine ⟨_, rfl, ?_⟩; have n0_ := Aside0.mk (Kd.R_below (by (with_reducible repeat (first | apply Kd.R_alloc | apply Kd.R_drewN | apply Kd.R_drew)); exact HO747.out) hb); have n1_ := Aside0.mk (below_step (by repeat (first | (with_reducible first | exact HB.out | apply below_alloc | apply pw_below_drewN | apply below_drew1) | exact HB.out)) hb); clear HO747; clear HB; have HO747 := n0_; have HB := n1_; clear n0_ n1_; (try clear hb); (try clear hb2); (try clear hk); (try clear hi)))
              (try simp only [Act.put, List.setIfInBounds_toArray, List.set_cons_zero, List.set_cons_succ])
              go_cut [57] (fun v57 wc => ∃ (kq : Nat) (x57_15 : Bool), v57 = .bool x57_15 ∧ Aside0 (sizarlaw15_AverageParts.j1 kq l0 l1 t733 t734 t736 t737 t748 t749 t750 x57_15 = some r) ∧ Aside0 (kq ≤ kj4) ∧ Aside0 (Below w.heap.size w wc))
              case first =>
                have H := HC16.out
                clear HC16
                by_cases c25 : t735 = 0
                · rw [if_pos c25] at H
                  have c25b0 : (t735 == 0) = true := beq_iff_eq.mpr c25
                  have c25b1 : (t735 != 0) = false := bne_eq_false_iff_eq.mpr c25
                  clear c25
                  (first | rw [c25b0] | (simp only [i64_w, i32_w]; rw [c25b0]) | skip)
                  have H' := Aside0.mk H
                  clear H
                  go_wp2
                  go_meet
                  case rel => exact ⟨_, ((t738 != 0)), (by first | rfl | (simp; done) | (simp [*]; done)), H', ⟨by have := HJ4.out; first | omega | exact Nat.le_refl _⟩, ⟨by repeat (first | (with_reducible first | exact HB.out | apply below_alloc | apply pw_below_drewN | apply below_drew1) | exact HB.out)⟩⟩
                · rw [if_neg c25] at H
                  have c25b0 : (t735 == 0) = false := beq_eq_false_iff_ne.mpr c25
                  have c25b1 : (t735 != 0) = true := bne_iff_ne.mpr c25
                  (first | rw [c25b0] | (simp only [i64_w, i32_w]; rw [c25b0]) | skip)
                  have H' := Aside0.mk H
                  clear H
                  go_wp2
                  go_meet
                  case rel => exact ⟨_, (true), (by first | rfl | (simp; done) | (simp [*]; done)), H', ⟨by have := HJ4.out; first | omega | exact Nat.le_refl _⟩, ⟨by repeat (first | (with_reducible first | exact HB.out | apply below_alloc | apply pw_below_drewN | apply below_drew1) | exact HB.out)⟩⟩
              case rest =>
                clear HC16
                try clear c1
                try clear c2
                try clear p2
                try clear c3
                try clear c4
                try clear c8
                try clear c10
                try clear c13
                try clear c14
                try clear c16
                try clear c25
                try clear c25b0
                try clear c25b1
                try clear p2
                obtain ⟨kq, x57_15, rfl, HA, HJ15, HB⟩ := hcut
                cases kq with
                | zero => exact absurd HA.out (by simp [sizarlaw15_AverageParts.j1])
                | succ kj15 =>
                  have H := HA.out
                  clear HA
                  simp only [sizarlaw15_AverageParts.j1] at H
                  by_cases c26 : x57_15 = true
                  · subst c26
                    have H1 : (if t750 = 150 then (if t748 = 0 then (some (t749 == 0)) else (some false)) else (some false)) = some r := by rw [if_pos rfl] at H; exact H
                    clear H
                    have H := H1
                    clear H1
                    by_cases c27 : t750 = 150
                    · rw [if_pos c27] at H
                      have c27b0 : (t750 == 150) = true := beq_iff_eq.mpr c27
                      have c27b1 : (t750 != 150) = false := bne_eq_false_iff_eq.mpr c27
                      clear c27
                      by_cases c28 : t748 = 0
                      · rw [if_pos c28] at H
                        have c28b0 : (t748 == 0) = true := beq_iff_eq.mpr c28
                        have c28b1 : (t748 != 0) = false := bne_eq_false_iff_eq.mpr c28
                        clear c28
                        obtain rfl := Option.some.inj H
                        go_wp2
                        go_ret
                        exact ⟨by first | rfl | (simp [errW_none, errW_some] <;> rfl) | (simp [*, errW_none, errW_some] <;> rfl), by repeat (first | (with_reducible first | exact HB.out | apply below_alloc | apply pw_below_drewN | apply below_drew1) | exact HB.out)⟩
                      · rw [if_neg c28] at H
                        have c28b0 : (t748 == 0) = false := beq_eq_false_iff_ne.mpr c28
                        have c28b1 : (t748 != 0) = true := bne_iff_ne.mpr c28
                        exact absurd ((Option.some.inj H).trans hrt.out) (by decide)
                    · rw [if_neg c27] at H
                      have c27b0 : (t750 == 150) = false := beq_eq_false_iff_ne.mpr c27
                      have c27b1 : (t750 != 150) = true := bne_iff_ne.mpr c27
                      exact absurd ((Option.some.inj H).trans hrt.out) (by decide)
                  · replace c26 := Bool.eq_false_iff.mpr c26
                    subst c26
                    have H1 : ((average_Earned.f l0).bind fun bt751 => ((average_Earned.f l1).bind fun bt753 => ((some (([] : List (S39)) : List (S39))).bind fun y755 => (if y755.length + l1.length < 3518437208883 then ((some (y755 ++ l1 : List (S39))).bind fun y758 => (if y758.length + l0.length < 3518437208883 then ((average_Earned.f (y758 ++ l0)).bind fun bt764 => (if t750 = 0 then (if bt751.2 = 0 then (if bt753.2 = 0 then (if bt764.2 = 0 then (if t748 = (wrap64 (t733 + t736)) then (if t749 = (wrap64 (t734 + t737)) then (if bt764.1 = (wrap64 (bt751.1 + bt753.1)) then (some (decide (bt764.1 ≤ t748))) else (some false)) else (some false)) else (some false)) else (some false)) else (some false)) else (some false)) else (some false))) else (none))) else (none))))) = some r := by rw [if_neg (show ¬ (false = true) by decide)] at H; exact H
                    clear H
                    have H := H1
                    clear H1
                    replace H := Option.bind_eq_some_iff.mp H
                    obtain ⟨⟨t751, t752⟩, A290, H⟩ := H
                    replace H : ((average_Earned.f l1).bind fun bt753 => ((some (([] : List (S39)) : List (S39))).bind fun y755 => (if y755.length + l1.length < 3518437208883 then ((some (y755 ++ l1 : List (S39))).bind fun y758 => (if y758.length + l0.length < 3518437208883 then ((average_Earned.f (y758 ++ l0)).bind fun bt764 => (if t750 = 0 then (if t752 = 0 then (if bt753.2 = 0 then (if bt764.2 = 0 then (if t748 = (wrap64 (t733 + t736)) then (if t749 = (wrap64 (t734 + t737)) then (if bt764.1 = (wrap64 (t751 + bt753.1)) then (some (decide (bt764.1 ≤ t748))) else (some false)) else (some false)) else (some false)) else (some false)) else (some false)) else (some false)) else (some false))) else (none))) else (none)))) = some r := H
                    have A29 := Aside0.mk A290
                    clear A290
                    replace H := Option.bind_eq_some_iff.mp H
                    obtain ⟨⟨t753, t754⟩, A300, H⟩ := H
                    replace H : ((some (([] : List (S39)) : List (S39))).bind fun y755 => (if y755.length + l1.length < 3518437208883 then ((some (y755 ++ l1 : List (S39))).bind fun y758 => (if y758.length + l0.length < 3518437208883 then ((average_Earned.f (y758 ++ l0)).bind fun bt764 => (if t750 = 0 then (if t752 = 0 then (if t754 = 0 then (if bt764.2 = 0 then (if t748 = (wrap64 (t733 + t736)) then (if t749 = (wrap64 (t734 + t737)) then (if bt764.1 = (wrap64 (t751 + t753)) then (some (decide (bt764.1 ≤ t748))) else (some false)) else (some false)) else (some false)) else (some false)) else (some false)) else (some false)) else (some false))) else (none))) else (none))) = some r := H
                    have A30 := Aside0.mk A300
                    clear A300
                    obtain ⟨y755, hy755⟩ : ∃ y_ : List (S39), y_ = (([] : List (S39))) := ⟨_, rfl⟩
                    replace H : (if y755.length + l1.length < 3518437208883 then ((some (y755 ++ l1 : List (S39))).bind fun y758 => (if y758.length + l0.length < 3518437208883 then ((average_Earned.f (y758 ++ l0)).bind fun bt764 => (if t750 = 0 then (if t752 = 0 then (if t754 = 0 then (if bt764.2 = 0 then (if t748 = (wrap64 (t733 + t736)) then (if t749 = (wrap64 (t734 + t737)) then (if bt764.1 = (wrap64 (t751 + t753)) then (some (decide (bt764.1 ≤ t748))) else (some false)) else (some false)) else (some false)) else (some false)) else (some false)) else (some false)) else (some false))) else (none))) else (none)) = some r := by first | (rw [hy755]; with_reducible exact H) | (have H2_ := (Option.bind_some _ _).symm.trans H; rw [hy755]; with_reducible exact H2_) | (have H2_ := (Option.bind_some _ _).symm.trans H; with_reducible exact H2_) | with_reducible exact H | (rw [hy755]; exact H) | exact H
                    have Ny755 := Aside0.mk hy755
                    clear hy755
                    by_cases c31 : y755.length + l1.length < 3518437208883
                    · rw [if_pos c31] at H
                      have LMc31 := Aside0.mk c31
                      clear c31
                      obtain ⟨y758, hy758⟩ : ∃ y_ : List (S39), y_ = (y755 ++ l1) := ⟨_, rfl⟩
                      replace H : (if y758.length + l0.length < 3518437208883 then ((average_Earned.f (y758 ++ l0)).bind fun bt764 => (if t750 = 0 then (if t752 = 0 then (if t754 = 0 then (if bt764.2 = 0 then (if t748 = (wrap64 (t733 + t736)) then (if t749 = (wrap64 (t734 + t737)) then (if bt764.1 = (wrap64 (t751 + t753)) then (some (decide (bt764.1 ≤ t748))) else (some false)) else (some false)) else (some false)) else (some false)) else (some false)) else (some false)) else (some false))) else (none)) = some r := by first | (rw [hy758]; with_reducible exact H) | (have H2_ := (Option.bind_some _ _).symm.trans H; rw [hy758]; with_reducible exact H2_) | (have H2_ := (Option.bind_some _ _).symm.trans H; with_reducible exact H2_) | with_reducible exact H | (rw [hy758]; exact H) | exact H
                      have Ny758 := Aside0.mk hy758
                      clear hy758
                      by_cases c32 : y758.length + l0.length < 3518437208883
                      · rw [if_pos c32] at H
                        have LMc32 := Aside0.mk c32
                        clear c32
                        obtain ⟨y761, hy761⟩ : ∃ y_ : List (S39), y_ = (y758 ++ l0) := ⟨_, rfl⟩
                        replace H : ((average_Earned.f y761).bind fun bt764 => (if t750 = 0 then (if t752 = 0 then (if t754 = 0 then (if bt764.2 = 0 then (if t748 = (wrap64 (t733 + t736)) then (if t749 = (wrap64 (t734 + t737)) then (if bt764.1 = (wrap64 (t751 + t753)) then (some (decide (bt764.1 ≤ t748))) else (some false)) else (some false)) else (some false)) else (some false)) else (some false)) else (some false)) else (some false))) = some r := by first | (rw [hy761]; with_reducible exact H) | (have H2_ := (Option.bind_some _ _).symm.trans H; rw [hy761]; with_reducible exact H2_) | (have H2_ := (Option.bind_some _ _).symm.trans H; with_reducible exact H2_) | with_reducible exact H | (rw [hy761]; exact H) | exact H
                        have Ny761 := Aside0.mk hy761
                        clear hy761
                        replace H := Option.bind_eq_some_iff.mp H
                        obtain ⟨⟨t764, t765⟩, A330, H⟩ := H
                        replace H : (if t750 = 0 then (if t752 = 0 then (if t754 = 0 then (if t765 = 0 then (if t748 = (wrap64 (t733 + t736)) then (if t749 = (wrap64 (t734 + t737)) then (if t764 = (wrap64 (t751 + t753)) then (some (decide (t764 ≤ t748))) else (some false)) else (some false)) else (some false)) else (some false)) else (some false)) else (some false)) else (some false)) = some r := H
                        have A33 := Aside0.mk A330
                        clear A330
                        by_cases c34 : t750 = 0
                        · rw [if_pos c34] at H
                          have c34b0 : (t750 == 0) = true := beq_iff_eq.mpr c34
                          have c34b1 : (t750 != 0) = false := bne_eq_false_iff_eq.mpr c34
                          clear c34
                          by_cases c35 : t752 = 0
                          · rw [if_pos c35] at H
                            have c35b0 : (t752 == 0) = true := beq_iff_eq.mpr c35
                            have c35b1 : (t752 != 0) = false := bne_eq_false_iff_eq.mpr c35
                            clear c35
                            by_cases c36 : t754 = 0
                            · rw [if_pos c36] at H
                              have c36b0 : (t754 == 0) = true := beq_iff_eq.mpr c36
                              have c36b1 : (t754 != 0) = false := bne_eq_false_iff_eq.mpr c36
                              clear c36
                              by_cases c37 : t765 = 0
                              · rw [if_pos c37] at H
                                have c37b0 : (t765 == 0) = true := beq_iff_eq.mpr c37
                                have c37b1 : (t765 != 0) = false := bne_eq_false_iff_eq.mpr c37
                                clear c37
                                by_cases c38 : t748 = (wrap64 (t733 + t736))
                                · rw [if_pos c38] at H
                                  have c38b0 : (t748 == (wrap64 (t733 + t736))) = true := beq_iff_eq.mpr c38
                                  have c38b1 : (t748 != (wrap64 (t733 + t736))) = false := bne_eq_false_iff_eq.mpr c38
                                  clear c38
                                  by_cases c39 : t749 = (wrap64 (t734 + t737))
                                  · rw [if_pos c39] at H
                                    have c39b0 : (t749 == (wrap64 (t734 + t737))) = true := beq_iff_eq.mpr c39
                                    have c39b1 : (t749 != (wrap64 (t734 + t737))) = false := bne_eq_false_iff_eq.mpr c39
                                    clear c39
                                    by_cases c40 : t764 = (wrap64 (t751 + t753))
                                    · rw [if_pos c40] at H
                                      have c40b0 : (t764 == (wrap64 (t751 + t753))) = true := beq_iff_eq.mpr c40
                                      have c40b1 : (t764 != (wrap64 (t751 + t753))) = false := bne_eq_false_iff_eq.mpr c40
                                      clear c40
                                      obtain rfl := Option.some.inj H
                                      go_wp2_with (first | ((with_reducible refine gate_callee (f := 40) rfl ?_); refine goesL_ (some 70) rfl rfl Try.func40 (by kernel_rfl) rfl #[.slice A0 l0.length c0] rfl (by (try simp only [List.map_toArray, List.map_cons, List.map_nil]); first | done | rfl | (simp only [List.length_drop, List.length_take]; rfl)) ?_; (with_reducible refine (average_Earned.calls _ _ l0 t751 t752 _ ?side1 ?side2 A29.out).mono ?_); (case side1 => repeat (first | exact (Kd.C_below HR0.out HB.out) | (with_reducible refine Kd.C_alloc ?_ _) | (with_reducible refine Kd.C_drewN ?_ _) | (with_reducible refine Kd.C_drew ?_))); (case side2 => exact HC0.out); rintro e w41 ⟨rfl, hb⟩; refine ⟨_, rfl, ?_⟩; have n0_ := Aside0.mk (below_step (by repeat (first | (with_reducible first | exact HB.out | apply below_alloc | apply pw_below_drewN | apply below_drew1) | exact HB.out)) hb); clear HB; have HB := n0_; clear n0_; (try clear hb); (try clear hb2); (try clear hk); (try clear hi)) | ((with_reducible refine gate_callee (f := 40) rfl ?_); refine goesL_ (some 75) rfl rfl Try.func40 (by kernel_rfl) rfl #[.slice A1 l1.length c1] rfl (by (try simp only [List.map_toArray, List.map_cons, List.map_nil]); first | done | rfl | (simp only [List.length_drop, List.length_take]; rfl)) ?_; (with_reducible refine (average_Earned.calls _ _ l1 t753 t754 _ ?side1 ?side2 A30.out).mono ?_); (case side1 => repeat (first | exact (Kd.C_below HR1.out HB.out) | (with_reducible refine Kd.C_alloc ?_ _) | (with_reducible refine Kd.C_drewN ?_ _) | (with_reducible refine Kd.C_drew ?_))); (case side2 => exact HC1.out); rintro e w42 ⟨rfl, hb⟩; refine ⟨_, rfl, ?_⟩; have n0_ := Aside0.mk (below_step (by repeat (first | (with_reducible first | exact HB.out | apply below_alloc | apply pw_below_drewN | apply below_drew1) | exact HB.out)) hb); clear HB; have HB := n0_; clear n0_; (try clear hb); (try clear hb2); (try clear hk); (try clear hi)) | ((with_reducible refine gate_dst (N := 79) rfl ?_); refine Kd.R_lit k39 _ 39 ?hg (N := 79) ?hd (xs := ([] : List (S39))) (inner := []) (ok := fun _ => True) (okp := fun _ => True) ?hr ?hp (fun _ hk => hk) trivial (Below.refl _ _) (Nat.le_refl _) (by simp) ?_; (case hd => rfl); (case hg => rfl); (case hr => first | (go_simp; done) | (go_simp; rfl)); (case hp => exact (Reps.none _ _)); intro v756 w43 ho44 hb hg_ hnew_; clear hg_ hnew_; (first | rw [← Ny755.out] at ho44 | (simp only [Int.reduceToNat] at ho44; rw [← Ny755.out] at ho44)); have n0_ := Aside0.mk (Kd.R_lower ho44 (below_size (by repeat (first | (with_reducible first | exact HB.out | apply below_alloc | apply pw_below_drewN | apply below_drew1) | exact HB.out)))); have n1_ := Aside0.mk (below_step (by repeat (first | (with_reducible first | exact HB.out | apply below_alloc | apply pw_below_drewN | apply below_drew1) | exact HB.out)) hb); clear HB; have HO757 := n0_; have HB := n1_; clear n0_ n1_; clear hb ho44) | ((with_reducible refine gate_builtin (b := .append) (xs := #[.tmp 79, .tmp 80]) rfl ?_); at_builtin; refine Kd.R_append_rows k39 (w0 := w) w.heap.size rfl (.tmp 79) (.tmp 80) 37 39 (.agg #[(.int .i64 0), (.int .i64 0), (.int .i64 0), (.int .i64 0), (.int .i64 0)]) 40 rfl Try.underlying37 info39 rfl (by decide) (by omega) v756 y755 l1 _ _ _ (fun _ => True) (fun _ => False) rfl rfl ?aO ?aR (fun _ _ h => h) (fun _ h => h.elim) ?aF ?aB ?aS ?aL ?_; (case aR => repeat (first | exact (Kd.C_below HR1.out HB.out) | (with_reducible refine Kd.C_alloc ?_ _) | (with_reducible refine Kd.C_drewN ?_ _) | (with_reducible refine Kd.C_drew ?_))); (case aB => exact (by repeat (first | (with_reducible first | exact HB.out | apply below_alloc | apply pw_below_drewN | apply below_drew1) | exact HB.out))); (case aF => exact (fun _ _ => trivial)); (case aO => exact (by (with_reducible repeat (first | apply Kd.R_alloc | apply Kd.R_drewN | apply Kd.R_drew)); exact HO757.out)); (case aS => exact (below_size (by repeat (first | (with_reducible first | exact HB.out | apply below_alloc | apply pw_below_drewN | apply below_drew1) | exact HB.out)))); (case aL => have := LMc31.out; omega); intro v759 w45 ho hb hg hat; rw [← Ny758.out] at ho; have n0_ := Aside0.mk (hb); have n1_ := Aside0.mk (ho); clear HB; clear HO757; have HB := n0_; have HO760 := n1_; clear n0_ n1_; clear ho hb hg hat) | ((with_reducible refine gate_builtin (b := .append) (xs := #[.tmp 81, .tmp 82]) rfl ?_); at_builtin; refine Kd.R_append_rows k39 (w0 := w) w.heap.size rfl (.tmp 81) (.tmp 82) 37 39 (.agg #[(.int .i64 0), (.int .i64 0), (.int .i64 0), (.int .i64 0), (.int .i64 0)]) 40 rfl Try.underlying37 info39 rfl (by decide) (by omega) v759 y758 l0 _ _ _ (fun _ => True) (fun _ => False) rfl rfl ?aO ?aR (fun _ _ h => h) (fun _ h => h.elim) ?aF ?aB ?aS ?aL ?_; (case aR => repeat (first | exact (Kd.C_below HR0.out HB.out) | (with_reducible refine Kd.C_alloc ?_ _) | (with_reducible refine Kd.C_drewN ?_ _) | (with_reducible refine Kd.C_drew ?_))); (case aB => exact (by repeat (first | (with_reducible first | exact HB.out | apply below_alloc | apply pw_below_drewN | apply below_drew1) | exact HB.out))); (case aF => exact (fun _ _ => trivial)); (case aO => exact (by (with_reducible repeat (first | apply Kd.R_alloc | apply Kd.R_drewN | apply Kd.R_drew)); exact HO760.out)); (case aS => exact (below_size (by repeat (first | (with_reducible first | exact HB.out | apply below_alloc | apply pw_below_drewN | apply below_drew1) | exact HB.out)))); (case aL => have := LMc32.out; omega); intro v762 w46 ho hb hg hat; rw [← Ny761.out] at ho; have n0_ := Aside0.mk (hb); have n1_ := Aside0.mk (ho); clear HB; clear HO760; have HB := n0_; have HO763 := n1_; clear n0_ n1_; clear ho hb hg hat; obtain ⟨Ao47, co47, eo47⟩ := Kd.R_slice HO763.out; subst eo47) | ((with_reducible refine gate_callee (f := 40) rfl ?_); refine goesL_ (some 84) rfl rfl Try.func40 (by kernel_rfl) rfl #[.slice Ao47 y761.length co47] rfl (by (try simp only [List.map_toArray, List.map_cons, List.map_nil]); first | done | rfl | (simp only [List.length_drop, List.length_take]; rfl)) ?_; (with_reducible refine (average_Earned.calls _ _ y761 t764 t765 _ ?side1 ?side2 A33.out).mono ?_); (case side1 => repeat (first | exact (Kd.R_reads' HO763.out).2.2 | (with_reducible refine Kd.C_alloc ?_ _) | (with_reducible refine Kd.C_drewN ?_ _) | (with_reducible refine Kd.C_drew ?_))); (case side2 => exact (Kd.R_reads' HO763.out).2.1); rintro e w48 ⟨rfl, hb⟩; refine ⟨_, rfl, ?_⟩; have n0_ := Aside0.mk (Kd.R_below (by (with_reducible repeat (first | apply Kd.R_alloc | apply Kd.R_drewN | apply Kd.R_drew)); exact HO763.out) hb); have n1_ := Aside0.mk (below_step (by repeat (first | (with_reducible first | exact HB.out | apply below_alloc | apply pw_below_drewN | apply below_drew1) | exact HB.out)) hb); clear HO763; clear HB; have HO763 := n0_; have HB := n1_; clear n0_ n1_; (try clear hb); (try clear hb2); (try clear hk); (try clear hi)))
                                      go_ret
                                      exact ⟨by first | rfl | (simp [errW_none, errW_some] <;> rfl) | (simp [*, errW_none, errW_some] <;> rfl), by repeat (first | (with_reducible first | exact HB.out | apply below_alloc | apply pw_below_drewN | apply below_drew1) | exact HB.out)⟩
                                    · rw [if_neg c40] at H
                                      have c40b0 : (t764 == (wrap64 (t751 + t753))) = false := beq_eq_false_iff_ne.mpr c40
                                      have c40b1 : (t764 != (wrap64 (t751 + t753))) = true := bne_iff_ne.mpr c40
                                      exact absurd ((Option.some.inj H).trans hrt.out) (by decide)
                                  · rw [if_neg c39] at H
                                    have c39b0 : (t749 == (wrap64 (t734 + t737))) = false := beq_eq_false_iff_ne.mpr c39
                                    have c39b1 : (t749 != (wrap64 (t734 + t737))) = true := bne_iff_ne.mpr c39
                                    exact absurd ((Option.some.inj H).trans hrt.out) (by decide)
                                · rw [if_neg c38] at H
                                  have c38b0 : (t748 == (wrap64 (t733 + t736))) = false := beq_eq_false_iff_ne.mpr c38
                                  have c38b1 : (t748 != (wrap64 (t733 + t736))) = true := bne_iff_ne.mpr c38
                                  exact absurd ((Option.some.inj H).trans hrt.out) (by decide)
                              · rw [if_neg c37] at H
                                have c37b0 : (t765 == 0) = false := beq_eq_false_iff_ne.mpr c37
                                have c37b1 : (t765 != 0) = true := bne_iff_ne.mpr c37
                                exact absurd ((Option.some.inj H).trans hrt.out) (by decide)
                            · rw [if_neg c36] at H
                              have c36b0 : (t754 == 0) = false := beq_eq_false_iff_ne.mpr c36
                              have c36b1 : (t754 != 0) = true := bne_iff_ne.mpr c36
                              exact absurd ((Option.some.inj H).trans hrt.out) (by decide)
                          · rw [if_neg c35] at H
                            have c35b0 : (t752 == 0) = false := beq_eq_false_iff_ne.mpr c35
                            have c35b1 : (t752 != 0) = true := bne_iff_ne.mpr c35
                            exact absurd ((Option.some.inj H).trans hrt.out) (by decide)
                        · rw [if_neg c34] at H
                          have c34b0 : (t750 == 0) = false := beq_eq_false_iff_ne.mpr c34
                          have c34b1 : (t750 != 0) = true := bne_iff_ne.mpr c34
                          exact absurd ((Option.some.inj H).trans hrt.out) (by decide)
                      · rw [if_neg c32] at H
                        exact absurd H (by simp)
                    · rw [if_neg c31] at H
                      exact absurd H (by simp)
            · rw [if_neg c14] at H
              exact absurd H (by simp)
          · rw [if_neg c13] at H
            exact absurd H (by simp)
  · replace c4 := Bool.eq_false_iff.mpr c4
    subst c4
    have H1 : (some false) = some r := by rw [if_neg (show ¬ (false = true) by decide)] at H; exact H
    clear H
    have H := H1
    clear H1
    exact absurd ((Option.some.inj H).trans hrt.out) (by decide)

end Go.Proofs.Ytgoicalffgehoaa.P
