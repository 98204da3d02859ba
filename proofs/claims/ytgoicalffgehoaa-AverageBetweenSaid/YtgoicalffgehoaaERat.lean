/- The contracts of ratio.New, Check, Add, Mul and Compare in closed form. Condition: the numbers are int64s. -/
import Derived.Test.YtgoicalffgehoaaP3
import Derived.Deep.QuietTactic
import Derived.BigQuiet
import Derived.WalkKit
import Derived.LoopN
namespace Go.Proofs.Ytgoicalffgehoaa.P
open Go.RowKit Go.Proofs.YtgoicalffgehoaaW.PrintWords
open Go.Proofs.Ytgoicalffgehoaa

theorem quo_u64 (A g : Nat) (h : A < 18446744073709551616) : IntKind.u64.wrap (Int.tdiv (A : Int) (g : Int)) = ((A / g : Nat) : Int) := by
  have e : Int.tdiv (A : Int) (g : Int) = ((A / g : Nat) : Int) := rfl
  rw [e, wrap_u64]
  have hq := Nat.div_le_self A g
  generalize A / g = q at *
  omega

theorem ratio_size_eq {a : Int} (h1 : -9223372036854775808 ≤ a) (h2 : a ≤ 9223372036854775807) : ratio_size.f a = some ((a.natAbs : Nat) : Int) := by
  unfold ratio_size.f
  split
  · rw [wrap_u64, wrap_u64]; congr 1; omega
  · rw [wrap_u64]; congr 1; omega

theorem gcdA_pos {a b : Int} (h : b ≠ 0) : 0 < gcdA a b := Nat.gcd_pos_of_pos_right _ (by omega)

def in64 (a : Int) : Prop := -9223372036854775808 ≤ a ∧ a ≤ 9223372036854775807
instance (a : Int) : Decidable (in64 a) := by unfold in64; exact inferInstance

theorem wrap64_id {x : Int} (h1 : -9223372036854775808 ≤ x) (h2 : x ≤ 9223372036854775807) : wrap64 x = x := by unfold wrap64; omega

theorem ratio_New_eq {a0 a1 : Int} (h0 : in64 a0) (h1 : in64 a1) : ratio_New.f 1 a0 a1 = some (newN a0 a1, newD a0 a1, newE a0 a1) := by
  obtain ⟨h01, h02⟩ := h0
  obtain ⟨h11, h12⟩ := h1
  unfold ratio_New.f
  by_cases hz : a1 = 0
  · rw [if_pos hz]; unfold newN newD newE; simp only [if_pos hz]
  · rw [if_neg hz]
    have hg := gcdA_pos (a := a0) hz
    have e1 : ratio_common.f a0 a1 = some ((gcdA a0 a1 : Nat) : Int) := by unfold ratio_common.f; rw [if_pos ⟨h01, h02, h11, h12⟩]
    rw [e1, ratio_size_eq h01 h02, ratio_size_eq h11 h12]
    simp only [Option.bind_some]
    rw [if_neg (by omega), quo_u64 _ _ (by omega), quo_u64 _ _ (by omega)]
    unfold newN newD newE okB
    simp only [if_neg hz]
    generalize gcdA a0 a1 = g at *
    generalize a0.natAbs / g = A
    generalize a1.natAbs / g = D
    by_cases hA : (A : Int) > 1073741824
    · rw [if_pos hA]
      simp only [ratio_New.j0, if_true]
      rw [decide_eq_false (by omega : ¬ A ≤ 1073741824)]
      simp
    · rw [if_neg hA]
      by_cases hD : (D : Int) > 1073741824
      · simp only [ratio_New.j0, decide_eq_true hD, if_true]
        rw [decide_eq_false (by omega : ¬ D ≤ 1073741824)]
        simp
      · have hA' : A ≤ 1073741824 := by omega
        have hD' : D ≤ 1073741824 := by omega
        simp only [ratio_New.j0, decide_eq_false hD, decide_eq_true hA', decide_eq_true hD', Bool.and_self, if_true, if_neg Bool.false_ne_true]
        have w1 : wrap64 (A : Int) = A := wrap64_id (by omega) (by omega)
        have w2 : wrap64 (D : Int) = D := wrap64_id (by omega) (by omega)
        have w3 : wrap64 (-(A : Int)) = -A := wrap64_id (by omega) (by omega)
        rw [w1, w2, w3]
        by_cases hs : decide (a0 < 0) = decide (a1 < 0)
        · rw [if_pos hs, if_neg (by rw [hs]; simp)]
        · rw [if_neg hs, if_pos (by simpa using hs)]

theorem ratio_Check_eq {a0 a1 : Int} (h0 : in64 a0) (h1 : in64 a1) : ratio_Check.f a0 a1 = some (chkE a0 a1) := by
  obtain ⟨h01, h02⟩ := h0
  obtain ⟨h11, h12⟩ := h1
  have e1 : ratio_common.f a0 a1 = some ((gcdA a0 a1 : Nat) : Int) := by unfold ratio_common.f; rw [if_pos ⟨h01, h02, h11, h12⟩]
  unfold ratio_Check.f chkE validB
  rw [e1]
  simp only [Option.bind_some, decide_eq_true_eq]
  generalize gcdA a0 a1 = g
  repeat' split
  all_goals first | rfl | (exfalso; omega)

def ratio_NewC.f (a0 a1 : Int) : Option (Int × Int × Int) := if in64 a0 ∧ in64 a1 then some (newN a0 a1, newD a0 a1, newE a0 a1) else none
theorem ratio_NewC.calls (a0 : Int) (a1 : Int) (r1 : Int) (r2 : Int) (r3 : Int) (w : World) (h : ratio_NewC.f a0 a1 = some (r1, r2, r3)) :
    Calls Try.prog 19 #[.int .i64 a0, .int .i64 a1] w fun e w' => e = .returned (.tuple #[.agg #[.int .i64 r1, .int .i64 r2], .int .i64 r3]) ∧ Below w.heap.size w w' := by
  unfold ratio_NewC.f at h
  split at h
  · rename_i hr
    exact ratio_New.calls 1 a0 a1 r1 r2 r3 w ((ratio_New_eq hr.1 hr.2).trans h)
  · cases h

def ratio_CheckC.f (a0_0 : Int) (a0_1 : Int) : Option Int := if in64 a0_0 ∧ in64 a0_1 then some (chkE a0_0 a0_1) else none
theorem ratio_CheckC.calls (a0_0 : Int) (a0_1 : Int) (r : Int) (w : World) (h : ratio_CheckC.f a0_0 a0_1 = some r) :
    Calls Try.prog 21 #[.agg #[.int .i64 a0_0, .int .i64 a0_1]] w fun e w' => e = .returned (.int .i64 r) ∧ Below w.heap.size w w' := by
  unfold ratio_CheckC.f at h
  split at h
  · rename_i hr
    exact ratio_Check.calls a0_0 a0_1 r w ((ratio_Check_eq hr.1 hr.2).trans h)
  · cases h

theorem check_at (n d : Int) (w : World) (h0 : in64 n) (h1 : in64 d) :
    Calls Try.prog 21 #[.agg #[.int .i64 n, .int .i64 d]] w fun e w' => e = .returned (.int .i64 (chkE n d)) ∧ Below w.heap.size w w' :=
  ratio_CheckC.calls n d _ w (by unfold ratio_CheckC.f; rw [if_pos ⟨h0, h1⟩])

theorem bcell {W w1 : World} (hb : Below W.heap.size W w1) : (∀ b o, b < W.heap.size → w1.cell? ⟨b, o, none⟩ = W.cell? ⟨b, o, none⟩) ∧ (∀ b o, b < W.heap.size → w1.frozen? ⟨b, o, none⟩ = W.frozen? ⟨b, o, none⟩) :=
  ⟨fun b o h => hb.cell (p := ⟨b, o, none⟩) h, fun b o h => hb.frozen (p := ⟨b, o, none⟩) h⟩

theorem chk_ok {n d : Int} (h : validB n d = true) : chkE n d = 0 := by unfold chkE; rw [if_pos h]
theorem chk_no {n d : Int} (h : validB n d = false) : chkE n d = 50 := by unfold chkE; rw [h]; rfl


theorem below_go {w W w1 : World} (h : Below w.heap.size w W) (k : Below W.heap.size W w1) : Below w.heap.size w w1 := below_then h h.size k

theorem idx0 (an ad bn bd : Int) (w : World) : (Instr.index 88 (.agg #[.int .i64 an, .int .i64 ad, .int .i64 bn, .int .i64 bd]) (.int .i64 0)).run Try.prog w = .ok (.agg #[.int .i64 an, .int .i64 ad]) w := by kernel_rfl
theorem idx1 (an ad bn bd : Int) (w : World) : (Instr.index 88 (.agg #[.int .i64 an, .int .i64 ad, .int .i64 bn, .int .i64 bd]) (.int .i64 1)).run Try.prog w = .ok (.agg #[.int .i64 bn, .int .i64 bd]) w := by kernel_rfl

theorem heap_at2 (w : World) (A B X : Obj) : (((w.alloc A).alloc B).alloc X).heap[w.heap.size + 1 + 1]? = some X := by
  have := blk_new ((w.alloc A).alloc B) X
  simpa only [World.size_alloc] using this

set_option maxRecDepth 100000 in
set_option maxHeartbeats 2000000 in
theorem both50_no1 (an ad bn bd : Int) (fv : Value) (w : World) (ha0 : in64 an) (ha1 : in64 ad) (hv : validB an ad = false) :
    Calls Try.prog 50 #[.agg #[.int .i64 an, .int .i64 ad], .agg #[.int .i64 bn, .int .i64 bd], fv] w fun e w' =>
      e = .returned (.tuple #[.agg #[.int .i64 0, .int .i64 0], .int .i64 50]) ∧ Below w.heap.size w w' := by
  have hc := fun W => check_at an ad W ha0 ha1
  rw [chk_no hv] at hc
  have i0 := idx0 an ad bn bd
  have hu23 := Try.underlying23
  clear hv
  go_enter Try.func50, Try.ntmps50
  go_wp2_with fail
  refine wp_loop_rounds 1 ?_
  rw [rounds_succ]
  go_wp2_with (go_at_call 21; refine (hc _).mono ?_; rintro e w1 ⟨rfl, hb1⟩; have X1 := blk_below (blk_alloc (heap_at2 w _ _ _) _) hb1; have x10 := blk_cell X1 0; have x11 := blk_cell X1 1; have f10 := blk_frozen X1 0; have f11 := blk_frozen X1 1; simp at x10 x11)
  refine bodyPost_ret (results_ct rfl _ _ (w.heap.size + 1 + 1) 23 #[.int .i64 0, .int .i64 0] (0, 0) _ rfl (by simpa using (blk_set (blk_set X1 0 (.int .i64 0)) 1 (.int .i64 0))) Try.underlying23 rfl (by kernel_rfl)) rfl ⟨rfl, ((below_go (below_alloc (below_alloc (below_alloc (below_alloc (Below.refl _ _) _) _) _) _) hb1).setCell (by simp; omega) _).setCell (by simp; omega) _⟩

set_option maxRecDepth 100000 in
set_option maxHeartbeats 2000000 in
theorem both50_no2 (an ad bn bd : Int) (fv : Value) (w : World) (ha0 : in64 an) (ha1 : in64 ad) (hb0 : in64 bn) (hb1' : in64 bd) (hv : validB an ad = true) (hu : validB bn bd = false) :
    Calls Try.prog 50 #[.agg #[.int .i64 an, .int .i64 ad], .agg #[.int .i64 bn, .int .i64 bd], fv] w fun e w' =>
      e = .returned (.tuple #[.agg #[.int .i64 0, .int .i64 0], .int .i64 50]) ∧ Below w.heap.size w w' := by
  have hc := fun W => check_at an ad W ha0 ha1
  rw [chk_ok hv] at hc
  have hd := fun W => check_at bn bd W hb0 hb1'
  rw [chk_no hu] at hd
  have i0 := idx0 an ad bn bd
  have i1 := idx1 an ad bn bd
  have hu23 := Try.underlying23
  clear hv hu
  go_enter Try.func50, Try.ntmps50
  go_wp2_with fail
  refine wp_loop_rounds 2 ?_
  rw [rounds_succ]
  go_wp2_with (go_at_call 21; refine (hc _).mono ?_; rintro e w1 ⟨rfl, hb1⟩; have X1 := blk_below (blk_alloc (heap_at2 w _ _ _) _) hb1; have x10 := blk_cell X1 0; have x11 := blk_cell X1 1; have f10 := blk_frozen X1 0; have f11 := blk_frozen X1 1; simp at x10 x11)
  rw [rounds_succ]
  go_wp2_with (go_at_call 21; refine (hd _).mono ?_; rintro e w2 ⟨rfl, hb2⟩; have X2 := blk_below (blk_alloc X1 _) hb2; have x20 := blk_cell X2 0; have x21 := blk_cell X2 1; have f20 := blk_frozen X2 0; have f21 := blk_frozen X2 1; simp at x20 x21)
  refine bodyPost_ret (results_ct rfl _ _ (w.heap.size + 1 + 1) 23 #[.int .i64 0, .int .i64 0] (0, 0) _ rfl (by simpa using (blk_set (blk_set X2 0 (.int .i64 0)) 1 (.int .i64 0))) Try.underlying23 rfl (by kernel_rfl)) rfl ⟨rfl, ((below_go (below_alloc (below_go (below_alloc (below_alloc (below_alloc (below_alloc (Below.refl _ _) _) _) _) _) hb1) _) hb2).setCell (by simp; omega) _).setCell (by simp; omega) _⟩

set_option maxRecDepth 100000 in
set_option maxHeartbeats 2000000 in
theorem both50_ok51 (an ad bn bd : Int) (caps : Array Value) (r1 r2 r3 : Int) (w : World) (ha0 : in64 an) (ha1 : in64 ad) (hb0 : in64 bn) (hb1' : in64 bd) (hv : validB an ad = true) (hu : validB bn bd = true)
    (hf : ∀ W, Below w.heap.size w W → Calls Try.prog 51 caps W fun e W' => e = .returned (.tuple #[.agg #[.int .i64 r1, .int .i64 r2], .int .i64 r3]) ∧ Below W.heap.size W W') :
    Calls Try.prog 50 #[.agg #[.int .i64 an, .int .i64 ad], .agg #[.int .i64 bn, .int .i64 bd], .func (.func 51) #[] caps] w fun e w' =>
      e = .returned (.tuple #[.agg #[.int .i64 r1, .int .i64 r2], .int .i64 r3]) ∧ Below w.heap.size w w' := by
  have hc := fun W => check_at an ad W ha0 ha1
  rw [chk_ok hv] at hc
  have hd := fun W => check_at bn bd W hb0 hb1'
  rw [chk_ok hu] at hd
  have i0 := idx0 an ad bn bd
  have i1 := idx1 an ad bn bd
  have hu23 := Try.underlying23
  clear hv hu
  go_enter Try.func50, Try.ntmps50
  go_wp2_with fail
  refine wp_loop_rounds 3 ?_
  rw [rounds_succ]
  go_wp2_with (go_at_call 21; refine (hc _).mono ?_; rintro e w1 ⟨rfl, hb1⟩; have X1 := blk_below (blk_alloc (heap_at2 w _ _ _) _) hb1; have x10 := blk_cell X1 0; have x11 := blk_cell X1 1; have f10 := blk_frozen X1 0; have f11 := blk_frozen X1 1; simp at x10 x11)
  rw [rounds_succ]
  go_wp2_with (go_at_call 21; refine (hd _).mono ?_; rintro e w2 ⟨rfl, hb2⟩; have X2 := blk_below (blk_alloc X1 _) hb2; have x20 := blk_cell X2 0; have x21 := blk_cell X2 1; have f20 := blk_frozen X2 0; have f21 := blk_frozen X2 1; simp at x20 x21)
  rw [rounds_succ]
  have hf' := hf _ (below_go (below_alloc (below_go (below_alloc (below_alloc (below_alloc (below_alloc (Below.refl _ _) _) _) _) _) hb1) _) hb2)
  clear hf
  go_wp2_with (go_at_call 51; (refine hf'.mono ?_; rintro e w3 ⟨rfl, hb3⟩; have X3 := blk_below X2 hb3; have x30 := blk_cell X3 0; have x31 := blk_cell X3 1; have f30 := blk_frozen X3 0; have f31 := blk_frozen X3 1; simp at x30 x31))
  refine bodyPost_ret (results_ct rfl _ _ (w.heap.size + 1 + 1) 23 #[.int .i64 r1, .int .i64 r2] (0, 0) _ rfl (by simpa using (blk_set (blk_set X3 0 (.int .i64 r1)) 1 (.int .i64 r2))) Try.underlying23 rfl (by kernel_rfl)) rfl ⟨rfl, ((below_go (below_go (below_alloc (below_go (below_alloc (below_alloc (below_alloc (below_alloc (Below.refl _ _) _) _) _) _) hb1) _) hb2) hb3).setCell (by simp; omega) _).setCell (by simp; omega) _⟩

set_option maxRecDepth 100000 in
set_option maxHeartbeats 2000000 in
theorem both50_ok53 (an ad bn bd : Int) (caps : Array Value) (r1 r2 r3 : Int) (w : World) (ha0 : in64 an) (ha1 : in64 ad) (hb0 : in64 bn) (hb1' : in64 bd) (hv : validB an ad = true) (hu : validB bn bd = true)
    (hf : ∀ W, Below w.heap.size w W → Calls Try.prog 53 caps W fun e W' => e = .returned (.tuple #[.agg #[.int .i64 r1, .int .i64 r2], .int .i64 r3]) ∧ Below W.heap.size W W') :
    Calls Try.prog 50 #[.agg #[.int .i64 an, .int .i64 ad], .agg #[.int .i64 bn, .int .i64 bd], .func (.func 53) #[] caps] w fun e w' =>
      e = .returned (.tuple #[.agg #[.int .i64 r1, .int .i64 r2], .int .i64 r3]) ∧ Below w.heap.size w w' := by
  have hc := fun W => check_at an ad W ha0 ha1
  rw [chk_ok hv] at hc
  have hd := fun W => check_at bn bd W hb0 hb1'
  rw [chk_ok hu] at hd
  have i0 := idx0 an ad bn bd
  have i1 := idx1 an ad bn bd
  have hu23 := Try.underlying23
  clear hv hu
  go_enter Try.func50, Try.ntmps50
  go_wp2_with fail
  refine wp_loop_rounds 3 ?_
  rw [rounds_succ]
  go_wp2_with (go_at_call 21; refine (hc _).mono ?_; rintro e w1 ⟨rfl, hb1⟩; have X1 := blk_below (blk_alloc (heap_at2 w _ _ _) _) hb1; have x10 := blk_cell X1 0; have x11 := blk_cell X1 1; have f10 := blk_frozen X1 0; have f11 := blk_frozen X1 1; simp at x10 x11)
  rw [rounds_succ]
  go_wp2_with (go_at_call 21; refine (hd _).mono ?_; rintro e w2 ⟨rfl, hb2⟩; have X2 := blk_below (blk_alloc X1 _) hb2; have x20 := blk_cell X2 0; have x21 := blk_cell X2 1; have f20 := blk_frozen X2 0; have f21 := blk_frozen X2 1; simp at x20 x21)
  rw [rounds_succ]
  have hf' := hf _ (below_go (below_alloc (below_go (below_alloc (below_alloc (below_alloc (below_alloc (Below.refl _ _) _) _) _) _) hb1) _) hb2)
  clear hf
  go_wp2_with (go_at_call 53; (refine hf'.mono ?_; rintro e w3 ⟨rfl, hb3⟩; have X3 := blk_below X2 hb3; have x30 := blk_cell X3 0; have x31 := blk_cell X3 1; have f30 := blk_frozen X3 0; have f31 := blk_frozen X3 1; simp at x30 x31))
  refine bodyPost_ret (results_ct rfl _ _ (w.heap.size + 1 + 1) 23 #[.int .i64 r1, .int .i64 r2] (0, 0) _ rfl (by simpa using (blk_set (blk_set X3 0 (.int .i64 r1)) 1 (.int .i64 r2))) Try.underlying23 rfl (by kernel_rfl)) rfl ⟨rfl, ((below_go (below_go (below_alloc (below_go (below_alloc (below_alloc (below_alloc (below_alloc (Below.refl _ _) _) _) _) _) hb1) _) hb2) hb3).setCell (by simp; omega) _).setCell (by simp; omega) _⟩

set_option maxRecDepth 100000 in
set_option maxHeartbeats 2000000 in
theorem both54_no1 (an ad bn bd : Int) (fv : Value) (w : World) (ha0 : in64 an) (ha1 : in64 ad) (hv : validB an ad = false) :
    Calls Try.prog 54 #[.agg #[.int .i64 an, .int .i64 ad], .agg #[.int .i64 bn, .int .i64 bd], fv] w fun e w' =>
      e = .returned (.tuple #[.int .i64 0, .int .i64 50]) ∧ Below w.heap.size w w' := by
  have hc := fun W => check_at an ad W ha0 ha1
  rw [chk_no hv] at hc
  have i0 := idx0 an ad bn bd
  have hu23 := Try.underlying23
  clear hv
  go_enter Try.func54, Try.ntmps54
  go_wp2_with fail
  refine wp_loop_rounds 1 ?_
  rw [rounds_succ]
  go_wp2_with (go_at_call 21; refine (hc _).mono ?_; rintro e w1 ⟨rfl, hb1⟩; skip)
  go_ret2
  exact ⟨rfl, below_go (below_alloc (below_alloc (below_alloc (Below.refl _ _) _) _) _) hb1⟩

set_option maxRecDepth 100000 in
set_option maxHeartbeats 2000000 in
theorem both54_no2 (an ad bn bd : Int) (fv : Value) (w : World) (ha0 : in64 an) (ha1 : in64 ad) (hb0 : in64 bn) (hb1' : in64 bd) (hv : validB an ad = true) (hu : validB bn bd = false) :
    Calls Try.prog 54 #[.agg #[.int .i64 an, .int .i64 ad], .agg #[.int .i64 bn, .int .i64 bd], fv] w fun e w' =>
      e = .returned (.tuple #[.int .i64 0, .int .i64 50]) ∧ Below w.heap.size w w' := by
  have hc := fun W => check_at an ad W ha0 ha1
  rw [chk_ok hv] at hc
  have hd := fun W => check_at bn bd W hb0 hb1'
  rw [chk_no hu] at hd
  have i0 := idx0 an ad bn bd
  have i1 := idx1 an ad bn bd
  have hu23 := Try.underlying23
  clear hv hu
  go_enter Try.func54, Try.ntmps54
  go_wp2_with fail
  refine wp_loop_rounds 2 ?_
  rw [rounds_succ]
  go_wp2_with (go_at_call 21; refine (hc _).mono ?_; rintro e w1 ⟨rfl, hb1⟩; skip)
  rw [rounds_succ]
  go_wp2_with (go_at_call 21; refine (hd _).mono ?_; rintro e w2 ⟨rfl, hb2⟩; skip)
  go_ret2
  exact ⟨rfl, below_go (below_alloc (below_go (below_alloc (below_alloc (below_alloc (Below.refl _ _) _) _) _) hb1) _) hb2⟩

set_option maxRecDepth 100000 in
set_option maxHeartbeats 2000000 in
theorem both54_ok55 (an ad bn bd : Int) (caps : Array Value) (r1 r3 : Int) (w : World) (ha0 : in64 an) (ha1 : in64 ad) (hb0 : in64 bn) (hb1' : in64 bd) (hv : validB an ad = true) (hu : validB bn bd = true)
    (hf : ∀ W, Below w.heap.size w W → Calls Try.prog 55 caps W fun e W' => e = .returned (.tuple #[.int .i64 r1, .int .i64 r3]) ∧ Below W.heap.size W W') :
    Calls Try.prog 54 #[.agg #[.int .i64 an, .int .i64 ad], .agg #[.int .i64 bn, .int .i64 bd], .func (.func 55) #[] caps] w fun e w' =>
      e = .returned (.tuple #[.int .i64 r1, .int .i64 r3]) ∧ Below w.heap.size w w' := by
  have hc := fun W => check_at an ad W ha0 ha1
  rw [chk_ok hv] at hc
  have hd := fun W => check_at bn bd W hb0 hb1'
  rw [chk_ok hu] at hd
  have i0 := idx0 an ad bn bd
  have i1 := idx1 an ad bn bd
  have hu23 := Try.underlying23
  clear hv hu
  go_enter Try.func54, Try.ntmps54
  go_wp2_with fail
  refine wp_loop_rounds 3 ?_
  rw [rounds_succ]
  go_wp2_with (go_at_call 21; refine (hc _).mono ?_; rintro e w1 ⟨rfl, hb1⟩; skip)
  rw [rounds_succ]
  go_wp2_with (go_at_call 21; refine (hd _).mono ?_; rintro e w2 ⟨rfl, hb2⟩; skip)
  rw [rounds_succ]
  have hf' := hf _ (below_go (below_alloc (below_go (below_alloc (below_alloc (below_alloc (Below.refl _ _) _) _) _) hb1) _) hb2)
  clear hf
  go_wp2_with (go_at_call 55; (refine hf'.mono ?_; rintro e w3 ⟨rfl, hb3⟩; skip))
  go_ret2
  exact ⟨rfl, below_go (below_go (below_alloc (below_go (below_alloc (below_alloc (below_alloc (Below.refl _ _) _) _) _) hb1) _) hb2) hb3⟩


theorem new_at (n d : Int) (w : World) (h0 : in64 n) (h1 : in64 d) :
    Calls Try.prog 19 #[.int .i64 n, .int .i64 d] w fun e w' => e = .returned (.tuple #[.agg #[.int .i64 (newN n d), .int .i64 (newD n d)], .int .i64 (newE n d)]) ∧ Below w.heap.size w w' :=
  ratio_NewC.calls n d _ _ _ w (by unfold ratio_NewC.f; rw [if_pos ⟨h0, h1⟩])

theorem wrap64_in64 (x : Int) : in64 (wrap64 x) := by unfold in64 wrap64; omega

theorem mul_small {a b : Int} (ha : a.natAbs ≤ 1073741824) (hb : b.natAbs ≤ 1073741824) : (a * b).natAbs ≤ 1152921504606846976 := by
  rw [Int.natAbs_mul]; exact Nat.mul_le_mul ha hb
theorem mul_wrap {a b : Int} (ha : a.natAbs ≤ 1073741824) (hb : b.natAbs ≤ 1073741824) : wrap64 (a * b) = a * b := by
  have := mul_small ha hb
  generalize a * b = x at *
  exact wrap64_id (by omega) (by omega)
theorem valid_small {n d : Int} (h : validB n d = true) : n.natAbs ≤ 1073741824 ∧ d.natAbs ≤ 1073741824 ∧ in64 n ∧ in64 d := by
  unfold validB at h
  simp only [decide_eq_true_eq] at h
  obtain ⟨h1, h2, h3, h4, _⟩ := h
  unfold in64
  omega
theorem add_wrap {a b c d : Int} (ha : a.natAbs ≤ 1073741824) (hb : b.natAbs ≤ 1073741824) (hc : c.natAbs ≤ 1073741824) (hd : d.natAbs ≤ 1073741824) : wrap64 (wrap64 (a * b) + wrap64 (c * d)) = a * b + c * d := by
  rw [mul_wrap ha hb, mul_wrap hc hd]
  have h1 := mul_small ha hb
  have h2 := mul_small hc hd
  generalize a * b = x at *
  generalize c * d = y at *
  exact wrap64_id (by omega) (by omega)

set_option maxHeartbeats 2000000 in
theorem addC (an ad bn bd : Int) (ga gb : Nat) (w : World) (hv : validB an ad = true) (hu : validB bn bd = true)
    (hA : w.heap[ga]? = some (.cells #[.int .i64 an, .int .i64 ad] 23 (0, 0))) (hB : w.heap[gb]? = some (.cells #[.int .i64 bn, .int .i64 bd] 23 (0, 0))) :
    Calls Try.prog 51 #[.pointer (some ⟨ga, 0, none⟩), .pointer (some ⟨gb, 0, none⟩)] w fun e w' =>
      e = .returned (.tuple #[.agg #[.int .i64 (newN (an * bd + bn * ad) (ad * bd)), .int .i64 (newD (an * bd + bn * ad) (ad * bd))], .int .i64 (newE (an * bd + bn * ad) (ad * bd))]) ∧ Below w.heap.size w w' := by
  obtain ⟨a1, a2, -, -⟩ := valid_small hv
  obtain ⟨b1, b2, -, -⟩ := valid_small hu
  have e1 := add_wrap a1 b2 b1 a2
  have e2 := mul_wrap a2 b2
  have hn := fun W => new_at (wrap64 (wrap64 (an * bd) + wrap64 (bn * ad))) (wrap64 (ad * bd)) W (wrap64_in64 _) (wrap64_in64 _)
  rw [← e1, ← e2]
  clear e1 e2 a1 a2 b1 b2 hv hu
  have cA0 := blk_cell hA 0
  have cA1 := blk_cell hA 1
  have cB0 := blk_cell hB 0
  have cB1 := blk_cell hB 1
  simp at cA0 cA1 cB0 cB1
  have hlA := blk_lt hA
  have hlB := blk_lt hB
  have hu23 := Try.underlying23
  go_enter Try.func51, Try.ntmps51
  go_wp2_with (go_at_call 19; refine (hn _).mono ?_; rintro e w1 ⟨rfl, hb1⟩; have X1 := blk_below (blk_new w _) hb1; have x10 := blk_cell X1 0; have x11 := blk_cell X1 1; have f10 := blk_frozen X1 0; have f11 := blk_frozen X1 1; simp at x10 x11)
  refine bodyPost_ret (results_ct rfl _ _ w.heap.size 23 #[.int .i64 (newN (wrap64 (wrap64 (an * bd) + wrap64 (bn * ad))) (wrap64 (ad * bd))), .int .i64 (newD (wrap64 (wrap64 (an * bd) + wrap64 (bn * ad))) (wrap64 (ad * bd)))] (0, 0) _ rfl (by simpa using blk_set (blk_set X1 0 _) 1 _) Try.underlying23 rfl (by kernel_rfl)) rfl ⟨rfl, ((below_go (below_alloc (Below.refl _ _) _) hb1).setCell (by simp) _).setCell (by simp) _⟩

set_option maxHeartbeats 2000000 in
theorem mulC (an ad bn bd : Int) (ga gb : Nat) (w : World) (hv : validB an ad = true) (hu : validB bn bd = true)
    (hA : w.heap[ga]? = some (.cells #[.int .i64 an, .int .i64 ad] 23 (0, 0))) (hB : w.heap[gb]? = some (.cells #[.int .i64 bn, .int .i64 bd] 23 (0, 0))) :
    Calls Try.prog 53 #[.pointer (some ⟨ga, 0, none⟩), .pointer (some ⟨gb, 0, none⟩)] w fun e w' =>
      e = .returned (.tuple #[.agg #[.int .i64 (newN (an * bn) (ad * bd)), .int .i64 (newD (an * bn) (ad * bd))], .int .i64 (newE (an * bn) (ad * bd))]) ∧ Below w.heap.size w w' := by
  obtain ⟨a1, a2, -, -⟩ := valid_small hv
  obtain ⟨b1, b2, -, -⟩ := valid_small hu
  have e1 := mul_wrap a1 b1
  have e2 := mul_wrap a2 b2
  have hn := fun W => new_at (wrap64 (an * bn)) (wrap64 (ad * bd)) W (wrap64_in64 _) (wrap64_in64 _)
  rw [← e1, ← e2]
  clear e1 e2 a1 a2 b1 b2 hv hu
  have cA0 := blk_cell hA 0
  have cA1 := blk_cell hA 1
  have cB0 := blk_cell hB 0
  have cB1 := blk_cell hB 1
  simp at cA0 cA1 cB0 cB1
  have hlA := blk_lt hA
  have hlB := blk_lt hB
  have hu23 := Try.underlying23
  go_enter Try.func53, Try.ntmps53
  go_wp2_with (go_at_call 19; refine (hn _).mono ?_; rintro e w1 ⟨rfl, hb1⟩; have X1 := blk_below (blk_new w _) hb1; have x10 := blk_cell X1 0; have x11 := blk_cell X1 1; have f10 := blk_frozen X1 0; have f11 := blk_frozen X1 1; simp at x10 x11)
  refine bodyPost_ret (results_ct rfl _ _ w.heap.size 23 #[.int .i64 (newN (wrap64 (an * bn)) (wrap64 (ad * bd))), .int .i64 (newD (wrap64 (an * bn)) (wrap64 (ad * bd)))] (0, 0) _ rfl (by simpa using blk_set (blk_set X1 0 _) 1 _) Try.underlying23 rfl (by kernel_rfl)) rfl ⟨rfl, ((below_go (below_alloc (Below.refl _ _) _) hb1).setCell (by simp) _).setCell (by simp) _⟩

theorem cmp_any (x y : Int) (w : World) : Calls Try.prog 56 #[.int .i64 x, .int .i64 y] w fun e w' => e = .returned (.int .i64 (cmp3 x y)) ∧ w = w' := by
  by_cases h1 : x < y
  · have e : cmp3 x y = -1 := by unfold cmp3; rw [if_pos h1]
    rw [e]; clear e
    go_enter Try.func56, Try.ntmps56
    go_wp2
    go_ret
    exact ⟨rfl, rfl⟩
  · by_cases h2 : y < x
    · have e : cmp3 x y = 1 := by unfold cmp3; rw [if_neg h1, if_pos h2]
      rw [e]; clear e
      go_enter Try.func56, Try.ntmps56
      go_wp2
      go_ret
      exact ⟨rfl, rfl⟩
    · have e : cmp3 x y = 0 := by unfold cmp3; rw [if_neg h1, if_neg h2]
      rw [e]; clear e
      go_enter Try.func56, Try.ntmps56
      go_wp2
      go_ret
      exact ⟨rfl, rfl⟩

set_option maxHeartbeats 2000000 in
theorem cmpC (an ad bn bd : Int) (ga gb : Nat) (w : World) (hv : validB an ad = true) (hu : validB bn bd = true)
    (hA : w.heap[ga]? = some (.cells #[.int .i64 an, .int .i64 ad] 23 (0, 0))) (hB : w.heap[gb]? = some (.cells #[.int .i64 bn, .int .i64 bd] 23 (0, 0))) :
    Calls Try.prog 55 #[.pointer (some ⟨ga, 0, none⟩), .pointer (some ⟨gb, 0, none⟩)] w fun e w' =>
      e = .returned (.tuple #[.int .i64 (cmp3 (an * bd) (bn * ad)), .int .i64 0]) ∧ Below w.heap.size w w' := by
  obtain ⟨a1, a2, -, -⟩ := valid_small hv
  obtain ⟨b1, b2, -, -⟩ := valid_small hu
  have e1 := mul_wrap a1 b2
  have e2 := mul_wrap b1 a2
  have hn := fun W => cmp_any (wrap64 (an * bd)) (wrap64 (bn * ad)) W
  rw [← e1, ← e2]
  clear e1 e2 a1 a2 b1 b2 hv hu
  have cA0 := blk_cell hA 0
  have cA1 := blk_cell hA 1
  have cB0 := blk_cell hB 0
  have cB1 := blk_cell hB 1
  simp at cA0 cA1 cB0 cB1
  have hu23 := Try.underlying23
  go_enter Try.func55, Try.ntmps55
  go_wp2_with (go_at_call 56; refine (hn _).mono ?_; rintro e w1 ⟨rfl, rfl⟩)
  go_ret2
  exact ⟨rfl, Below.refl _ _⟩

/-! ### Add, Mul, Compare -/
theorem heap_at0 (w : World) (A B X : Obj) : (((w.alloc A).alloc B).alloc X).heap[w.heap.size]? = some A := blk_alloc (blk_alloc (blk_new w A) B) X
theorem heap_at1 (w : World) (A B X : Obj) : (((w.alloc A).alloc B).alloc X).heap[w.heap.size + 1]? = some B := by
  have := blk_alloc (blk_new (w.alloc A) B) X
  simpa only [World.size_alloc] using this

set_option maxRecDepth 100000 in
set_option maxHeartbeats 4000000 in
theorem add_at (an ad bn bd : Int) (w : World) (ha0 : in64 an) (ha1 : in64 ad) (hb0 : in64 bn) (hb1' : in64 bd) :
    Calls Try.prog 23 #[.agg #[.int .i64 an, .int .i64 ad], .agg #[.int .i64 bn, .int .i64 bd]] w fun e w' => e = .returned (.tuple #[.agg #[.int .i64 (addN an ad bn bd), .int .i64 (addD an ad bn bd)], .int .i64 (addE an ad bn bd)]) ∧ Below w.heap.size w w' := by
  have hmf : ∀ (fn : Fn) (first cap : Array Value) (w : World), (Instr.makeFunc fn first cap).run Try.prog w = .ok (.func fn first cap) w := fun _ _ _ _ => rfl
  have hu23 := Try.underlying23
  rcases hv : validB an ad with _ | _
  · have hv' := hv
    have e0 : addN an ad bn bd = 0 := by unfold addN; simp [hv]
    have e1 : addD an ad bn bd = 0 := by unfold addD; simp [hv]
    have e2 : addE an ad bn bd = 50 := by unfold addE; simp [hv]
    rw [e0, e1, e2]
    clear e0 e1 e2
    clear hv'
    go_enter Try.func23, Try.ntmps23
    go_wp2_with (go_at_call 50; refine (both50_no1 an ad bn bd _ _ ha0 ha1 hv).mono ?_; rintro e w1 ⟨rfl, hb1⟩; have X1 := blk_below (heap_at2 w _ _ _) hb1; have x10 := blk_cell X1 0; have x11 := blk_cell X1 1; have f10 := blk_frozen X1 0; have f11 := blk_frozen X1 1; simp at x10 x11)
    refine bodyPost_ret (results_ct rfl _ _ (w.heap.size + 1 + 1) 23 #[.int .i64 0, .int .i64 0] (0, 0) _ rfl (by simpa using blk_set (blk_set X1 0 _) 1 _) Try.underlying23 rfl (by kernel_rfl)) rfl ⟨rfl, ((below_go (below_alloc (below_alloc (below_alloc (Below.refl _ _) _) _) _) hb1).setCell (by simp; omega) _).setCell (by simp; omega) _⟩
  rcases hu : validB bn bd with _ | _
  · have hu' := hu
    have e0 : addN an ad bn bd = 0 := by unfold addN; simp [hv, hu]
    have e1 : addD an ad bn bd = 0 := by unfold addD; simp [hv, hu]
    have e2 : addE an ad bn bd = 50 := by unfold addE; simp [hv, hu]
    rw [e0, e1, e2]
    clear e0 e1 e2
    clear hu'
    go_enter Try.func23, Try.ntmps23
    go_wp2_with (go_at_call 50; refine (both50_no2 an ad bn bd _ _ ha0 ha1 hb0 hb1' hv hu).mono ?_; rintro e w1 ⟨rfl, hb1⟩; have X1 := blk_below (heap_at2 w _ _ _) hb1; have x10 := blk_cell X1 0; have x11 := blk_cell X1 1; have f10 := blk_frozen X1 0; have f11 := blk_frozen X1 1; simp at x10 x11)
    refine bodyPost_ret (results_ct rfl _ _ (w.heap.size + 1 + 1) 23 #[.int .i64 0, .int .i64 0] (0, 0) _ rfl (by simpa using blk_set (blk_set X1 0 _) 1 _) Try.underlying23 rfl (by kernel_rfl)) rfl ⟨rfl, ((below_go (below_alloc (below_alloc (below_alloc (Below.refl _ _) _) _) _) hb1).setCell (by simp; omega) _).setCell (by simp; omega) _⟩
  · have hu' := hu
    have e0 : addN an ad bn bd = (newN (an * bd + bn * ad) (ad * bd)) := by unfold addN; simp [hv, hu]
    have e1 : addD an ad bn bd = (newD (an * bd + bn * ad) (ad * bd)) := by unfold addD; simp [hv, hu]
    have e2 : addE an ad bn bd = (newE (an * bd + bn * ad) (ad * bd)) := by unfold addE; simp [hv, hu]
    rw [e0, e1, e2]
    clear e0 e1 e2
    clear hu'
    have hf : ∀ W, Below (((w.alloc (.cells #[.int .i64 an, .int .i64 ad] 23)).alloc (.cells #[.int .i64 bn, .int .i64 bd] 23)).alloc (.cells #[.int .i64 0, .int .i64 0] 23)).heap.size (((w.alloc (.cells #[.int .i64 an, .int .i64 ad] 23)).alloc (.cells #[.int .i64 bn, .int .i64 bd] 23)).alloc (.cells #[.int .i64 0, .int .i64 0] 23)) W → _ := fun W hW => addC an ad bn bd w.heap.size (w.heap.size + 1) W hv hu (blk_below (heap_at0 w _ _ _) hW) (blk_below (heap_at1 w _ _ _) hW)
    go_enter Try.func23, Try.ntmps23
    go_wp2_with (go_at_call 50; refine (both50_ok51 an ad bn bd _ _ _ _ _ ha0 ha1 hb0 hb1' hv hu hf).mono ?_; rintro e w1 ⟨rfl, hb1⟩; have X1 := blk_below (heap_at2 w _ _ _) hb1; have x10 := blk_cell X1 0; have x11 := blk_cell X1 1; have f10 := blk_frozen X1 0; have f11 := blk_frozen X1 1; simp at x10 x11)
    refine bodyPost_ret (results_ct rfl _ _ (w.heap.size + 1 + 1) 23 #[.int .i64 (newN (an * bd + bn * ad) (ad * bd)), .int .i64 (newD (an * bd + bn * ad) (ad * bd))] (0, 0) _ rfl (by simpa using blk_set (blk_set X1 0 _) 1 _) Try.underlying23 rfl (by kernel_rfl)) rfl ⟨rfl, ((below_go (below_alloc (below_alloc (below_alloc (Below.refl _ _) _) _) _) hb1).setCell (by simp; omega) _).setCell (by simp; omega) _⟩

set_option maxRecDepth 100000 in
set_option maxHeartbeats 4000000 in
theorem mul_at (an ad bn bd : Int) (w : World) (ha0 : in64 an) (ha1 : in64 ad) (hb0 : in64 bn) (hb1' : in64 bd) :
    Calls Try.prog 25 #[.agg #[.int .i64 an, .int .i64 ad], .agg #[.int .i64 bn, .int .i64 bd]] w fun e w' => e = .returned (.tuple #[.agg #[.int .i64 (mulN an ad bn bd), .int .i64 (mulD an ad bn bd)], .int .i64 (mulE an ad bn bd)]) ∧ Below w.heap.size w w' := by
  have hmf : ∀ (fn : Fn) (first cap : Array Value) (w : World), (Instr.makeFunc fn first cap).run Try.prog w = .ok (.func fn first cap) w := fun _ _ _ _ => rfl
  have hu23 := Try.underlying23
  rcases hv : validB an ad with _ | _
  · have hv' := hv
    have e0 : mulN an ad bn bd = 0 := by unfold mulN; simp [hv]
    have e1 : mulD an ad bn bd = 0 := by unfold mulD; simp [hv]
    have e2 : mulE an ad bn bd = 50 := by unfold mulE; simp [hv]
    rw [e0, e1, e2]
    clear e0 e1 e2
    clear hv'
    go_enter Try.func25, Try.ntmps25
    go_wp2_with (go_at_call 50; refine (both50_no1 an ad bn bd _ _ ha0 ha1 hv).mono ?_; rintro e w1 ⟨rfl, hb1⟩; have X1 := blk_below (heap_at2 w _ _ _) hb1; have x10 := blk_cell X1 0; have x11 := blk_cell X1 1; have f10 := blk_frozen X1 0; have f11 := blk_frozen X1 1; simp at x10 x11)
    refine bodyPost_ret (results_ct rfl _ _ (w.heap.size + 1 + 1) 23 #[.int .i64 0, .int .i64 0] (0, 0) _ rfl (by simpa using blk_set (blk_set X1 0 _) 1 _) Try.underlying23 rfl (by kernel_rfl)) rfl ⟨rfl, ((below_go (below_alloc (below_alloc (below_alloc (Below.refl _ _) _) _) _) hb1).setCell (by simp; omega) _).setCell (by simp; omega) _⟩
  rcases hu : validB bn bd with _ | _
  · have hu' := hu
    have e0 : mulN an ad bn bd = 0 := by unfold mulN; simp [hv, hu]
    have e1 : mulD an ad bn bd = 0 := by unfold mulD; simp [hv, hu]
    have e2 : mulE an ad bn bd = 50 := by unfold mulE; simp [hv, hu]
    rw [e0, e1, e2]
    clear e0 e1 e2
    clear hu'
    go_enter Try.func25, Try.ntmps25
    go_wp2_with (go_at_call 50; refine (both50_no2 an ad bn bd _ _ ha0 ha1 hb0 hb1' hv hu).mono ?_; rintro e w1 ⟨rfl, hb1⟩; have X1 := blk_below (heap_at2 w _ _ _) hb1; have x10 := blk_cell X1 0; have x11 := blk_cell X1 1; have f10 := blk_frozen X1 0; have f11 := blk_frozen X1 1; simp at x10 x11)
    refine bodyPost_ret (results_ct rfl _ _ (w.heap.size + 1 + 1) 23 #[.int .i64 0, .int .i64 0] (0, 0) _ rfl (by simpa using blk_set (blk_set X1 0 _) 1 _) Try.underlying23 rfl (by kernel_rfl)) rfl ⟨rfl, ((below_go (below_alloc (below_alloc (below_alloc (Below.refl _ _) _) _) _) hb1).setCell (by simp; omega) _).setCell (by simp; omega) _⟩
  · have hu' := hu
    have e0 : mulN an ad bn bd = (newN (an * bn) (ad * bd)) := by unfold mulN; simp [hv, hu]
    have e1 : mulD an ad bn bd = (newD (an * bn) (ad * bd)) := by unfold mulD; simp [hv, hu]
    have e2 : mulE an ad bn bd = (newE (an * bn) (ad * bd)) := by unfold mulE; simp [hv, hu]
    rw [e0, e1, e2]
    clear e0 e1 e2
    clear hu'
    have hf : ∀ W, Below (((w.alloc (.cells #[.int .i64 an, .int .i64 ad] 23)).alloc (.cells #[.int .i64 bn, .int .i64 bd] 23)).alloc (.cells #[.int .i64 0, .int .i64 0] 23)).heap.size (((w.alloc (.cells #[.int .i64 an, .int .i64 ad] 23)).alloc (.cells #[.int .i64 bn, .int .i64 bd] 23)).alloc (.cells #[.int .i64 0, .int .i64 0] 23)) W → _ := fun W hW => mulC an ad bn bd w.heap.size (w.heap.size + 1) W hv hu (blk_below (heap_at0 w _ _ _) hW) (blk_below (heap_at1 w _ _ _) hW)
    go_enter Try.func25, Try.ntmps25
    go_wp2_with (go_at_call 50; refine (both50_ok53 an ad bn bd _ _ _ _ _ ha0 ha1 hb0 hb1' hv hu hf).mono ?_; rintro e w1 ⟨rfl, hb1⟩; have X1 := blk_below (heap_at2 w _ _ _) hb1; have x10 := blk_cell X1 0; have x11 := blk_cell X1 1; have f10 := blk_frozen X1 0; have f11 := blk_frozen X1 1; simp at x10 x11)
    refine bodyPost_ret (results_ct rfl _ _ (w.heap.size + 1 + 1) 23 #[.int .i64 (newN (an * bn) (ad * bd)), .int .i64 (newD (an * bn) (ad * bd))] (0, 0) _ rfl (by simpa using blk_set (blk_set X1 0 _) 1 _) Try.underlying23 rfl (by kernel_rfl)) rfl ⟨rfl, ((below_go (below_alloc (below_alloc (below_alloc (Below.refl _ _) _) _) _) hb1).setCell (by simp; omega) _).setCell (by simp; omega) _⟩

set_option maxRecDepth 100000 in
set_option maxHeartbeats 4000000 in
theorem cmp_at (an ad bn bd : Int) (w : World) (ha0 : in64 an) (ha1 : in64 ad) (hb0 : in64 bn) (hb1' : in64 bd) :
    Calls Try.prog 27 #[.agg #[.int .i64 an, .int .i64 ad], .agg #[.int .i64 bn, .int .i64 bd]] w fun e w' => e = .returned (.tuple #[.int .i64 (cmpN an ad bn bd), .int .i64 (cmpE an ad bn bd)]) ∧ Below w.heap.size w w' := by
  have hmf : ∀ (fn : Fn) (first cap : Array Value) (w : World), (Instr.makeFunc fn first cap).run Try.prog w = .ok (.func fn first cap) w := fun _ _ _ _ => rfl
  have hu23 := Try.underlying23
  rcases hv : validB an ad with _ | _
  · have hv' := hv
    have e0 : cmpN an ad bn bd = 0 := by unfold cmpN; simp [hv]
    have e1 : cmpE an ad bn bd = 50 := by unfold cmpE; simp [hv]
    rw [e0, e1]
    clear e0 e1
    clear hv'
    go_enter Try.func27, Try.ntmps27
    go_wp2_with (go_at_call 54; refine (both54_no1 an ad bn bd _ _ ha0 ha1 hv).mono ?_; rintro e w1 ⟨rfl, hb1⟩; skip)
    go_ret2
    exact ⟨rfl, below_go (below_alloc (below_alloc (Below.refl _ _) _) _) hb1⟩
  rcases hu : validB bn bd with _ | _
  · have hu' := hu
    have e0 : cmpN an ad bn bd = 0 := by unfold cmpN; simp [hv, hu]
    have e1 : cmpE an ad bn bd = 50 := by unfold cmpE; simp [hv, hu]
    rw [e0, e1]
    clear e0 e1
    clear hu'
    go_enter Try.func27, Try.ntmps27
    go_wp2_with (go_at_call 54; refine (both54_no2 an ad bn bd _ _ ha0 ha1 hb0 hb1' hv hu).mono ?_; rintro e w1 ⟨rfl, hb1⟩; skip)
    go_ret2
    exact ⟨rfl, below_go (below_alloc (below_alloc (Below.refl _ _) _) _) hb1⟩
  · have hu' := hu
    have e0 : cmpN an ad bn bd = (cmp3 (an * bd) (bn * ad)) := by unfold cmpN; simp [hv, hu]
    have e1 : cmpE an ad bn bd = 0 := by unfold cmpE; simp [hv, hu]
    rw [e0, e1]
    clear e0 e1
    clear hu'
    have hf : ∀ W, Below ((w.alloc (.cells #[.int .i64 an, .int .i64 ad] 23)).alloc (.cells #[.int .i64 bn, .int .i64 bd] 23)).heap.size ((w.alloc (.cells #[.int .i64 an, .int .i64 ad] 23)).alloc (.cells #[.int .i64 bn, .int .i64 bd] 23)) W → _ := fun W hW => cmpC an ad bn bd w.heap.size (w.heap.size + 1) W hv hu (blk_below (blk_alloc (blk_new w _) _) hW) (blk_below (by simpa only [World.size_alloc] using blk_new (w.alloc (.cells #[.int .i64 an, .int .i64 ad] 23)) (.cells #[.int .i64 bn, .int .i64 bd] 23)) hW)
    go_enter Try.func27, Try.ntmps27
    go_wp2_with (go_at_call 54; refine (both54_ok55 an ad bn bd _ _ _ _ ha0 ha1 hb0 hb1' hv hu hf).mono ?_; rintro e w1 ⟨rfl, hb1⟩; skip)
    go_ret2
    exact ⟨rfl, below_go (below_alloc (below_alloc (Below.refl _ _) _) _) hb1⟩

def ratio_Add.f (a0_0 a0_1 a1_0 a1_1 : Int) : Option (Int × Int × Int) := if in64 a0_0 ∧ in64 a0_1 ∧ in64 a1_0 ∧ in64 a1_1 then some (addN a0_0 a0_1 a1_0 a1_1, addD a0_0 a0_1 a1_0 a1_1, addE a0_0 a0_1 a1_0 a1_1) else none
theorem ratio_Add.calls (a0_0 a0_1 a1_0 a1_1 : Int) (r1 r2 r3 : Int) (w : World) (h : ratio_Add.f a0_0 a0_1 a1_0 a1_1 = some (r1, r2, r3)) :
    Calls Try.prog 23 #[.agg #[.int .i64 a0_0, .int .i64 a0_1], .agg #[.int .i64 a1_0, .int .i64 a1_1]] w fun e w' => e = .returned (.tuple #[.agg #[.int .i64 r1, .int .i64 r2], .int .i64 r3]) ∧ Below w.heap.size w w' := by
  unfold ratio_Add.f at h
  split at h
  · rename_i hr
    have h' := Option.some.inj h
    simp only [Prod.mk.injEq] at h'
    obtain ⟨rfl, rfl, rfl⟩ := h'
    exact add_at a0_0 a0_1 a1_0 a1_1 w hr.1 hr.2.1 hr.2.2.1 hr.2.2.2
  · cases h

def ratio_Mul.f (a0_0 a0_1 a1_0 a1_1 : Int) : Option (Int × Int × Int) := if in64 a0_0 ∧ in64 a0_1 ∧ in64 a1_0 ∧ in64 a1_1 then some (mulN a0_0 a0_1 a1_0 a1_1, mulD a0_0 a0_1 a1_0 a1_1, mulE a0_0 a0_1 a1_0 a1_1) else none
theorem ratio_Mul.calls (a0_0 a0_1 a1_0 a1_1 : Int) (r1 r2 r3 : Int) (w : World) (h : ratio_Mul.f a0_0 a0_1 a1_0 a1_1 = some (r1, r2, r3)) :
    Calls Try.prog 25 #[.agg #[.int .i64 a0_0, .int .i64 a0_1], .agg #[.int .i64 a1_0, .int .i64 a1_1]] w fun e w' => e = .returned (.tuple #[.agg #[.int .i64 r1, .int .i64 r2], .int .i64 r3]) ∧ Below w.heap.size w w' := by
  unfold ratio_Mul.f at h
  split at h
  · rename_i hr
    have h' := Option.some.inj h
    simp only [Prod.mk.injEq] at h'
    obtain ⟨rfl, rfl, rfl⟩ := h'
    exact mul_at a0_0 a0_1 a1_0 a1_1 w hr.1 hr.2.1 hr.2.2.1 hr.2.2.2
  · cases h

def ratio_Compare.f (a0_0 a0_1 a1_0 a1_1 : Int) : Option (Int × Int) := if in64 a0_0 ∧ in64 a0_1 ∧ in64 a1_0 ∧ in64 a1_1 then some (cmpN a0_0 a0_1 a1_0 a1_1, cmpE a0_0 a0_1 a1_0 a1_1) else none
theorem ratio_Compare.calls (a0_0 a0_1 a1_0 a1_1 : Int) (r1 r2 : Int) (w : World) (h : ratio_Compare.f a0_0 a0_1 a1_0 a1_1 = some (r1, r2)) :
    Calls Try.prog 27 #[.agg #[.int .i64 a0_0, .int .i64 a0_1], .agg #[.int .i64 a1_0, .int .i64 a1_1]] w fun e w' => e = .returned (.tuple #[.int .i64 r1, .int .i64 r2]) ∧ Below w.heap.size w w' := by
  unfold ratio_Compare.f at h
  split at h
  · rename_i hr
    have h' := Option.some.inj h
    simp only [Prod.mk.injEq] at h'
    obtain ⟨rfl, rfl⟩ := h'
    exact cmp_at a0_0 a0_1 a1_0 a1_1 w hr.1 hr.2.1 hr.2.2.1 hr.2.2.2
  · cases h

end Go.Proofs.Ytgoicalffgehoaa.P
