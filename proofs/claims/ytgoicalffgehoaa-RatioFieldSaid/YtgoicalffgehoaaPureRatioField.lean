/- The law RatioField answers true at every three fractions. Condition: the numbers are int64s. -/
import Derived.Test.YtgoicalffgehoaaEFld
import Derived.Test.YtgoicalffgehoaaP15
import Derived.Test.YtgoicalffgehoaaCSan
import Derived.Test.YtgoicalffgehoaaCUse
import Derived.Test.YtgoicalffgehoaaCOrd
namespace Go.Proofs.Ytgoicalffgehoaa.P
open Go.RowKit Go.Proofs.YtgoicalffgehoaaW.PrintWords Go.Proofs.Ytgoicalffgehoaa

/-- What Add answers on two fractions that fit. -/
theorem add_q {p q : Rat} (hp : fitsQ p) (hq : fitsQ q) (W : World) : Calls Try.prog 23 #[.agg #[.int .i64 p.num, .int .i64 (p.den : Int)], .agg #[.int .i64 q.num, .int .i64 (q.den : Int)]] W fun e' w' => e' = .returned (.tuple #[.agg #[.int .i64 (rN (p + q)), .int .i64 (rD (p + q))], .int .i64 (rE (p + q))]) ∧ Below W.heap.size W w' :=
  ratio_Add.calls _ _ _ _ _ _ _ W (by rw [add_f (fits_in hp).1 (fits_in hp).2 (fits_in hq).1 (fits_in hq).2, addN_Q hp hq, addD_Q hp hq, addE_Q hp hq])
theorem mul_q {p q : Rat} (hp : fitsQ p) (hq : fitsQ q) (W : World) : Calls Try.prog 25 #[.agg #[.int .i64 p.num, .int .i64 (p.den : Int)], .agg #[.int .i64 q.num, .int .i64 (q.den : Int)]] W fun e' w' => e' = .returned (.tuple #[.agg #[.int .i64 (rN (p * q)), .int .i64 (rD (p * q))], .int .i64 (rE (p * q))]) ∧ Below W.heap.size W w' :=
  ratio_Mul.calls _ _ _ _ _ _ _ W (by rw [mul_f (fits_in hp).1 (fits_in hp).2 (fits_in hq).1 (fits_in hq).2, mulN_Q hp hq, mulD_Q hp hq, mulE_Q hp hq])
theorem chk_q {p : Rat} (hp : fitsQ p) (W : World) : Calls Try.prog 21 #[.agg #[.int .i64 p.num, .int .i64 (p.den : Int)]] W fun e' w' => e' = .returned (.int .i64 0) ∧ Below W.heap.size W w' :=
  ratio_CheckC.calls _ _ _ W (by rw [check_f (fits_in hp).1 (fits_in hp).2, chk_fits hp])

theorem rE_zero {p : Rat} (h : rE p = 0) : fitsQ p := by
  by_cases hp : fitsQ p
  · exact hp
  · rw [rE_not hp] at h; cases h

theorem rN_64 (p : Rat) : in64 (rN p) := by
  by_cases hp : fitsQ p
  · rw [rN_fits hp]; exact (fits_in hp).1
  · rw [rN_not hp]; exact in64_zero
theorem rD_64 (p : Rat) : in64 (rD p) := by
  by_cases hp : fitsQ p
  · rw [rD_fits hp]; exact (fits_in hp).2
  · rw [rD_not hp]; exact in64_zero

theorem addG {a b c d : Int} (h0 : in64 a) (h1 : in64 b) (h2 : in64 c) (h3 : in64 d) (W : World) : Calls Try.prog 23 #[.agg #[.int .i64 a, .int .i64 b], .agg #[.int .i64 c, .int .i64 d]] W fun e' w' => e' = .returned (.tuple #[.agg #[.int .i64 (addN a b c d), .int .i64 (addD a b c d)], .int .i64 (addE a b c d)]) ∧ Below W.heap.size W w' :=
  ratio_Add.calls _ _ _ _ _ _ _ W (add_f h0 h1 h2 h3)
theorem mulG {a b c d : Int} (h0 : in64 a) (h1 : in64 b) (h2 : in64 c) (h3 : in64 d) (W : World) : Calls Try.prog 25 #[.agg #[.int .i64 a, .int .i64 b], .agg #[.int .i64 c, .int .i64 d]] W fun e' w' => e' = .returned (.tuple #[.agg #[.int .i64 (mulN a b c d), .int .i64 (mulD a b c d)], .int .i64 (mulE a b c d)]) ∧ Below W.heap.size W w' :=
  ratio_Mul.calls _ _ _ _ _ _ _ W (mul_f h0 h1 h2 h3)

/-- What the law's own sum answers. -/
def smN (p q r : Rat) : Int := addN (rN (p + q)) (rD (p + q)) r.num r.den
def smD (p q r : Rat) : Int := addD (rN (p + q)) (rD (p + q)) r.num r.den
def smB (p q r : Rat) : Bool := decide (rE (p + q) = 0) && (addE (rN (p + q)) (rD (p + q)) r.num r.den == 0)
theorem sum_q {p q r : Rat} (hp : fitsQ p) (hq : fitsQ q) (hr : fitsQ r) (W : World) :
    Calls Try.prog 36 #[.agg #[.int .i64 p.num, .int .i64 (p.den : Int)], .agg #[.int .i64 q.num, .int .i64 (q.den : Int)], .agg #[.int .i64 r.num, .int .i64 (r.den : Int)]] W fun e' w' => e' = .returned (.tuple #[.agg #[.int .i64 (smN p q r), .int .i64 (smD p q r)], .bool (smB p q r)]) ∧ Below W.heap.size W w' :=
  sizarlaw05_sum.calls _ _ _ _ _ _ _ _ _ W (by
    unfold sizarlaw05_sum.f smN smD smB
    rw [add_f (fits_in hp).1 (fits_in hp).2 (fits_in hq).1 (fits_in hq).2, addN_Q hp hq, addD_Q hp hq, addE_Q hp hq]
    simp only [Option.bind_some]
    rw [add_f (rN_64 _) (rD_64 _) (fits_in hr).1 (fits_in hr).2]
    simp only [Option.bind_some]
    by_cases h : rE (p + q) = 0
    · rw [if_pos h, decide_eq_true h, Bool.true_and]
    · rw [if_neg h, decide_eq_false h, Bool.false_and])
theorem sum_ok {p q r : Rat} (hr : fitsQ r) (h : smB p q r = true) : smN p q r = (p + q + r).num ∧ smD p q r = ((p + q + r).den : Int) := by
  unfold smB at h
  rw [Bool.and_eq_true] at h
  have f1 := rE_zero (of_decide_eq_true h.1)
  have h2 := beq_iff_eq.1 h.2
  unfold smN smD
  rw [rN_fits f1, rD_fits f1] at h2 ⊢
  rw [addE_Q f1 hr] at h2
  have f2 := rE_zero h2
  rw [addN_Q f1 hr, addD_Q f1 hr, rN_fits f2, rD_fits f2]
  exact ⟨rfl, rfl⟩

theorem fits0 : fitsQ 0 := by unfold fitsQ; decide
theorem fits1 : fitsQ 1 := by unfold fitsQ; decide

theorem field_yes {A B C : Rat} (hA : fitsQ A) (hB : fitsQ B) (hC : fitsQ C) (w : World) :
    Calls Try.prog 8 #[.agg #[.int .i64 A.num, .int .i64 (A.den : Int)], .agg #[.int .i64 B.num, .int .i64 (B.den : Int)], .agg #[.int .i64 C.num, .int .i64 (C.den : Int)]] w fun e' w' => e' = .returned (.bool true) ∧ Below w.heap.size w w' := by
  have iA := fits_in hA
  have iB := fits_in hB
  have iC := fits_in hC
  refine field_walk A.num A.den B.num B.den C.num C.den (rN (A + B)) (rD (A + B)) (rN (A * B)) (rD (A * B)) (smN A B C) (smD A B C) (smN B C A) (smD B C A)
    (mulN (rN (A * B)) (rD (A * B)) C.num C.den) (mulD (rN (A * B)) (rD (A * B)) C.num C.den) (rN (B * C)) (rD (B * C)) (mulN A.num A.den (rN (B * C)) (rD (B * C))) (mulD A.num A.den (rN (B * C)) (rD (B * C)))
    (rN (A * C)) (rD (A * C)) (mulN (rN (A + B)) (rD (A + B)) C.num C.den) (mulD (rN (A + B)) (rD (A + B)) C.num C.den) (addN (rN (A * C)) (rD (A * C)) (rN (B * C)) (rD (B * C))) (addD (rN (A * C)) (rD (A * C)) (rN (B * C)) (rD (B * C)))
    (rE (A + B)) (rE (A * B)) (mulE (rN (A * B)) (rD (A * B)) C.num C.den) (rE (B * C)) (mulE A.num A.den (rN (B * C)) (rD (B * C))) (rE (A * C)) (mulE (rN (A + B)) (rD (A + B)) C.num C.den) (addE (rN (A * C)) (rD (A * C)) (rN (B * C)) (rD (B * C)))
    (smB A B C) (smB B C A) w
    (fun W => sizarlaw05_saneC.calls true W rfl) (chk_q hA) (chk_q hB) (chk_q hC) (add_q hA hB) (fun W => by have := add_q hB hA W; rw [Rat.add_comm B A] at this; exact this) (mul_q hA hB) (fun W => by have := mul_q hB hA W; rw [Rat.mul_comm B A] at this; exact this)
    (sum_q hA hB hC) (sum_q hB hC hA) (mulG (rN_64 _) (rD_64 _) iC.1 iC.2) (mul_q hB hC) (mulG iA.1 iA.2 (rN_64 _) (rD_64 _)) (mul_q hA hC) (mulG (rN_64 _) (rD_64 _) iC.1 iC.2) (addG (rN_64 _) (rD_64 _) (rN_64 _) (rD_64 _))
    (fun W => by
      have := add_q hA fits0 W
      rw [Rat.add_zero, rN_fits hA, rD_fits hA, rE_fits hA] at this
      exact this)
    (fun W => by
      have := mul_q hA fits1 W
      rw [Rat.mul_one, rN_fits hA, rD_fits hA, rE_fits hA] at this
      exact this) ?_ ?_ ?_ ?_ ?_
  · intro h W
    have f := rE_zero h
    rw [rN_fits f, rD_fits f]
    exact chk_q f W
  · intro h W
    have f := rE_zero h
    rw [rN_fits f, rD_fits f]
    exact chk_q f W
  · intro h1 h2
    obtain ⟨a1, a2⟩ := sum_ok hC h1
    obtain ⟨b1, b2⟩ := sum_ok hA h2
    have e : B + C + A = A + B + C := by rw [Rat.add_comm, ← Rat.add_assoc]
    rw [a1, a2, b1, b2, e]
    exact ⟨rfl, rfl⟩
  · intro h1 h2 h3 h4
    have f1 := rE_zero h1
    have f3 := rE_zero h3
    rw [rN_fits f1, rD_fits f1] at h2 ⊢
    rw [rN_fits f3, rD_fits f3] at h4 ⊢
    rw [mulE_Q f1 hC] at h2
    rw [mulE_Q hA f3] at h4
    have f2 := rE_zero h2
    have f4 := rE_zero h4
    rw [mulN_Q f1 hC, mulD_Q f1 hC, mulN_Q hA f3, mulD_Q hA f3, rN_fits f2, rD_fits f2, rN_fits f4, rD_fits f4, Rat.mul_assoc]
    exact ⟨rfl, rfl⟩
  · intro h1 h2 h3 h4 h5
    have f1 := rE_zero h1
    have f2 := rE_zero h2
    have f3 := rE_zero h3
    rw [rN_fits f1, rD_fits f1] at h4 ⊢
    rw [rN_fits f2, rD_fits f2, rN_fits f3, rD_fits f3] at h5 ⊢
    rw [mulE_Q f1 hC] at h4
    rw [addE_Q f2 f3] at h5
    have f4 := rE_zero h4
    have f5 := rE_zero h5
    rw [mulN_Q f1 hC, mulD_Q f1 hC, addN_Q f2 f3, addD_Q f2 f3, rN_fits f4, rD_fits f4, rN_fits f5, rD_fits f5, Rat.add_mul]
    exact ⟨rfl, rfl⟩

set_option maxRecDepth 100000 in
set_option maxHeartbeats 4000000 in
/-- The walk where a check says no. -/
theorem field_no (a0 a1 b0 b1 c0 c1 x y z : Int) (w : World) (hs : ∀ W, Calls Try.prog 18 #[] W fun e' w' => e' = .returned (.bool true) ∧ Below W.heap.size W w')
    (h1 : ∀ W, Calls Try.prog 21 #[.agg #[.int .i64 a0, .int .i64 a1]] W fun e' w' => e' = .returned (.int .i64 x) ∧ Below W.heap.size W w')
    (h2 : ∀ W, Calls Try.prog 21 #[.agg #[.int .i64 b0, .int .i64 b1]] W fun e' w' => e' = .returned (.int .i64 y) ∧ Below W.heap.size W w')
    (h3 : ∀ W, Calls Try.prog 21 #[.agg #[.int .i64 c0, .int .i64 c1]] W fun e' w' => e' = .returned (.int .i64 z) ∧ Below W.heap.size W w')
    (hv : (x == 0) = false ∨ ((x == 0) = true ∧ (y == 0) = false) ∨ ((x == 0) = true ∧ (y == 0) = true ∧ (z == 0) = false)) :
    Calls Try.prog 8 #[.agg #[.int .i64 a0, .int .i64 a1], .agg #[.int .i64 b0, .int .i64 b1], .agg #[.int .i64 c0, .int .i64 c1]] w fun e' w' => e' = .returned (.bool true) ∧ Below w.heap.size w w' := by
  have hu23 := Try.underlying23
  replace h1 := Aside0.mk h1
  replace h2 := Aside0.mk h2
  replace h3 := Aside0.mk h3
  go_enter Try.func8, Try.ntmps8
  go_upto_region 1 with (fail)
  obtain ⟨W0, hW0⟩ : ∃ W, W = ((w.alloc (.cells #[.int .i64 a0, .int .i64 a1] 23)).alloc (.cells #[.int .i64 b0, .int .i64 b1] 23)).alloc (.cells #[.int .i64 c0, .int .i64 c1] 23) := ⟨_, rfl⟩
  have hB : Below w.heap.size w W0 := by rw [hW0]; exact below_alloc (below_alloc (below_alloc (Below.refl _ _) _) _) _
  obtain ⟨ga, hga⟩ : ∃ g, g = w.heap.size := ⟨_, rfl⟩
  obtain ⟨gb, hgb⟩ : ∃ g, g = w.heap.size + 1 := ⟨_, rfl⟩
  obtain ⟨gc, hgc⟩ : ∃ g, g = w.heap.size + 1 + 1 := ⟨_, rfl⟩
  have ka : W0.heap[ga]? = some (.cells #[.int .i64 a0, .int .i64 a1] 23 (0, 0)) := by rw [hW0, hga]; exact blk_alloc (blk_alloc (blk_new _ _) _) _
  have kb : W0.heap[gb]? = some (.cells #[.int .i64 b0, .int .i64 b1] 23 (0, 0)) := by rw [hW0, hgb]; have := blk_new (w.alloc (.cells #[.int .i64 a0, .int .i64 a1] 23)) (.cells #[.int .i64 b0, .int .i64 b1] 23); rw [World.size_alloc] at this; exact blk_alloc this _
  have kc : W0.heap[gc]? = some (.cells #[.int .i64 c0, .int .i64 c1] 23 (0, 0)) := by rw [hW0, hgc]; have := blk_new ((w.alloc (.cells #[.int .i64 a0, .int .i64 a1] 23)).alloc (.cells #[.int .i64 b0, .int .i64 b1] 23)) (.cells #[.int .i64 c0, .int .i64 c1] 23); rw [World.size_alloc, World.size_alloc] at this; exact this
  rw [← hW0, ← hgc, ← hgb, ← hga]
  clear hW0 hga hgb hgc
  go_upto_region 3 with (go_at_call 18; refine (hs _).mono ?_; rintro e' w1 ⟨rfl, hb⟩; replace ka := blk_below ka hb; replace kb := blk_below kb hb; replace kc := blk_below kc hb; replace hB := below_go hB hb; clear hb)
  have za0 := (blk_cell ka 0).trans rfl
  have za1 := (blk_cell ka 1).trans rfl
  rcases hv with hx | ⟨hx, hy⟩ | ⟨hx, hy, hz⟩
  · have hx1 : (x != 0) = true := by rw [bne, hx]; rfl
    go_wp2_with (go_at_call 21; (first | (with_reducible refine (h1.out _).mono ?_) | (with_reducible refine (h2.out _).mono ?_) | (with_reducible refine (h3.out _).mono ?_)); rintro e' w1 ⟨rfl, hb⟩; replace ka := blk_below ka hb; replace kb := blk_below kb hb; replace kc := blk_below kc hb; replace hB := below_go hB hb; have zb0 := (blk_cell kb 0).trans rfl; have zb1 := (blk_cell kb 1).trans rfl; have zc0 := (blk_cell kc 0).trans rfl; have zc1 := (blk_cell kc 1).trans rfl; clear hb)
    go_ret
    exact ⟨rfl, hB⟩
  · have hx1 : (x != 0) = false := by rw [bne, hx]; rfl
    have hy1 : (y != 0) = true := by rw [bne, hy]; rfl
    go_wp2_with (go_at_call 21; (first | (with_reducible refine (h1.out _).mono ?_) | (with_reducible refine (h2.out _).mono ?_) | (with_reducible refine (h3.out _).mono ?_)); rintro e' w1 ⟨rfl, hb⟩; replace ka := blk_below ka hb; replace kb := blk_below kb hb; replace kc := blk_below kc hb; replace hB := below_go hB hb; have zb0 := (blk_cell kb 0).trans rfl; have zb1 := (blk_cell kb 1).trans rfl; have zc0 := (blk_cell kc 0).trans rfl; have zc1 := (blk_cell kc 1).trans rfl; clear hb)
    go_ret
    exact ⟨rfl, hB⟩
  · have hx1 : (x != 0) = false := by rw [bne, hx]; rfl
    have hy1 : (y != 0) = false := by rw [bne, hy]; rfl
    have hz1 : (z != 0) = true := by rw [bne, hz]; rfl
    go_wp2_with (go_at_call 21; (first | (with_reducible refine (h1.out _).mono ?_) | (with_reducible refine (h2.out _).mono ?_) | (with_reducible refine (h3.out _).mono ?_)); rintro e' w1 ⟨rfl, hb⟩; replace ka := blk_below ka hb; replace kb := blk_below kb hb; replace kc := blk_below kc hb; replace hB := below_go hB hb; have zb0 := (blk_cell kb 0).trans rfl; have zb1 := (blk_cell kb 1).trans rfl; have zc0 := (blk_cell kc 0).trans rfl; have zc1 := (blk_cell kc 1).trans rfl; clear hb)
    go_ret
    exact ⟨rfl, hB⟩

theorem chk_i {a b : Int} (h0 : in64 a) (h1 : in64 b) (W : World) : Calls Try.prog 21 #[.agg #[.int .i64 a, .int .i64 b]] W fun e' w' => e' = .returned (.int .i64 (chkE a b)) ∧ Below W.heap.size W w' :=
  ratio_CheckC.calls _ _ _ W (check_f h0 h1)

theorem field_all (a0 a1 b0 b1 c0 c1 : Int) (h0 : in64 a0) (h1 : in64 a1) (h2 : in64 b0) (h3 : in64 b1) (h4 : in64 c0) (h5 : in64 c1) (w : World) :
    Calls Try.prog 8 #[.agg #[.int .i64 a0, .int .i64 a1], .agg #[.int .i64 b0, .int .i64 b1], .agg #[.int .i64 c0, .int .i64 c1]] w fun e' w' => e' = .returned (.bool true) ∧ Below w.heap.size w w' := by
  have hn := field_no a0 a1 b0 b1 c0 c1 (chkE a0 a1) (chkE b0 b1) (chkE c0 c1) w (fun W => sizarlaw05_saneC.calls true W rfl) (chk_i h0 h1) (chk_i h2 h3) (chk_i h4 h5)
  rcases chk_cases a0 a1 with ⟨e1, _⟩ | ⟨p, hp, rfl, rfl⟩
  · exact hn (.inl (by rw [e1]; rfl))
  · rcases chk_cases b0 b1 with ⟨e2, _⟩ | ⟨q, hq, rfl, rfl⟩
    · exact hn (.inr (.inl ⟨by rw [chk_fits hp]; rfl, by rw [e2]; rfl⟩))
    · rcases chk_cases c0 c1 with ⟨e3, _⟩ | ⟨r, hr, rfl, rfl⟩
      · exact hn (.inr (.inr ⟨by rw [chk_fits hp]; rfl, by rw [chk_fits hq]; rfl, by rw [e3]; rfl⟩))
      · exact field_yes hp hq hr w

def sizarlaw05_RatioField.f (a0 a1 b0 b1 c0 c1 : Int) : Option Bool := if in64 a0 ∧ in64 a1 ∧ in64 b0 ∧ in64 b1 ∧ in64 c0 ∧ in64 c1 then some true else none
theorem sizarlaw05_RatioField.calls (a0_0 a0_1 a1_0 a1_1 a2_0 a2_1 : Int) (r : Bool) (w : World) (_hrt : Aside0 (r = true)) (h : sizarlaw05_RatioField.f a0_0 a0_1 a1_0 a1_1 a2_0 a2_1 = some r) :
    Calls Try.prog 8 #[.agg #[.int .i64 a0_0, .int .i64 a0_1], .agg #[.int .i64 a1_0, .int .i64 a1_1], .agg #[.int .i64 a2_0, .int .i64 a2_1]] w fun e w' => e = .returned (.bool r) ∧ Below w.heap.size w w' := by
  unfold sizarlaw05_RatioField.f at h
  split at h
  · rename_i hr
    obtain rfl := Option.some.inj h
    exact field_all _ _ _ _ _ _ hr.1 hr.2.1 hr.2.2.1 hr.2.2.2.1 hr.2.2.2.2.1 hr.2.2.2.2.2 w
  · cases h
theorem pure_RatioField (a0 a1 b0 b1 c0 c1 : Int) (i0 : in64 a0) (i1 : in64 a1) (i2 : in64 b0) (i3 : in64 b1) (i4 : in64 c0) (i5 : in64 c1) : sizarlaw05_RatioField.f a0 a1 b0 b1 c0 c1 = some true := if_pos ⟨i0, i1, i2, i3, i4, i5⟩
end Go.Proofs.Ytgoicalffgehoaa.P
