/- The walk of sizarlaw05.RatioField over contracts of its callees, with the values left open (laid by wip/gen_field.py). Conditions: as the theorem states them. -/
import Derived.Test.YtgoicalffgehoaaERat
import Derived.Deep.DeepCutAuto
namespace Go.Proofs.Ytgoicalffgehoaa.P
open Go.RowKit Go.Proofs.YtgoicalffgehoaaW.PrintWords
open Go.Proofs.Ytgoicalffgehoaa
set_option linter.unusedVariables false

theorem fld_below {w W W' : World} {g : Nat} {o o' : Obj} (h : W.heap[g]? = some o) (hb : Below W.heap.size W W') : (W'.alloc o').heap[g]? = some o := blk_alloc (blk_below h hb) _
set_option maxRecDepth 100000 in
set_option maxHeartbeats 8000000 in
theorem field_walk (a0 a1 b0 b1 c0 c1 ab0 ab1 p0 p1 x0 x1 y0 y1 pc0 pc1 bc0 bc1 abc0 abc1 ac0 ac1 lf0 lf1 rt0 rt1 e g i j k l m n : Int) (s t : Bool) (w : World)
    (hsane : ∀ W, Calls Try.prog 18 #[] W fun e' w' => e' = .returned (.bool true) ∧ Below W.heap.size W w')
    (hak : ∀ W, Calls Try.prog 21 #[.agg #[.int .i64 a0, .int .i64 a1]] W fun e' w' => e' = .returned (.int .i64 0) ∧ Below W.heap.size W w')
    (hbk : ∀ W, Calls Try.prog 21 #[.agg #[.int .i64 b0, .int .i64 b1]] W fun e' w' => e' = .returned (.int .i64 0) ∧ Below W.heap.size W w')
    (hck : ∀ W, Calls Try.prog 21 #[.agg #[.int .i64 c0, .int .i64 c1]] W fun e' w' => e' = .returned (.int .i64 0) ∧ Below W.heap.size W w')
    (h5 : ∀ W, Calls Try.prog 23 #[.agg #[.int .i64 a0, .int .i64 a1], .agg #[.int .i64 b0, .int .i64 b1]] W fun e' w' => e' = .returned (.tuple #[.agg #[.int .i64 ab0, .int .i64 ab1], .int .i64 e]) ∧ Below W.heap.size W w')
    (h6 : ∀ W, Calls Try.prog 23 #[.agg #[.int .i64 b0, .int .i64 b1], .agg #[.int .i64 a0, .int .i64 a1]] W fun e' w' => e' = .returned (.tuple #[.agg #[.int .i64 ab0, .int .i64 ab1], .int .i64 e]) ∧ Below W.heap.size W w')
    (h7 : ∀ W, Calls Try.prog 25 #[.agg #[.int .i64 a0, .int .i64 a1], .agg #[.int .i64 b0, .int .i64 b1]] W fun e' w' => e' = .returned (.tuple #[.agg #[.int .i64 p0, .int .i64 p1], .int .i64 g]) ∧ Below W.heap.size W w')
    (h8 : ∀ W, Calls Try.prog 25 #[.agg #[.int .i64 b0, .int .i64 b1], .agg #[.int .i64 a0, .int .i64 a1]] W fun e' w' => e' = .returned (.tuple #[.agg #[.int .i64 p0, .int .i64 p1], .int .i64 g]) ∧ Below W.heap.size W w')
    (h11 : ∀ W, Calls Try.prog 36 #[.agg #[.int .i64 a0, .int .i64 a1], .agg #[.int .i64 b0, .int .i64 b1], .agg #[.int .i64 c0, .int .i64 c1]] W fun e' w' => e' = .returned (.tuple #[.agg #[.int .i64 x0, .int .i64 x1], .bool s]) ∧ Below W.heap.size W w')
    (h12 : ∀ W, Calls Try.prog 36 #[.agg #[.int .i64 b0, .int .i64 b1], .agg #[.int .i64 c0, .int .i64 c1], .agg #[.int .i64 a0, .int .i64 a1]] W fun e' w' => e' = .returned (.tuple #[.agg #[.int .i64 y0, .int .i64 y1], .bool t]) ∧ Below W.heap.size W w')
    (h15 : ∀ W, Calls Try.prog 25 #[.agg #[.int .i64 p0, .int .i64 p1], .agg #[.int .i64 c0, .int .i64 c1]] W fun e' w' => e' = .returned (.tuple #[.agg #[.int .i64 pc0, .int .i64 pc1], .int .i64 i]) ∧ Below W.heap.size W w')
    (h16 : ∀ W, Calls Try.prog 25 #[.agg #[.int .i64 b0, .int .i64 b1], .agg #[.int .i64 c0, .int .i64 c1]] W fun e' w' => e' = .returned (.tuple #[.agg #[.int .i64 bc0, .int .i64 bc1], .int .i64 j]) ∧ Below W.heap.size W w')
    (h17 : ∀ W, Calls Try.prog 25 #[.agg #[.int .i64 a0, .int .i64 a1], .agg #[.int .i64 bc0, .int .i64 bc1]] W fun e' w' => e' = .returned (.tuple #[.agg #[.int .i64 abc0, .int .i64 abc1], .int .i64 k]) ∧ Below W.heap.size W w')
    (h20 : ∀ W, Calls Try.prog 25 #[.agg #[.int .i64 a0, .int .i64 a1], .agg #[.int .i64 c0, .int .i64 c1]] W fun e' w' => e' = .returned (.tuple #[.agg #[.int .i64 ac0, .int .i64 ac1], .int .i64 l]) ∧ Below W.heap.size W w')
    (h21 : ∀ W, Calls Try.prog 25 #[.agg #[.int .i64 ab0, .int .i64 ab1], .agg #[.int .i64 c0, .int .i64 c1]] W fun e' w' => e' = .returned (.tuple #[.agg #[.int .i64 lf0, .int .i64 lf1], .int .i64 m]) ∧ Below W.heap.size W w')
    (h22 : ∀ W, Calls Try.prog 23 #[.agg #[.int .i64 ac0, .int .i64 ac1], .agg #[.int .i64 bc0, .int .i64 bc1]] W fun e' w' => e' = .returned (.tuple #[.agg #[.int .i64 rt0, .int .i64 rt1], .int .i64 n]) ∧ Below W.heap.size W w')
    (h25 : ∀ W, Calls Try.prog 23 #[.agg #[.int .i64 a0, .int .i64 a1], .agg #[.int .i64 0, .int .i64 1]] W fun e' w' => e' = .returned (.tuple #[.agg #[.int .i64 a0, .int .i64 a1], .int .i64 0]) ∧ Below W.heap.size W w')
    (h26 : ∀ W, Calls Try.prog 25 #[.agg #[.int .i64 a0, .int .i64 a1], .agg #[.int .i64 1, .int .i64 1]] W fun e' w' => e' = .returned (.tuple #[.agg #[.int .i64 a0, .int .i64 a1], .int .i64 0]) ∧ Below W.heap.size W w')
    (f9 : e = 0 → ∀ W, Calls Try.prog 21 #[.agg #[.int .i64 ab0, .int .i64 ab1]] W fun e' w' => e' = .returned (.int .i64 0) ∧ Below W.heap.size W w')
    (f9' : g = 0 → ∀ W, Calls Try.prog 21 #[.agg #[.int .i64 p0, .int .i64 p1]] W fun e' w' => e' = .returned (.int .i64 0) ∧ Below W.heap.size W w')
    (f13 : s = true → t = true → x0 = y0 ∧ x1 = y1)
    (f18 : g = 0 → i = 0 → j = 0 → k = 0 → pc0 = abc0 ∧ pc1 = abc1)
    (f23 : e = 0 → l = 0 → j = 0 → m = 0 → n = 0 → lf0 = rt0 ∧ lf1 = rt1) :
    Calls Try.prog 8 #[.agg #[.int .i64 a0, .int .i64 a1], .agg #[.int .i64 b0, .int .i64 b1], .agg #[.int .i64 c0, .int .i64 c1]] w fun e' w' => e' = .returned (.bool true) ∧ Below w.heap.size w w' := by
  have hu23 := Try.underlying23
  replace hak := Aside0.mk hak
  replace hbk := Aside0.mk hbk
  replace hck := Aside0.mk hck
  replace f9 := Aside0.mk f9
  replace f9' := Aside0.mk f9'
  replace f13 := Aside0.mk f13
  replace f18 := Aside0.mk f18
  replace f23 := Aside0.mk f23
  replace h5 := Aside0.mk h5
  replace h6 := Aside0.mk h6
  replace h7 := Aside0.mk h7
  replace h8 := Aside0.mk h8
  replace h11 := Aside0.mk h11
  replace h12 := Aside0.mk h12
  replace h15 := Aside0.mk h15
  replace h16 := Aside0.mk h16
  replace h17 := Aside0.mk h17
  replace h20 := Aside0.mk h20
  replace h21 := Aside0.mk h21
  replace h22 := Aside0.mk h22
  replace h25 := Aside0.mk h25
  replace h26 := Aside0.mk h26
  go_enter Try.func8, Try.ntmps8
  go_upto_region 1 with (fail)
  obtain ⟨W0, hW0⟩ : ∃ W, W = ((w.alloc (.cells #[.int .i64 a0, .int .i64 a1] 23)).alloc (.cells #[.int .i64 b0, .int .i64 b1] 23)).alloc (.cells #[.int .i64 c0, .int .i64 c1] 23) := ⟨_, rfl⟩
  have hB : Below w.heap.size w W0 := by rw [hW0]; exact below_alloc (below_alloc (below_alloc (Below.refl _ _) _) _) _
  obtain ⟨ga, hga⟩ : ∃ g, g = w.heap.size := ⟨_, rfl⟩
  obtain ⟨gb, hgb⟩ : ∃ g, g = w.heap.size + 1 := ⟨_, rfl⟩
  obtain ⟨gc, hgc⟩ : ∃ g, g = w.heap.size + 1 + 1 := ⟨_, rfl⟩
  have ka : W0.heap[ga]? = some (.cells #[.int .i64 a0, .int .i64 a1] 23 (0, 0)) := by rw [hW0, hga]; exact blk_alloc (blk_alloc (blk_new _ _) _) _
  have kb : W0.heap[gb]? = some (.cells #[.int .i64 b0, .int .i64 b1] 23 (0, 0)) := by rw [hW0, hgb]; have := blk_new (w.alloc (.cells #[.int .i64 a0, .int .i64 a1] 23)) (.cells #[.int .i64 b0, .int .i64 b1] 23); rw [World.size_alloc] at this; exact blk_alloc this _
  have kc : W0.heap[gc]? = some (.cells #[.int .i64 c0, .int .i64 c1] 23 (0, 0)) := by rw [hW0, hgc]; have := blk_new ((w.alloc (.cells #[.int .i64 a0, .int .i64 a1] 23)).alloc (.cells #[.int .i64 b0, .int .i64 b1] 23)) (.cells #[.int .i64 c0, .int .i64 c1] 23); rw [World.size_alloc, World.size_alloc] at this; exact this
  rw [← hW0, ← hgc, ← hgb, ← hga]
  clear hW0 hga hgb hgc
  go_upto_region 3 with (go_at_call 18; refine (hsane _).mono ?_; rintro e' w1 ⟨rfl, hb⟩; replace ka := blk_below ka hb; replace kb := blk_below kb hb; replace kc := blk_below kc hb; replace hB := below_go hB hb; clear hb)
  have za0 := (blk_cell ka 0).trans rfl
  have za1 := (blk_cell ka 1).trans rfl
  have zb0 := (blk_cell kb 0).trans rfl
  have zb1 := (blk_cell kb 1).trans rfl
  have zc0 := (blk_cell kc 0).trans rfl
  have zc1 := (blk_cell kc 1).trans rfl
  go_upto_region 5 with (go_at_call 21; (first | (with_reducible refine (hak.out _).mono ?_) | (with_reducible refine (hbk.out _).mono ?_) | (with_reducible refine (hck.out _).mono ?_)); rintro e' w1 ⟨rfl, hb⟩; replace ka := blk_below ka hb; replace kb := blk_below kb hb; replace kc := blk_below kc hb; replace hB := below_go hB hb; have za0 := (blk_cell ka 0).trans rfl; have za1 := (blk_cell ka 1).trans rfl; have zb0 := (blk_cell kb 0).trans rfl; have zb1 := (blk_cell kb 1).trans rfl; have zc0 := (blk_cell kc 0).trans rfl; have zc1 := (blk_cell kc 1).trans rfl; clear hb)
  have za0 := (blk_cell ka 0).trans rfl
  have za1 := (blk_cell ka 1).trans rfl
  have zb0 := (blk_cell kb 0).trans rfl
  have zb1 := (blk_cell kb 1).trans rfl
  go_upto_region 6 with (go_at_call 23; refine (h5.out _).mono ?_; rintro e' w5 ⟨rfl, hb⟩; replace ka := blk_below ka hb; replace kb := blk_below kb hb; replace kc := blk_below kc hb; replace hB := below_go hB hb; clear hb)
  clear za0 za1 zb0 zb1 h5
  obtain ⟨W5, hW⟩ : ∃ W, W = w5.alloc (.cells #[.int .i64 ab0, .int .i64 ab1] 23) := ⟨_, rfl⟩
  obtain ⟨gab, hg_⟩ : ∃ g, g = w5.heap.size := ⟨_, rfl⟩
  replace ka : W5.heap[ga]? = some (.cells #[.int .i64 a0, .int .i64 a1] 23 (0, 0)) := by rw [hW]; exact blk_alloc ka _
  replace kb : W5.heap[gb]? = some (.cells #[.int .i64 b0, .int .i64 b1] 23 (0, 0)) := by rw [hW]; exact blk_alloc kb _
  replace kc : W5.heap[gc]? = some (.cells #[.int .i64 c0, .int .i64 c1] 23 (0, 0)) := by rw [hW]; exact blk_alloc kc _
  replace hB : Below w.heap.size w W5 := by rw [hW]; exact below_alloc hB _
  have kab : W5.heap[gab]? = some (.cells #[.int .i64 ab0, .int .i64 ab1] 23 (0, 0)) := by rw [hW, hg_]; exact blk_new _ _
  rw [← hW, ← hg_]
  clear hW hg_
  have zb0 := (blk_cell kb 0).trans rfl
  have zb1 := (blk_cell kb 1).trans rfl
  have za0 := (blk_cell ka 0).trans rfl
  have za1 := (blk_cell ka 1).trans rfl
  go_upto_region 7 with (go_at_call 23; refine (h6.out _).mono ?_; rintro e' w6 ⟨rfl, hb⟩; replace ka := blk_below ka hb; replace kb := blk_below kb hb; replace kc := blk_below kc hb; replace kab := blk_below kab hb; replace hB := below_go hB hb; clear hb)
  clear zb0 zb1 za0 za1 h6
  obtain ⟨W6, hW⟩ : ∃ W, W = w6.alloc (.cells #[.int .i64 ab0, .int .i64 ab1] 23) := ⟨_, rfl⟩
  obtain ⟨gba, hg_⟩ : ∃ g, g = w6.heap.size := ⟨_, rfl⟩
  replace ka : W6.heap[ga]? = some (.cells #[.int .i64 a0, .int .i64 a1] 23 (0, 0)) := by rw [hW]; exact blk_alloc ka _
  replace kb : W6.heap[gb]? = some (.cells #[.int .i64 b0, .int .i64 b1] 23 (0, 0)) := by rw [hW]; exact blk_alloc kb _
  replace kc : W6.heap[gc]? = some (.cells #[.int .i64 c0, .int .i64 c1] 23 (0, 0)) := by rw [hW]; exact blk_alloc kc _
  replace kab : W6.heap[gab]? = some (.cells #[.int .i64 ab0, .int .i64 ab1] 23 (0, 0)) := by rw [hW]; exact blk_alloc kab _
  replace hB : Below w.heap.size w W6 := by rw [hW]; exact below_alloc hB _
  have kba : W6.heap[gba]? = some (.cells #[.int .i64 ab0, .int .i64 ab1] 23 (0, 0)) := by rw [hW, hg_]; exact blk_new _ _
  rw [← hW, ← hg_]
  clear hW hg_
  have za0 := (blk_cell ka 0).trans rfl
  have za1 := (blk_cell ka 1).trans rfl
  have zb0 := (blk_cell kb 0).trans rfl
  have zb1 := (blk_cell kb 1).trans rfl
  go_upto_region 8 with (go_at_call 25; refine (h7.out _).mono ?_; rintro e' w7 ⟨rfl, hb⟩; replace ka := blk_below ka hb; replace kb := blk_below kb hb; replace kc := blk_below kc hb; replace kab := blk_below kab hb; replace kba := blk_below kba hb; replace hB := below_go hB hb; clear hb)
  clear za0 za1 zb0 zb1 h7
  obtain ⟨W7, hW⟩ : ∃ W, W = w7.alloc (.cells #[.int .i64 p0, .int .i64 p1] 23) := ⟨_, rfl⟩
  obtain ⟨gp, hg_⟩ : ∃ g, g = w7.heap.size := ⟨_, rfl⟩
  replace ka : W7.heap[ga]? = some (.cells #[.int .i64 a0, .int .i64 a1] 23 (0, 0)) := by rw [hW]; exact blk_alloc ka _
  replace kb : W7.heap[gb]? = some (.cells #[.int .i64 b0, .int .i64 b1] 23 (0, 0)) := by rw [hW]; exact blk_alloc kb _
  replace kc : W7.heap[gc]? = some (.cells #[.int .i64 c0, .int .i64 c1] 23 (0, 0)) := by rw [hW]; exact blk_alloc kc _
  replace kab : W7.heap[gab]? = some (.cells #[.int .i64 ab0, .int .i64 ab1] 23 (0, 0)) := by rw [hW]; exact blk_alloc kab _
  replace kba : W7.heap[gba]? = some (.cells #[.int .i64 ab0, .int .i64 ab1] 23 (0, 0)) := by rw [hW]; exact blk_alloc kba _
  replace hB : Below w.heap.size w W7 := by rw [hW]; exact below_alloc hB _
  have kp : W7.heap[gp]? = some (.cells #[.int .i64 p0, .int .i64 p1] 23 (0, 0)) := by rw [hW, hg_]; exact blk_new _ _
  rw [← hW, ← hg_]
  clear hW hg_
  have zb0 := (blk_cell kb 0).trans rfl
  have zb1 := (blk_cell kb 1).trans rfl
  have za0 := (blk_cell ka 0).trans rfl
  have za1 := (blk_cell ka 1).trans rfl
  go_upto_region 9 with (go_at_call 25; refine (h8.out _).mono ?_; rintro e' w8 ⟨rfl, hb⟩; replace ka := blk_below ka hb; replace kb := blk_below kb hb; replace kc := blk_below kc hb; replace kab := blk_below kab hb; replace kba := blk_below kba hb; replace kp := blk_below kp hb; replace hB := below_go hB hb; clear hb)
  clear zb0 zb1 za0 za1 h8
  obtain ⟨W8, hW⟩ : ∃ W, W = w8.alloc (.cells #[.int .i64 p0, .int .i64 p1] 23) := ⟨_, rfl⟩
  obtain ⟨gq, hg_⟩ : ∃ g, g = w8.heap.size := ⟨_, rfl⟩
  replace ka : W8.heap[ga]? = some (.cells #[.int .i64 a0, .int .i64 a1] 23 (0, 0)) := by rw [hW]; exact blk_alloc ka _
  replace kb : W8.heap[gb]? = some (.cells #[.int .i64 b0, .int .i64 b1] 23 (0, 0)) := by rw [hW]; exact blk_alloc kb _
  replace kc : W8.heap[gc]? = some (.cells #[.int .i64 c0, .int .i64 c1] 23 (0, 0)) := by rw [hW]; exact blk_alloc kc _
  replace kab : W8.heap[gab]? = some (.cells #[.int .i64 ab0, .int .i64 ab1] 23 (0, 0)) := by rw [hW]; exact blk_alloc kab _
  replace kba : W8.heap[gba]? = some (.cells #[.int .i64 ab0, .int .i64 ab1] 23 (0, 0)) := by rw [hW]; exact blk_alloc kba _
  replace kp : W8.heap[gp]? = some (.cells #[.int .i64 p0, .int .i64 p1] 23 (0, 0)) := by rw [hW]; exact blk_alloc kp _
  replace hB : Below w.heap.size w W8 := by rw [hW]; exact below_alloc hB _
  have kq : W8.heap[gq]? = some (.cells #[.int .i64 p0, .int .i64 p1] 23 (0, 0)) := by rw [hW, hg_]; exact blk_new _ _
  rw [← hW, ← hg_]
  clear hW hg_
  have zab0 := (blk_cell kab 0).trans rfl
  have zab1 := (blk_cell kab 1).trans rfl
  have zba0 := (blk_cell kba 0).trans rfl
  have zba1 := (blk_cell kba 1).trans rfl
  have zp0 := (blk_cell kp 0).trans rfl
  have zp1 := (blk_cell kp 1).trans rfl
  have zq0 := (blk_cell kq 0).trans rfl
  have zq1 := (blk_cell kq 1).trans rfl
  go_cut [109] (fun v_ wc => v_ = .bool false ∧ Below w.heap.size w wc ∧ wc.heap[ga]? = some (.cells #[.int .i64 a0, .int .i64 a1] 23 (0, 0)) ∧ wc.heap[gb]? = some (.cells #[.int .i64 b0, .int .i64 b1] 23 (0, 0)) ∧ wc.heap[gc]? = some (.cells #[.int .i64 c0, .int .i64 c1] 23 (0, 0)) ∧ wc.heap[gab]? = some (.cells #[.int .i64 ab0, .int .i64 ab1] 23 (0, 0)) ∧ wc.heap[gba]? = some (.cells #[.int .i64 ab0, .int .i64 ab1] 23 (0, 0)) ∧ wc.heap[gp]? = some (.cells #[.int .i64 p0, .int .i64 p1] 23 (0, 0)) ∧ wc.heap[gq]? = some (.cells #[.int .i64 p0, .int .i64 p1] 23 (0, 0)))
  case first =>
    as_aux_lemma =>
    by_cases he : e = 0
    · have he1 : (e == 0) = true := beq_iff_eq.2 he
      have hc9 := f9.out he
      clear he
      by_cases hg : g = 0
      · have hg1 : (g == 0) = true := beq_iff_eq.2 hg
        have hc9' := f9'.out hg
        clear hg
        go_wp2_with (go_at_call 21; (first | (with_reducible refine (hc9 _).mono ?_) | (with_reducible refine (hc9' _).mono ?_)); rintro e' w9 ⟨rfl, hb⟩; replace ka := blk_below ka hb; replace kb := blk_below kb hb; replace kc := blk_below kc hb; replace kab := blk_below kab hb; replace kba := blk_below kba hb; replace kp := blk_below kp hb; replace kq := blk_below kq hb; replace hB := below_go hB hb; have zab0 := (blk_cell kab 0).trans rfl; have zab1 := (blk_cell kab 1).trans rfl; have zp0 := (blk_cell kp 0).trans rfl; have zp1 := (blk_cell kp 1).trans rfl; clear hb)
        go_meet
        case rel => exact ⟨rfl, hB, ka, kb, kc, kab, kba, kp, kq⟩
      · have hg1 : (g == 0) = false := beq_eq_false_iff_ne.2 hg
        clear hg
        go_wp2_with (go_at_call 21; (first | (with_reducible refine (hc9 _).mono ?_)); rintro e' w9 ⟨rfl, hb⟩; replace ka := blk_below ka hb; replace kb := blk_below kb hb; replace kc := blk_below kc hb; replace kab := blk_below kab hb; replace kba := blk_below kba hb; replace kp := blk_below kp hb; replace kq := blk_below kq hb; replace hB := below_go hB hb; have zab0 := (blk_cell kab 0).trans rfl; have zab1 := (blk_cell kab 1).trans rfl; have zp0 := (blk_cell kp 0).trans rfl; have zp1 := (blk_cell kp 1).trans rfl; clear hb)
        go_meet
        case rel => exact ⟨rfl, hB, ka, kb, kc, kab, kba, kp, kq⟩
    · have he1 : (e == 0) = false := beq_eq_false_iff_ne.2 he
      clear he
      by_cases hg : g = 0
      · have hg1 : (g == 0) = true := beq_iff_eq.2 hg
        have hc9' := f9'.out hg
        clear hg
        go_wp2_with (go_at_call 21; (first | (with_reducible refine (hc9' _).mono ?_)); rintro e' w9 ⟨rfl, hb⟩; replace ka := blk_below ka hb; replace kb := blk_below kb hb; replace kc := blk_below kc hb; replace kab := blk_below kab hb; replace kba := blk_below kba hb; replace kp := blk_below kp hb; replace kq := blk_below kq hb; replace hB := below_go hB hb; have zab0 := (blk_cell kab 0).trans rfl; have zab1 := (blk_cell kab 1).trans rfl; have zp0 := (blk_cell kp 0).trans rfl; have zp1 := (blk_cell kp 1).trans rfl; clear hb)
        go_meet
        case rel => exact ⟨rfl, hB, ka, kb, kc, kab, kba, kp, kq⟩
      · have hg1 : (g == 0) = false := beq_eq_false_iff_ne.2 hg
        clear hg
        go_wp2_with (fail)
        go_meet
        case rel => exact ⟨rfl, hB, ka, kb, kc, kab, kba, kp, kq⟩
  case rest =>
    as_aux_lemma =>
    clear zab0 zab1 zba0 zba1 zp0 zp1 zq0 zq1 hB ka kb kc kab kba kp kq
    obtain ⟨rfl, hB, ka, kb, kc, kab, kba, kp, kq⟩ := hcut
    go_upto_region 11 with (fail)
    have za0 := (blk_cell ka 0).trans rfl
    have za1 := (blk_cell ka 1).trans rfl
    have zb0 := (blk_cell kb 0).trans rfl
    have zb1 := (blk_cell kb 1).trans rfl
    have zc0 := (blk_cell kc 0).trans rfl
    have zc1 := (blk_cell kc 1).trans rfl
    go_upto_region 12 with (go_at_call 36; refine (h11.out _).mono ?_; rintro e' w11 ⟨rfl, hb⟩; replace ka := blk_below ka hb; replace kb := blk_below kb hb; replace kc := blk_below kc hb; replace kab := blk_below kab hb; replace kba := blk_below kba hb; replace kp := blk_below kp hb; replace kq := blk_below kq hb; replace hB := below_go hB hb; clear hb)
    clear za0 za1 zb0 zb1 zc0 zc1 h11
    obtain ⟨W11, hW⟩ : ∃ W, W = w11.alloc (.cells #[.int .i64 x0, .int .i64 x1] 23) := ⟨_, rfl⟩
    obtain ⟨gx, hg_⟩ : ∃ g, g = w11.heap.size := ⟨_, rfl⟩
    replace ka : W11.heap[ga]? = some (.cells #[.int .i64 a0, .int .i64 a1] 23 (0, 0)) := by rw [hW]; exact blk_alloc ka _
    replace kb : W11.heap[gb]? = some (.cells #[.int .i64 b0, .int .i64 b1] 23 (0, 0)) := by rw [hW]; exact blk_alloc kb _
    replace kc : W11.heap[gc]? = some (.cells #[.int .i64 c0, .int .i64 c1] 23 (0, 0)) := by rw [hW]; exact blk_alloc kc _
    replace kab : W11.heap[gab]? = some (.cells #[.int .i64 ab0, .int .i64 ab1] 23 (0, 0)) := by rw [hW]; exact blk_alloc kab _
    replace kba : W11.heap[gba]? = some (.cells #[.int .i64 ab0, .int .i64 ab1] 23 (0, 0)) := by rw [hW]; exact blk_alloc kba _
    replace kp : W11.heap[gp]? = some (.cells #[.int .i64 p0, .int .i64 p1] 23 (0, 0)) := by rw [hW]; exact blk_alloc kp _
    replace kq : W11.heap[gq]? = some (.cells #[.int .i64 p0, .int .i64 p1] 23 (0, 0)) := by rw [hW]; exact blk_alloc kq _
    replace hB : Below w.heap.size w W11 := by rw [hW]; exact below_alloc hB _
    have kx : W11.heap[gx]? = some (.cells #[.int .i64 x0, .int .i64 x1] 23 (0, 0)) := by rw [hW, hg_]; exact blk_new _ _
    rw [← hW, ← hg_]
    clear hW hg_
    have zb0 := (blk_cell kb 0).trans rfl
    have zb1 := (blk_cell kb 1).trans rfl
    have zc0 := (blk_cell kc 0).trans rfl
    have zc1 := (blk_cell kc 1).trans rfl
    have za0 := (blk_cell ka 0).trans rfl
    have za1 := (blk_cell ka 1).trans rfl
    go_upto_region 13 with (go_at_call 36; refine (h12.out _).mono ?_; rintro e' w12 ⟨rfl, hb⟩; replace ka := blk_below ka hb; replace kb := blk_below kb hb; replace kc := blk_below kc hb; replace kab := blk_below kab hb; replace kba := blk_below kba hb; replace kp := blk_below kp hb; replace kq := blk_below kq hb; replace kx := blk_below kx hb; replace hB := below_go hB hb; clear hb)
    clear zb0 zb1 zc0 zc1 za0 za1 h12
    obtain ⟨W12, hW⟩ : ∃ W, W = w12.alloc (.cells #[.int .i64 y0, .int .i64 y1] 23) := ⟨_, rfl⟩
    obtain ⟨gy, hg_⟩ : ∃ g, g = w12.heap.size := ⟨_, rfl⟩
    replace ka : W12.heap[ga]? = some (.cells #[.int .i64 a0, .int .i64 a1] 23 (0, 0)) := by rw [hW]; exact blk_alloc ka _
    replace kb : W12.heap[gb]? = some (.cells #[.int .i64 b0, .int .i64 b1] 23 (0, 0)) := by rw [hW]; exact blk_alloc kb _
    replace kc : W12.heap[gc]? = some (.cells #[.int .i64 c0, .int .i64 c1] 23 (0, 0)) := by rw [hW]; exact blk_alloc kc _
    replace kab : W12.heap[gab]? = some (.cells #[.int .i64 ab0, .int .i64 ab1] 23 (0, 0)) := by rw [hW]; exact blk_alloc kab _
    replace kba : W12.heap[gba]? = some (.cells #[.int .i64 ab0, .int .i64 ab1] 23 (0, 0)) := by rw [hW]; exact blk_alloc kba _
    replace kp : W12.heap[gp]? = some (.cells #[.int .i64 p0, .int .i64 p1] 23 (0, 0)) := by rw [hW]; exact blk_alloc kp _
    replace kq : W12.heap[gq]? = some (.cells #[.int .i64 p0, .int .i64 p1] 23 (0, 0)) := by rw [hW]; exact blk_alloc kq _
    replace kx : W12.heap[gx]? = some (.cells #[.int .i64 x0, .int .i64 x1] 23 (0, 0)) := by rw [hW]; exact blk_alloc kx _
    replace hB : Below w.heap.size w W12 := by rw [hW]; exact below_alloc hB _
    have ky : W12.heap[gy]? = some (.cells #[.int .i64 y0, .int .i64 y1] 23 (0, 0)) := by rw [hW, hg_]; exact blk_new _ _
    rw [← hW, ← hg_]
    clear hW hg_
    have zx0 := (blk_cell kx 0).trans rfl
    have zx1 := (blk_cell kx 1).trans rfl
    have zy0 := (blk_cell ky 0).trans rfl
    have zy1 := (blk_cell ky 1).trans rfl
    go_cut [132] (fun v_ wc => v_ = .bool false ∧ wc = W12)
    case first =>
      as_aux_lemma =>
      cases s
      · go_wp2
        go_meet
        case rel => exact ⟨rfl, rfl⟩
      · cases t
        · go_wp2
          go_meet
          case rel => exact ⟨rfl, rfl⟩
        · obtain ⟨e1, e2⟩ := f13.out rfl rfl
          have e3 : (x0 == y0) = true := beq_iff_eq.2 e1
          have e4 : (x1 == y1) = true := beq_iff_eq.2 e2
          clear e1 e2
          go_wp2
          go_meet
          case rel => exact ⟨rfl, rfl⟩
    case rest =>
      as_aux_lemma =>
      obtain ⟨rfl, rfl⟩ := hcut
      clear zx0 zx1 zy0 zy1
      go_upto_region 15 with (fail)
      have zp0 := (blk_cell kp 0).trans rfl
      have zp1 := (blk_cell kp 1).trans rfl
      have zc0 := (blk_cell kc 0).trans rfl
      have zc1 := (blk_cell kc 1).trans rfl
      go_upto_region 16 with (go_at_call 25; refine (h15.out _).mono ?_; rintro e' w15 ⟨rfl, hb⟩; replace ka := blk_below ka hb; replace kb := blk_below kb hb; replace kc := blk_below kc hb; replace kab := blk_below kab hb; replace kba := blk_below kba hb; replace kp := blk_below kp hb; replace kq := blk_below kq hb; replace kx := blk_below kx hb; replace ky := blk_below ky hb; replace hB := below_go hB hb; clear hb)
      clear zp0 zp1 zc0 zc1 h15
      obtain ⟨W15, hW⟩ : ∃ W, W = w15.alloc (.cells #[.int .i64 pc0, .int .i64 pc1] 23) := ⟨_, rfl⟩
      obtain ⟨gpc, hg_⟩ : ∃ g, g = w15.heap.size := ⟨_, rfl⟩
      replace ka : W15.heap[ga]? = some (.cells #[.int .i64 a0, .int .i64 a1] 23 (0, 0)) := by rw [hW]; exact blk_alloc ka _
      replace kb : W15.heap[gb]? = some (.cells #[.int .i64 b0, .int .i64 b1] 23 (0, 0)) := by rw [hW]; exact blk_alloc kb _
      replace kc : W15.heap[gc]? = some (.cells #[.int .i64 c0, .int .i64 c1] 23 (0, 0)) := by rw [hW]; exact blk_alloc kc _
      replace kab : W15.heap[gab]? = some (.cells #[.int .i64 ab0, .int .i64 ab1] 23 (0, 0)) := by rw [hW]; exact blk_alloc kab _
      replace kba : W15.heap[gba]? = some (.cells #[.int .i64 ab0, .int .i64 ab1] 23 (0, 0)) := by rw [hW]; exact blk_alloc kba _
      replace kp : W15.heap[gp]? = some (.cells #[.int .i64 p0, .int .i64 p1] 23 (0, 0)) := by rw [hW]; exact blk_alloc kp _
      replace kq : W15.heap[gq]? = some (.cells #[.int .i64 p0, .int .i64 p1] 23 (0, 0)) := by rw [hW]; exact blk_alloc kq _
      replace kx : W15.heap[gx]? = some (.cells #[.int .i64 x0, .int .i64 x1] 23 (0, 0)) := by rw [hW]; exact blk_alloc kx _
      replace ky : W15.heap[gy]? = some (.cells #[.int .i64 y0, .int .i64 y1] 23 (0, 0)) := by rw [hW]; exact blk_alloc ky _
      replace hB : Below w.heap.size w W15 := by rw [hW]; exact below_alloc hB _
      have kpc : W15.heap[gpc]? = some (.cells #[.int .i64 pc0, .int .i64 pc1] 23 (0, 0)) := by rw [hW, hg_]; exact blk_new _ _
      rw [← hW, ← hg_]
      clear hW hg_
      have zb0 := (blk_cell kb 0).trans rfl
      have zb1 := (blk_cell kb 1).trans rfl
      have zc0 := (blk_cell kc 0).trans rfl
      have zc1 := (blk_cell kc 1).trans rfl
      go_upto_region 17 with (go_at_call 25; refine (h16.out _).mono ?_; rintro e' w16 ⟨rfl, hb⟩; replace ka := blk_below ka hb; replace kb := blk_below kb hb; replace kc := blk_below kc hb; replace kab := blk_below kab hb; replace kba := blk_below kba hb; replace kp := blk_below kp hb; replace kq := blk_below kq hb; replace kx := blk_below kx hb; replace ky := blk_below ky hb; replace kpc := blk_below kpc hb; replace hB := below_go hB hb; clear hb)
      clear zb0 zb1 zc0 zc1 h16
      obtain ⟨W16, hW⟩ : ∃ W, W = w16.alloc (.cells #[.int .i64 bc0, .int .i64 bc1] 23) := ⟨_, rfl⟩
      obtain ⟨gbc, hg_⟩ : ∃ g, g = w16.heap.size := ⟨_, rfl⟩
      replace ka : W16.heap[ga]? = some (.cells #[.int .i64 a0, .int .i64 a1] 23 (0, 0)) := by rw [hW]; exact blk_alloc ka _
      replace kb : W16.heap[gb]? = some (.cells #[.int .i64 b0, .int .i64 b1] 23 (0, 0)) := by rw [hW]; exact blk_alloc kb _
      replace kc : W16.heap[gc]? = some (.cells #[.int .i64 c0, .int .i64 c1] 23 (0, 0)) := by rw [hW]; exact blk_alloc kc _
      replace kab : W16.heap[gab]? = some (.cells #[.int .i64 ab0, .int .i64 ab1] 23 (0, 0)) := by rw [hW]; exact blk_alloc kab _
      replace kba : W16.heap[gba]? = some (.cells #[.int .i64 ab0, .int .i64 ab1] 23 (0, 0)) := by rw [hW]; exact blk_alloc kba _
      replace kp : W16.heap[gp]? = some (.cells #[.int .i64 p0, .int .i64 p1] 23 (0, 0)) := by rw [hW]; exact blk_alloc kp _
      replace kq : W16.heap[gq]? = some (.cells #[.int .i64 p0, .int .i64 p1] 23 (0, 0)) := by rw [hW]; exact blk_alloc kq _
      replace kx : W16.heap[gx]? = some (.cells #[.int .i64 x0, .int .i64 x1] 23 (0, 0)) := by rw [hW]; exact blk_alloc kx _
      replace ky : W16.heap[gy]? = some (.cells #[.int .i64 y0, .int .i64 y1] 23 (0, 0)) := by rw [hW]; exact blk_alloc ky _
      replace kpc : W16.heap[gpc]? = some (.cells #[.int .i64 pc0, .int .i64 pc1] 23 (0, 0)) := by rw [hW]; exact blk_alloc kpc _
      replace hB : Below w.heap.size w W16 := by rw [hW]; exact below_alloc hB _
      have kbc : W16.heap[gbc]? = some (.cells #[.int .i64 bc0, .int .i64 bc1] 23 (0, 0)) := by rw [hW, hg_]; exact blk_new _ _
      rw [← hW, ← hg_]
      clear hW hg_
      have za0 := (blk_cell ka 0).trans rfl
      have za1 := (blk_cell ka 1).trans rfl
      have zbc0 := (blk_cell kbc 0).trans rfl
      have zbc1 := (blk_cell kbc 1).trans rfl
      go_upto_region 18 with (go_at_call 25; refine (h17.out _).mono ?_; rintro e' w17 ⟨rfl, hb⟩; replace ka := blk_below ka hb; replace kb := blk_below kb hb; replace kc := blk_below kc hb; replace kab := blk_below kab hb; replace kba := blk_below kba hb; replace kp := blk_below kp hb; replace kq := blk_below kq hb; replace kx := blk_below kx hb; replace ky := blk_below ky hb; replace kpc := blk_below kpc hb; replace kbc := blk_below kbc hb; replace hB := below_go hB hb; clear hb)
      clear za0 za1 zbc0 zbc1 h17
      obtain ⟨W17, hW⟩ : ∃ W, W = w17.alloc (.cells #[.int .i64 abc0, .int .i64 abc1] 23) := ⟨_, rfl⟩
      obtain ⟨gabc, hg_⟩ : ∃ g, g = w17.heap.size := ⟨_, rfl⟩
      replace ka : W17.heap[ga]? = some (.cells #[.int .i64 a0, .int .i64 a1] 23 (0, 0)) := by rw [hW]; exact blk_alloc ka _
      replace kb : W17.heap[gb]? = some (.cells #[.int .i64 b0, .int .i64 b1] 23 (0, 0)) := by rw [hW]; exact blk_alloc kb _
      replace kc : W17.heap[gc]? = some (.cells #[.int .i64 c0, .int .i64 c1] 23 (0, 0)) := by rw [hW]; exact blk_alloc kc _
      replace kab : W17.heap[gab]? = some (.cells #[.int .i64 ab0, .int .i64 ab1] 23 (0, 0)) := by rw [hW]; exact blk_alloc kab _
      replace kba : W17.heap[gba]? = some (.cells #[.int .i64 ab0, .int .i64 ab1] 23 (0, 0)) := by rw [hW]; exact blk_alloc kba _
      replace kp : W17.heap[gp]? = some (.cells #[.int .i64 p0, .int .i64 p1] 23 (0, 0)) := by rw [hW]; exact blk_alloc kp _
      replace kq : W17.heap[gq]? = some (.cells #[.int .i64 p0, .int .i64 p1] 23 (0, 0)) := by rw [hW]; exact blk_alloc kq _
      replace kx : W17.heap[gx]? = some (.cells #[.int .i64 x0, .int .i64 x1] 23 (0, 0)) := by rw [hW]; exact blk_alloc kx _
      replace ky : W17.heap[gy]? = some (.cells #[.int .i64 y0, .int .i64 y1] 23 (0, 0)) := by rw [hW]; exact blk_alloc ky _
      replace kpc : W17.heap[gpc]? = some (.cells #[.int .i64 pc0, .int .i64 pc1] 23 (0, 0)) := by rw [hW]; exact blk_alloc kpc _
      replace kbc : W17.heap[gbc]? = some (.cells #[.int .i64 bc0, .int .i64 bc1] 23 (0, 0)) := by rw [hW]; exact blk_alloc kbc _
      replace hB : Below w.heap.size w W17 := by rw [hW]; exact below_alloc hB _
      have kabc : W17.heap[gabc]? = some (.cells #[.int .i64 abc0, .int .i64 abc1] 23 (0, 0)) := by rw [hW, hg_]; exact blk_new _ _
      rw [← hW, ← hg_]
      clear hW hg_
      have zpc0 := (blk_cell kpc 0).trans rfl
      have zpc1 := (blk_cell kpc 1).trans rfl
      have zabc0 := (blk_cell kabc 0).trans rfl
      have zabc1 := (blk_cell kabc 1).trans rfl
      go_cut [169] (fun v_ wc => v_ = .bool false ∧ wc = W17)
      case first =>
        as_aux_lemma =>
        by_cases hq_g : g = 0
        · have hz_g : (g == 0) = true := beq_iff_eq.2 hq_g
          by_cases hq_i : i = 0
          · have hz_i : (i == 0) = true := beq_iff_eq.2 hq_i
            by_cases hq_j : j = 0
            · have hz_j : (j == 0) = true := beq_iff_eq.2 hq_j
              by_cases hq_k : k = 0
              · have hz_k : (k == 0) = true := beq_iff_eq.2 hq_k
                obtain ⟨e1, e2⟩ := f18.out hq_g hq_i hq_j hq_k
                have e3 : (pc0 == abc0) = true := beq_iff_eq.2 e1
                have e4 : (pc1 == abc1) = true := beq_iff_eq.2 e2
                clear e1 e2 hq_g hq_i hq_j hq_k
                go_wp2
                go_meet
                case rel => exact ⟨rfl, rfl⟩
              · have hz_k : (k == 0) = false := beq_eq_false_iff_ne.2 hq_k
                clear hq_g hq_i hq_j hq_k
                go_wp2
                go_meet
                case rel => exact ⟨rfl, rfl⟩
            · have hz_j : (j == 0) = false := beq_eq_false_iff_ne.2 hq_j
              clear hq_g hq_i hq_j
              go_wp2
              go_meet
              case rel => exact ⟨rfl, rfl⟩
          · have hz_i : (i == 0) = false := beq_eq_false_iff_ne.2 hq_i
            clear hq_g hq_i
            go_wp2
            go_meet
            case rel => exact ⟨rfl, rfl⟩
        · have hz_g : (g == 0) = false := beq_eq_false_iff_ne.2 hq_g
          clear hq_g
          go_wp2
          go_meet
          case rel => exact ⟨rfl, rfl⟩
      case rest =>
        as_aux_lemma =>
        obtain ⟨rfl, rfl⟩ := hcut
        clear zpc0 zpc1 zabc0 zabc1
        go_upto_region 20 with (fail)
        have za0 := (blk_cell ka 0).trans rfl
        have za1 := (blk_cell ka 1).trans rfl
        have zc0 := (blk_cell kc 0).trans rfl
        have zc1 := (blk_cell kc 1).trans rfl
        go_upto_region 21 with (go_at_call 25; refine (h20.out _).mono ?_; rintro e' w20 ⟨rfl, hb⟩; replace ka := blk_below ka hb; replace kb := blk_below kb hb; replace kc := blk_below kc hb; replace kab := blk_below kab hb; replace kba := blk_below kba hb; replace kp := blk_below kp hb; replace kq := blk_below kq hb; replace kx := blk_below kx hb; replace ky := blk_below ky hb; replace kpc := blk_below kpc hb; replace kbc := blk_below kbc hb; replace kabc := blk_below kabc hb; replace hB := below_go hB hb; clear hb)
        clear za0 za1 zc0 zc1 h20
        obtain ⟨W20, hW⟩ : ∃ W, W = w20.alloc (.cells #[.int .i64 ac0, .int .i64 ac1] 23) := ⟨_, rfl⟩
        obtain ⟨gac, hg_⟩ : ∃ g, g = w20.heap.size := ⟨_, rfl⟩
        replace ka : W20.heap[ga]? = some (.cells #[.int .i64 a0, .int .i64 a1] 23 (0, 0)) := by rw [hW]; exact blk_alloc ka _
        replace kb : W20.heap[gb]? = some (.cells #[.int .i64 b0, .int .i64 b1] 23 (0, 0)) := by rw [hW]; exact blk_alloc kb _
        replace kc : W20.heap[gc]? = some (.cells #[.int .i64 c0, .int .i64 c1] 23 (0, 0)) := by rw [hW]; exact blk_alloc kc _
        replace kab : W20.heap[gab]? = some (.cells #[.int .i64 ab0, .int .i64 ab1] 23 (0, 0)) := by rw [hW]; exact blk_alloc kab _
        replace kba : W20.heap[gba]? = some (.cells #[.int .i64 ab0, .int .i64 ab1] 23 (0, 0)) := by rw [hW]; exact blk_alloc kba _
        replace kp : W20.heap[gp]? = some (.cells #[.int .i64 p0, .int .i64 p1] 23 (0, 0)) := by rw [hW]; exact blk_alloc kp _
        replace kq : W20.heap[gq]? = some (.cells #[.int .i64 p0, .int .i64 p1] 23 (0, 0)) := by rw [hW]; exact blk_alloc kq _
        replace kx : W20.heap[gx]? = some (.cells #[.int .i64 x0, .int .i64 x1] 23 (0, 0)) := by rw [hW]; exact blk_alloc kx _
        replace ky : W20.heap[gy]? = some (.cells #[.int .i64 y0, .int .i64 y1] 23 (0, 0)) := by rw [hW]; exact blk_alloc ky _
        replace kpc : W20.heap[gpc]? = some (.cells #[.int .i64 pc0, .int .i64 pc1] 23 (0, 0)) := by rw [hW]; exact blk_alloc kpc _
        replace kbc : W20.heap[gbc]? = some (.cells #[.int .i64 bc0, .int .i64 bc1] 23 (0, 0)) := by rw [hW]; exact blk_alloc kbc _
        replace kabc : W20.heap[gabc]? = some (.cells #[.int .i64 abc0, .int .i64 abc1] 23 (0, 0)) := by rw [hW]; exact blk_alloc kabc _
        replace hB : Below w.heap.size w W20 := by rw [hW]; exact below_alloc hB _
        have kac : W20.heap[gac]? = some (.cells #[.int .i64 ac0, .int .i64 ac1] 23 (0, 0)) := by rw [hW, hg_]; exact blk_new _ _
        rw [← hW, ← hg_]
        clear hW hg_
        have zab0 := (blk_cell kab 0).trans rfl
        have zab1 := (blk_cell kab 1).trans rfl
        have zc0 := (blk_cell kc 0).trans rfl
        have zc1 := (blk_cell kc 1).trans rfl
        go_upto_region 22 with (go_at_call 25; refine (h21.out _).mono ?_; rintro e' w21 ⟨rfl, hb⟩; replace ka := blk_below ka hb; replace kb := blk_below kb hb; replace kc := blk_below kc hb; replace kab := blk_below kab hb; replace kba := blk_below kba hb; replace kp := blk_below kp hb; replace kq := blk_below kq hb; replace kx := blk_below kx hb; replace ky := blk_below ky hb; replace kpc := blk_below kpc hb; replace kbc := blk_below kbc hb; replace kabc := blk_below kabc hb; replace kac := blk_below kac hb; replace hB := below_go hB hb; clear hb)
        clear zab0 zab1 zc0 zc1 h21
        obtain ⟨W21, hW⟩ : ∃ W, W = w21.alloc (.cells #[.int .i64 lf0, .int .i64 lf1] 23) := ⟨_, rfl⟩
        obtain ⟨glf, hg_⟩ : ∃ g, g = w21.heap.size := ⟨_, rfl⟩
        replace ka : W21.heap[ga]? = some (.cells #[.int .i64 a0, .int .i64 a1] 23 (0, 0)) := by rw [hW]; exact blk_alloc ka _
        replace kb : W21.heap[gb]? = some (.cells #[.int .i64 b0, .int .i64 b1] 23 (0, 0)) := by rw [hW]; exact blk_alloc kb _
        replace kc : W21.heap[gc]? = some (.cells #[.int .i64 c0, .int .i64 c1] 23 (0, 0)) := by rw [hW]; exact blk_alloc kc _
        replace kab : W21.heap[gab]? = some (.cells #[.int .i64 ab0, .int .i64 ab1] 23 (0, 0)) := by rw [hW]; exact blk_alloc kab _
        replace kba : W21.heap[gba]? = some (.cells #[.int .i64 ab0, .int .i64 ab1] 23 (0, 0)) := by rw [hW]; exact blk_alloc kba _
        replace kp : W21.heap[gp]? = some (.cells #[.int .i64 p0, .int .i64 p1] 23 (0, 0)) := by rw [hW]; exact blk_alloc kp _
        replace kq : W21.heap[gq]? = some (.cells #[.int .i64 p0, .int .i64 p1] 23 (0, 0)) := by rw [hW]; exact blk_alloc kq _
        replace kx : W21.heap[gx]? = some (.cells #[.int .i64 x0, .int .i64 x1] 23 (0, 0)) := by rw [hW]; exact blk_alloc kx _
        replace ky : W21.heap[gy]? = some (.cells #[.int .i64 y0, .int .i64 y1] 23 (0, 0)) := by rw [hW]; exact blk_alloc ky _
        replace kpc : W21.heap[gpc]? = some (.cells #[.int .i64 pc0, .int .i64 pc1] 23 (0, 0)) := by rw [hW]; exact blk_alloc kpc _
        replace kbc : W21.heap[gbc]? = some (.cells #[.int .i64 bc0, .int .i64 bc1] 23 (0, 0)) := by rw [hW]; exact blk_alloc kbc _
        replace kabc : W21.heap[gabc]? = some (.cells #[.int .i64 abc0, .int .i64 abc1] 23 (0, 0)) := by rw [hW]; exact blk_alloc kabc _
        replace kac : W21.heap[gac]? = some (.cells #[.int .i64 ac0, .int .i64 ac1] 23 (0, 0)) := by rw [hW]; exact blk_alloc kac _
        replace hB : Below w.heap.size w W21 := by rw [hW]; exact below_alloc hB _
        have klf : W21.heap[glf]? = some (.cells #[.int .i64 lf0, .int .i64 lf1] 23 (0, 0)) := by rw [hW, hg_]; exact blk_new _ _
        rw [← hW, ← hg_]
        clear hW hg_
        have zac0 := (blk_cell kac 0).trans rfl
        have zac1 := (blk_cell kac 1).trans rfl
        have zbc0 := (blk_cell kbc 0).trans rfl
        have zbc1 := (blk_cell kbc 1).trans rfl
        go_upto_region 23 with (go_at_call 23; refine (h22.out _).mono ?_; rintro e' w22 ⟨rfl, hb⟩; replace ka := blk_below ka hb; replace kb := blk_below kb hb; replace kc := blk_below kc hb; replace kab := blk_below kab hb; replace kba := blk_below kba hb; replace kp := blk_below kp hb; replace kq := blk_below kq hb; replace kx := blk_below kx hb; replace ky := blk_below ky hb; replace kpc := blk_below kpc hb; replace kbc := blk_below kbc hb; replace kabc := blk_below kabc hb; replace kac := blk_below kac hb; replace klf := blk_below klf hb; replace hB := below_go hB hb; clear hb)
        clear zac0 zac1 zbc0 zbc1 h22
        obtain ⟨W22, hW⟩ : ∃ W, W = w22.alloc (.cells #[.int .i64 rt0, .int .i64 rt1] 23) := ⟨_, rfl⟩
        obtain ⟨grt, hg_⟩ : ∃ g, g = w22.heap.size := ⟨_, rfl⟩
        replace ka : W22.heap[ga]? = some (.cells #[.int .i64 a0, .int .i64 a1] 23 (0, 0)) := by rw [hW]; exact blk_alloc ka _
        replace kb : W22.heap[gb]? = some (.cells #[.int .i64 b0, .int .i64 b1] 23 (0, 0)) := by rw [hW]; exact blk_alloc kb _
        replace kc : W22.heap[gc]? = some (.cells #[.int .i64 c0, .int .i64 c1] 23 (0, 0)) := by rw [hW]; exact blk_alloc kc _
        replace kab : W22.heap[gab]? = some (.cells #[.int .i64 ab0, .int .i64 ab1] 23 (0, 0)) := by rw [hW]; exact blk_alloc kab _
        replace kba : W22.heap[gba]? = some (.cells #[.int .i64 ab0, .int .i64 ab1] 23 (0, 0)) := by rw [hW]; exact blk_alloc kba _
        replace kp : W22.heap[gp]? = some (.cells #[.int .i64 p0, .int .i64 p1] 23 (0, 0)) := by rw [hW]; exact blk_alloc kp _
        replace kq : W22.heap[gq]? = some (.cells #[.int .i64 p0, .int .i64 p1] 23 (0, 0)) := by rw [hW]; exact blk_alloc kq _
        replace kx : W22.heap[gx]? = some (.cells #[.int .i64 x0, .int .i64 x1] 23 (0, 0)) := by rw [hW]; exact blk_alloc kx _
        replace ky : W22.heap[gy]? = some (.cells #[.int .i64 y0, .int .i64 y1] 23 (0, 0)) := by rw [hW]; exact blk_alloc ky _
        replace kpc : W22.heap[gpc]? = some (.cells #[.int .i64 pc0, .int .i64 pc1] 23 (0, 0)) := by rw [hW]; exact blk_alloc kpc _
        replace kbc : W22.heap[gbc]? = some (.cells #[.int .i64 bc0, .int .i64 bc1] 23 (0, 0)) := by rw [hW]; exact blk_alloc kbc _
        replace kabc : W22.heap[gabc]? = some (.cells #[.int .i64 abc0, .int .i64 abc1] 23 (0, 0)) := by rw [hW]; exact blk_alloc kabc _
        replace kac : W22.heap[gac]? = some (.cells #[.int .i64 ac0, .int .i64 ac1] 23 (0, 0)) := by rw [hW]; exact blk_alloc kac _
        replace klf : W22.heap[glf]? = some (.cells #[.int .i64 lf0, .int .i64 lf1] 23 (0, 0)) := by rw [hW]; exact blk_alloc klf _
        replace hB : Below w.heap.size w W22 := by rw [hW]; exact below_alloc hB _
        have krt : W22.heap[grt]? = some (.cells #[.int .i64 rt0, .int .i64 rt1] 23 (0, 0)) := by rw [hW, hg_]; exact blk_new _ _
        rw [← hW, ← hg_]
        clear hW hg_
        have zlf0 := (blk_cell klf 0).trans rfl
        have zlf1 := (blk_cell klf 1).trans rfl
        have zrt0 := (blk_cell krt 0).trans rfl
        have zrt1 := (blk_cell krt 1).trans rfl
        go_cut [210] (fun v_ wc => v_ = .bool false ∧ wc = W22)
        case first =>
          as_aux_lemma =>
          by_cases hq_e : e = 0
          · have hz_e : (e == 0) = true := beq_iff_eq.2 hq_e
            by_cases hq_l : l = 0
            · have hz_l : (l == 0) = true := beq_iff_eq.2 hq_l
              by_cases hq_j : j = 0
              · have hz_j : (j == 0) = true := beq_iff_eq.2 hq_j
                by_cases hq_m : m = 0
                · have hz_m : (m == 0) = true := beq_iff_eq.2 hq_m
                  by_cases hq_n : n = 0
                  · have hz_n : (n == 0) = true := beq_iff_eq.2 hq_n
                    obtain ⟨e1, e2⟩ := f23.out hq_e hq_l hq_j hq_m hq_n
                    have e3 : (lf0 == rt0) = true := beq_iff_eq.2 e1
                    have e4 : (lf1 == rt1) = true := beq_iff_eq.2 e2
                    clear e1 e2 hq_e hq_l hq_j hq_m hq_n
                    go_wp2
                    go_meet
                    case rel => exact ⟨rfl, rfl⟩
                  · have hz_n : (n == 0) = false := beq_eq_false_iff_ne.2 hq_n
                    clear hq_e hq_l hq_j hq_m hq_n
                    go_wp2
                    go_meet
                    case rel => exact ⟨rfl, rfl⟩
                · have hz_m : (m == 0) = false := beq_eq_false_iff_ne.2 hq_m
                  clear hq_e hq_l hq_j hq_m
                  go_wp2
                  go_meet
                  case rel => exact ⟨rfl, rfl⟩
              · have hz_j : (j == 0) = false := beq_eq_false_iff_ne.2 hq_j
                clear hq_e hq_l hq_j
                go_wp2
                go_meet
                case rel => exact ⟨rfl, rfl⟩
            · have hz_l : (l == 0) = false := beq_eq_false_iff_ne.2 hq_l
              clear hq_e hq_l
              go_wp2
              go_meet
              case rel => exact ⟨rfl, rfl⟩
          · have hz_e : (e == 0) = false := beq_eq_false_iff_ne.2 hq_e
            clear hq_e
            go_wp2
            go_meet
            case rel => exact ⟨rfl, rfl⟩
        case rest =>
          as_aux_lemma =>
          obtain ⟨rfl, rfl⟩ := hcut
          clear zlf0 zlf1 zrt0 zrt1
          go_upto_region 25 with (fail)
          have za0 := (blk_cell ka 0).trans rfl
          have za1 := (blk_cell ka 1).trans rfl
          go_upto_region 26 with (go_at_call 23; refine (h25.out _).mono ?_; rintro e' w25 ⟨rfl, hb⟩; replace ka := blk_below ka hb; replace kb := blk_below kb hb; replace kc := blk_below kc hb; replace kab := blk_below kab hb; replace kba := blk_below kba hb; replace kp := blk_below kp hb; replace kq := blk_below kq hb; replace kx := blk_below kx hb; replace ky := blk_below ky hb; replace kpc := blk_below kpc hb; replace kbc := blk_below kbc hb; replace kabc := blk_below kabc hb; replace kac := blk_below kac hb; replace klf := blk_below klf hb; replace krt := blk_below krt hb; replace hB := below_go hB hb; clear hb)
          clear za0 za1 h25
          obtain ⟨W25, hW⟩ : ∃ W, W = w25.alloc (.cells #[.int .i64 a0, .int .i64 a1] 23) := ⟨_, rfl⟩
          obtain ⟨gsm, hg_⟩ : ∃ g, g = w25.heap.size := ⟨_, rfl⟩
          replace ka : W25.heap[ga]? = some (.cells #[.int .i64 a0, .int .i64 a1] 23 (0, 0)) := by rw [hW]; exact blk_alloc ka _
          replace kb : W25.heap[gb]? = some (.cells #[.int .i64 b0, .int .i64 b1] 23 (0, 0)) := by rw [hW]; exact blk_alloc kb _
          replace kc : W25.heap[gc]? = some (.cells #[.int .i64 c0, .int .i64 c1] 23 (0, 0)) := by rw [hW]; exact blk_alloc kc _
          replace kab : W25.heap[gab]? = some (.cells #[.int .i64 ab0, .int .i64 ab1] 23 (0, 0)) := by rw [hW]; exact blk_alloc kab _
          replace kba : W25.heap[gba]? = some (.cells #[.int .i64 ab0, .int .i64 ab1] 23 (0, 0)) := by rw [hW]; exact blk_alloc kba _
          replace kp : W25.heap[gp]? = some (.cells #[.int .i64 p0, .int .i64 p1] 23 (0, 0)) := by rw [hW]; exact blk_alloc kp _
          replace kq : W25.heap[gq]? = some (.cells #[.int .i64 p0, .int .i64 p1] 23 (0, 0)) := by rw [hW]; exact blk_alloc kq _
          replace kx : W25.heap[gx]? = some (.cells #[.int .i64 x0, .int .i64 x1] 23 (0, 0)) := by rw [hW]; exact blk_alloc kx _
          replace ky : W25.heap[gy]? = some (.cells #[.int .i64 y0, .int .i64 y1] 23 (0, 0)) := by rw [hW]; exact blk_alloc ky _
          replace kpc : W25.heap[gpc]? = some (.cells #[.int .i64 pc0, .int .i64 pc1] 23 (0, 0)) := by rw [hW]; exact blk_alloc kpc _
          replace kbc : W25.heap[gbc]? = some (.cells #[.int .i64 bc0, .int .i64 bc1] 23 (0, 0)) := by rw [hW]; exact blk_alloc kbc _
          replace kabc : W25.heap[gabc]? = some (.cells #[.int .i64 abc0, .int .i64 abc1] 23 (0, 0)) := by rw [hW]; exact blk_alloc kabc _
          replace kac : W25.heap[gac]? = some (.cells #[.int .i64 ac0, .int .i64 ac1] 23 (0, 0)) := by rw [hW]; exact blk_alloc kac _
          replace klf : W25.heap[glf]? = some (.cells #[.int .i64 lf0, .int .i64 lf1] 23 (0, 0)) := by rw [hW]; exact blk_alloc klf _
          replace krt : W25.heap[grt]? = some (.cells #[.int .i64 rt0, .int .i64 rt1] 23 (0, 0)) := by rw [hW]; exact blk_alloc krt _
          replace hB : Below w.heap.size w W25 := by rw [hW]; exact below_alloc hB _
          have ksm : W25.heap[gsm]? = some (.cells #[.int .i64 a0, .int .i64 a1] 23 (0, 0)) := by rw [hW, hg_]; exact blk_new _ _
          rw [← hW, ← hg_]
          clear hW hg_
          have za0 := (blk_cell ka 0).trans rfl
          have za1 := (blk_cell ka 1).trans rfl
          go_upto_region 27 with (go_at_call 25; refine (h26.out _).mono ?_; rintro e' w26 ⟨rfl, hb⟩; replace ka := blk_below ka hb; replace kb := blk_below kb hb; replace kc := blk_below kc hb; replace kab := blk_below kab hb; replace kba := blk_below kba hb; replace kp := blk_below kp hb; replace kq := blk_below kq hb; replace kx := blk_below kx hb; replace ky := blk_below ky hb; replace kpc := blk_below kpc hb; replace kbc := blk_below kbc hb; replace kabc := blk_below kabc hb; replace kac := blk_below kac hb; replace klf := blk_below klf hb; replace krt := blk_below krt hb; replace ksm := blk_below ksm hb; replace hB := below_go hB hb; clear hb)
          clear za0 za1 h26
          obtain ⟨W26, hW⟩ : ∃ W, W = w26.alloc (.cells #[.int .i64 a0, .int .i64 a1] 23) := ⟨_, rfl⟩
          obtain ⟨gow, hg_⟩ : ∃ g, g = w26.heap.size := ⟨_, rfl⟩
          replace ka : W26.heap[ga]? = some (.cells #[.int .i64 a0, .int .i64 a1] 23 (0, 0)) := by rw [hW]; exact blk_alloc ka _
          replace kb : W26.heap[gb]? = some (.cells #[.int .i64 b0, .int .i64 b1] 23 (0, 0)) := by rw [hW]; exact blk_alloc kb _
          replace kc : W26.heap[gc]? = some (.cells #[.int .i64 c0, .int .i64 c1] 23 (0, 0)) := by rw [hW]; exact blk_alloc kc _
          replace kab : W26.heap[gab]? = some (.cells #[.int .i64 ab0, .int .i64 ab1] 23 (0, 0)) := by rw [hW]; exact blk_alloc kab _
          replace kba : W26.heap[gba]? = some (.cells #[.int .i64 ab0, .int .i64 ab1] 23 (0, 0)) := by rw [hW]; exact blk_alloc kba _
          replace kp : W26.heap[gp]? = some (.cells #[.int .i64 p0, .int .i64 p1] 23 (0, 0)) := by rw [hW]; exact blk_alloc kp _
          replace kq : W26.heap[gq]? = some (.cells #[.int .i64 p0, .int .i64 p1] 23 (0, 0)) := by rw [hW]; exact blk_alloc kq _
          replace kx : W26.heap[gx]? = some (.cells #[.int .i64 x0, .int .i64 x1] 23 (0, 0)) := by rw [hW]; exact blk_alloc kx _
          replace ky : W26.heap[gy]? = some (.cells #[.int .i64 y0, .int .i64 y1] 23 (0, 0)) := by rw [hW]; exact blk_alloc ky _
          replace kpc : W26.heap[gpc]? = some (.cells #[.int .i64 pc0, .int .i64 pc1] 23 (0, 0)) := by rw [hW]; exact blk_alloc kpc _
          replace kbc : W26.heap[gbc]? = some (.cells #[.int .i64 bc0, .int .i64 bc1] 23 (0, 0)) := by rw [hW]; exact blk_alloc kbc _
          replace kabc : W26.heap[gabc]? = some (.cells #[.int .i64 abc0, .int .i64 abc1] 23 (0, 0)) := by rw [hW]; exact blk_alloc kabc _
          replace kac : W26.heap[gac]? = some (.cells #[.int .i64 ac0, .int .i64 ac1] 23 (0, 0)) := by rw [hW]; exact blk_alloc kac _
          replace klf : W26.heap[glf]? = some (.cells #[.int .i64 lf0, .int .i64 lf1] 23 (0, 0)) := by rw [hW]; exact blk_alloc klf _
          replace krt : W26.heap[grt]? = some (.cells #[.int .i64 rt0, .int .i64 rt1] 23 (0, 0)) := by rw [hW]; exact blk_alloc krt _
          replace ksm : W26.heap[gsm]? = some (.cells #[.int .i64 a0, .int .i64 a1] 23 (0, 0)) := by rw [hW]; exact blk_alloc ksm _
          replace hB : Below w.heap.size w W26 := by rw [hW]; exact below_alloc hB _
          have kow : W26.heap[gow]? = some (.cells #[.int .i64 a0, .int .i64 a1] 23 (0, 0)) := by rw [hW, hg_]; exact blk_new _ _
          rw [← hW, ← hg_]
          clear hW hg_
          have za0 := (blk_cell ka 0).trans rfl
          have za1 := (blk_cell ka 1).trans rfl
          have zsm0 := (blk_cell ksm 0).trans rfl
          have zsm1 := (blk_cell ksm 1).trans rfl
          have zow0 := (blk_cell kow 0).trans rfl
          have zow1 := (blk_cell kow 1).trans rfl
          go_wp2
          go_ret
          exact ⟨rfl, hB⟩
end Go.Proofs.Ytgoicalffgehoaa.P
