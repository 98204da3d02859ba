/- The contract of average.Counted (two maps, function values in an array, a list that grows). Condition: less than 3518437208883 attempts. -/
import Derived.Test.YtgoicalffgehoaaEMap
import Derived.StillTailTactics
import Derived.Deep.DeepCutAuto
import Derived.Deep.QuietTactic
namespace Go.Proofs.Ytgoicalffgehoaa.P
open Go.RowKit Go.Shelf Go.Proofs.YtgoicalffgehoaaW.PrintWords
open Go.Proofs.Ytgoicalffgehoaa

theorem zero3 (w : World) : (zeroValue 3).run Try.prog w = .ok (.int .i64 0) w := by kernel_rfl
theorem key3 : Maps.Keyed Try.prog 3 := Maps.int_keyed Try.underlying3

/-- What the first loop keeps. -/
def In1 (w : World) (B : Nat) (l0 : List S39) (l1 : List Int) (k : Nat) (wr : World) : Prop :=
  Below w.heap.size w wr ∧ wr.heap[B]? = some oK ∧ MapIs wr (B + 1) k (ofA l0 l1 k) ∧ MapIs wr (B + 1 + 1) k (cntA l0 l1 k) ∧ Aside0 (goodA l0 l1 k = true)

theorem vA_key {x : S39} (h : vA x = true) : Go.keyOf Try.prog 3 (.int .i64 x.f0) = some (.int .i64 x.f0) := by
  unfold vA at h
  simp only [Bool.and_eq_true, decide_eq_true_eq] at h
  obtain ⟨⟨h1, h2⟩, _⟩ := h
  exact Maps.keyOf_int_mk Try.underlying3 (WalkArith.wf_i64 ⟨by omega, by omega⟩)

theorem all_at {l : List S39} (h : allV l = true) {k : Nat} (hk : k < l.length) : vA (rd_T39 l (k : Int)) = true := by
  unfold allV at h
  refine List.all_eq_true.1 h _ ?_
  simp [rd_T39, hk]

theorem good_of {l0 : List S39} {l1 : List Int} {k n : Nat} (hk : k < n) (hf : fitsR (rd l1 (k : Int)) (ofA l0 l1 k (rd_T39 l0 (k : Int)).f0) = false) : goodA l0 l1 n = false := by
  rcases hg : goodA l0 l1 n with _ | _
  · rfl
  · have := goodA_mono l0 l1 (k := k + 1) (by omega) hg
    unfold goodA at this
    rw [hf, Bool.and_false] at this
    cases this

theorem cnt_same {l0 : List S39} {l1 : List Int} {k : Nat} (h : takes l0 (rd l1 (k : Int)) (rd_T39 l0 (k : Int)) (cntA l0 l1 k (rd_T39 l0 (k : Int)).f0) = false) : cntA l0 l1 (k + 1) = cntA l0 l1 k := by
  conv => lhs; unfold cntA
  rw [h]
  exact if_neg Bool.false_ne_true
theorem cnt_new {l0 : List S39} {l1 : List Int} {k : Nat} (h : takes l0 (rd l1 (k : Int)) (rd_T39 l0 (k : Int)) (cntA l0 l1 k (rd_T39 l0 (k : Int)).f0) = true) : cntA l0 l1 (k + 1) = updM (cntA l0 l1 k) (rd_T39 l0 (k : Int)).f0 (k : Int) := by
  conv => lhs; unfold cntA
  rw [h]
  exact if_pos rfl
theorem good_next {l0 : List S39} {l1 : List Int} {k : Nat} (h1 : goodA l0 l1 k = true) (h2 : fitsR (rd l1 (k : Int)) (ofA l0 l1 k (rd_T39 l0 (k : Int)).f0) = true) : Aside0 (goodA l0 l1 (k + 1) = true) := ⟨by unfold goodA; rw [h1, h2]; rfl⟩
theorem MapIs.mono {W : World} {b n n' : Nat} {g} (h : MapIs W b n g) (hn : n ≤ n') : MapIs W b n' g := by
  obtain ⟨D, h1, r⟩ := h
  exact ⟨D, h1.mono hn, r⟩

theorem lit_cell {W : World} {a : Addr} {v : Option Value} (h : W.cell? a = v) : ∀ d, ({ heap := W.heap, tape := W.tape, drawn := d, os := W.os, output := W.output } : World).cell? a = v := fun _ => h

theorem map_ne {W : World} {base b n : Nat} {g} {ok : Nat → Prop} {v : Value} {xs : List S39} (hr : Kd.R k39 39 W base ok v xs) (hm : MapIs W b n g) : some b ≠ v.ownBlock := fun he => by
  obtain ⟨cs, hc⟩ := Kd.R_typed hr b he.symm
  obtain ⟨es, c, hb⟩ := hm.is_map
  rw [hc] at hb
  cases hb

theorem grown_of_b {w w' : World} (h : Below w.heap.size w w') : w.grownBy w' none := ⟨h.os, h.tape, h.output, h.size, fun k hk _ => h.block k hk⟩

theorem at_lit {D : DataW Unit} {x u c : Int} (h1 : D.atKey (.int .i64 x) (.lit (.int .i64 0)) = .lit (.int .i64 c)) (h2 : D.atKey (.int .i64 x) (.lit (.int .i64 0)) = .lit (.int .i64 u)) : c = u := by
  rw [h1] at h2
  injection h2 with h2
  injection h2

def Post42 (w : World) (l0 : List S39) (l1 : List Int) (e : Ending) (w' : World) : Prop :=
  ∃ v0_ : Value, e = .returned (.tuple #[v0_, .int .i64 (if goodA l0 l1 l0.length then 0 else 1)]) ∧ Kd.R k39 39 w' w.heap.size (fun _ => True) v0_ (if goodA l0 l1 l0.length then selA l0 l1 l0.length else []) ∧ Below w.heap.size w w'

theorem post_bad {w w' : World} {l0 : List S39} {l1 : List Int} (h : goodA l0 l1 l0.length = false) (hb : Below w.heap.size w w') : Post42 w l0 l1 (.returned (.tuple #[.slice none 0 0, .int .i64 1])) w' := by
  unfold Post42
  rw [h]
  exact ⟨_, rfl, Kd.R_nil _ _ _ _ _, hb⟩

theorem post_good {w w' : World} {l0 : List S39} {l1 : List Int} {v : Value} (h : goodA l0 l1 l0.length = true) (hr : Kd.R k39 39 w' w.heap.size (fun _ => True) v (selA l0 l1 l0.length)) (hb : Below w.heap.size w w') : Post42 w l0 l1 (.returned (.tuple #[v, .int .i64 0])) w' := by
  unfold Post42
  rw [h]
  exact ⟨_, rfl, hr, hb⟩

set_option maxRecDepth 100000 in
set_option maxHeartbeats 4000000 in
theorem counted_any (A0 : Option Addr) (c0 : Nat) (l0 : List S39) (A1 : Option Addr) (c1 : Nat) (l1 : List Int) (w : World) (hr0 : Kd.C k39 w A0 l0.length l0) (hr1 : Kd.C (Kd.int .i64) w A1 l1.length l1)
    (hv : allV l0 = true) (hl : l1.length = l0.length) (hn : l0.length < 3518437208883) :
    Calls Try.prog 42 #[.slice A0 l0.length c0, .slice A1 l1.length c1] w (Post42 w l0 l1) := by
  have hc := check_any A0 c0 l0 w hr0
  rw [chk_v hv] at hc
  have hmm := @run_makeMap Try.prog
  have hu39 := Try.underlying39
  have HR0 := Aside0.mk hr0
  have HR1 := Aside0.mk hr1
  have HV := Aside0.mk hv
  have HL := Aside0.mk hl
  clear hr0 hr1 hv
  have hlb : (l1.length == l0.length) = true := by simp [hl]
  have hlc : ((l1.length : Int) == (l0.length : Int)) = true := by simp [hl]
  have hld : ((l1.length : Int) != (l0.length : Int)) = false := by simp [hl]
  clear hl
  go_enter Try.func42, Try.ntmps42
  go_wp2_with (first
    | (go_at_call 60; refine hc.mono ?_; rintro e w1 ⟨rfl, hb1⟩)
    | (go_at_call 63; refine (kinds_any _).mono ?_; rintro e w2 ⟨rfl, hb2⟩))
  have hB2 : Below w.heap.size w w2 := below_go hb1 hb2
  have hsz : w.heap.size ≤ w2.heap.size := hB2.size
  go_loopw [34, 4] (fun i v4 wr => ∃ k : Nat, k ≤ l0.length ∧ i = .int .i64 k ∧ v4 = .slice none 0 0 ∧ In1 w w2.heap.size l0 l1 k wr) (fun i _ _ => l0.length - (intOf i).toNat)
  case atStart =>
    refine ⟨0, Nat.zero_le _, rfl, rfl, below_alloc (below_alloc (below_alloc hB2 _) _) _, blk_alloc (blk_alloc (blk_new _ _) _) _, ?_, ?_, ⟨rfl⟩⟩
    · have := MapIs.made (w2.alloc oK)
      simp only [World.size_alloc] at this
      exact this.below (below_alloc (Below.refl _ _) _)
    · have := MapIs.made ((w2.alloc oK).alloc (.map #[] 0))
      simp only [World.size_alloc] at this
      exact this
  case round =>
    obtain ⟨k, hk, rfl, rfl, hIn⟩ := hrel
    by_cases hlt : k < l0.length
    · obtain ⟨hBr, hK, ⟨D1, ho1, hm1, hh1, ha1⟩, hC, hG⟩ := hIn
      obtain ⟨ad, e, x0, x1, x2, x3, x4⟩ := at_T39 HR0.out (k : Int) (by omega) (by omega)
      cases e
      replace x0 := pw_cell_below hBr x0
      replace x1 := pw_cell_below hBr x1
      replace x2 := pw_cell_below hBr x2
      replace x3 := pw_cell_below hBr x3
      replace x4 := pw_cell_below hBr x4
      simp only [Int.toNat_natCast] at x0 x1 x2 x3 x4
      obtain ⟨ad1, e, y0⟩ := Kd.at_int HR1.out (k : Int) (by omega) (by rw [HL.out]; omega)
      cases e
      simp only [Int.toNat_natCast] at y0
      have Hy := Aside0.mk y0
      replace y0 := pw_cell_below hBr y0
      have y1 : ∀ o, (wr.alloc o).cell? (ad1.add k) = some (.int .i64 (rd l1 (k : Int))) := fun o => pw_cell_below (below_alloc (Below.refl _ _) o) y0
      have hlt1 : k < l1.length := by rw [HL.out]; exact hlt
      have hkey := vA_key (all_at HV.out hlt)
      rcases hf : fitsR (rd l1 (k : Int)) (ofA l0 l1 k (rd_T39 l0 (k : Int)).f0) with _ | _
      · have hgf := Aside0.mk (good_of hlt hf)
        by_cases hr : 0 ≤ rd l1 (k : Int) ∧ rd l1 (k : Int) ≤ 2
        · have hw := fun W => within_any (rd l1 (k : Int)) 0 2 W
          rw [decide_eq_true hr] at hw
          unfold fitsR at hf
          rw [decide_eq_true hr, Bool.true_and] at hf
          rcases hg : ofA l0 l1 k (rd_T39 l0 (k : Int)).f0 with _ | v
          · rw [hg] at hf; cases hf
          · rw [hg] at hf
            have hvr : v ≠ rd l1 (k : Int) := of_decide_eq_false hf
            have hvb : (v != rd l1 (k : Int)) = true := bne_iff_ne.2 hvr
            have hvc : (v == rd l1 (k : Int)) = false := beq_eq_false_iff_ne.2 hvr
            have hA := Aside0.mk (ha1 _ _ hg)
            have hh := hh1 (rd_T39 l0 (k : Int)).f0
            rw [hg] at hh
            clear hr hf hvr hg ha1 hh1
            go_wp2_with (first
              | (at_lookup; refine wpList_lookup_own_ok_int _ rfl _ _ 85 rfl 3 3 .i64 key3 Try.underlying85 Try.underlying3 (zero3 _) (w2.heap.size + 1) k D1 rfl (ho1.alloc _) _ _ rfl hkey ?_; intro c hat hwc; obtain rfl := at_lit hat hA.out; clear hat; rw [hh]; simp only [Option.isSome_some])
              | (go_at_call 59; refine (hw _).mono ?_; rintro e w3 ⟨rfl, rfl⟩))
            go_ret2
            exact post_bad hgf.out (below_alloc hBr _)
        · have hw := fun W => within_any (rd l1 (k : Int)) 0 2 W
          rw [decide_eq_false hr] at hw
          clear hr
          go_wp2_with (first
            | (at_lookup; refine wpList_lookup_own_ok_int _ rfl _ _ 85 rfl 3 3 .i64 key3 Try.underlying85 Try.underlying3 (zero3 _) (w2.heap.size + 1) k D1 rfl (ho1.alloc _) _ _ rfl hkey ?_; intro c hat hwc)
            | (go_at_call 59; refine (hw _).mono ?_; rintro e w3 ⟨rfl, rfl⟩))
          go_ret2
          exact post_bad hgf.out (below_alloc hBr _)
      · have hr : 0 ≤ rd l1 (k : Int) ∧ rd l1 (k : Int) ≤ 2 := by
          unfold fitsR at hf
          rw [Bool.and_eq_true] at hf
          exact of_decide_eq_true hf.1
        have hO : ofA l0 l1 k (rd_T39 l0 (k : Int)).f0 = none ∨ ofA l0 l1 k (rd_T39 l0 (k : Int)).f0 = some (rd l1 (k : Int)) := by
          unfold fitsR at hf
          rw [decide_eq_true hr, Bool.true_and] at hf
          rcases hg : ofA l0 l1 k (rd_T39 l0 (k : Int)).f0 with _ | v
          · exact .inl rfl
          · rw [hg] at hf
            have hf := of_decide_eq_true hf
            exact .inr (by rw [hf])
        have HF := Aside0.mk hf
        have HRR := Aside0.mk hr
        have hh := hh1 (rd_T39 l0 (k : Int)).f0
        have HA := Aside0.mk (ha1 (rd_T39 l0 (k : Int)).f0)
        have HO := Aside0.mk hO
        clear hf hr hO
        go_upto_region 12 with (at_lookup; refine wpList_lookup_own_ok_int _ rfl _ _ 85 rfl 3 3 .i64 key3 Try.underlying85 Try.underlying3 (zero3 _) (w2.heap.size + 1) k D1 rfl (ho1.alloc _) _ _ rfl hkey ?_; intro c hat hwc; rw [hh]; have HT := Aside0.mk hat; clear hat)
        go_cut [11, 12, 62] (fun v11 v12 v62 wc => v62 = .bool false ∧ wc = wr.alloc (.cells #[.int .i64 (rd_T39 l0 (k : Int)).f0, .int .i64 (rd_T39 l0 (k : Int)).f1, .int .i64 (rd_T39 l0 (k : Int)).f2, .int .i64 (rd_T39 l0 (k : Int)).f3, .int .i64 (rd_T39 l0 (k : Int)).f4] 39))
        case first =>
          have hw := fun W => within_any (rd l1 (k : Int)) 0 2 W
          rw [decide_eq_true HRR.out] at hw
          rcases HO.out with hO | hO
          · rw [hO]
            clear hh1 ha1 hh
            simp only [Option.isSome_none]
            go_wp2_with (go_at_call 59; refine (hw _).mono ?_; rintro e w3 ⟨rfl, rfl⟩)
            go_meet
            case rel => exact ⟨rfl, rfl⟩
          · rw [hO]
            obtain rfl := at_lit HT.out (HA.out _ hO)
            clear hh1 ha1 hh
            simp only [Option.isSome_some]
            go_wp2_with (go_at_call 59; refine (hw _).mono ?_; rintro e w3 ⟨rfl, rfl⟩)
            go_meet
            case rel => exact ⟨rfl, rfl⟩
        case rest =>
          obtain ⟨rfl, rfl⟩ := hcut
          go_upto_region 14 with (fail)
          have bA := blk_new wr (.cells #[.int .i64 (rd_T39 l0 (k : Int)).f0, .int .i64 (rd_T39 l0 (k : Int)).f1, .int .i64 (rd_T39 l0 (k : Int)).f2, .int .i64 (rd_T39 l0 (k : Int)).f3, .int .i64 (rd_T39 l0 (k : Int)).f4] 39)
          have hB1 : Below wr.heap.size wr (wr.alloc (.cells #[.int .i64 (rd_T39 l0 (k : Int)).f0, .int .i64 (rd_T39 l0 (k : Int)).f1, .int .i64 (rd_T39 l0 (k : Int)).f2, .int .i64 (rd_T39 l0 (k : Int)).f3, .int .i64 (rd_T39 l0 (k : Int)).f4] 39)) := below_alloc (Below.refl _ _) _
          generalize wr.alloc (.cells #[.int .i64 (rd_T39 l0 (k : Int)).f0, .int .i64 (rd_T39 l0 (k : Int)).f1, .int .i64 (rd_T39 l0 (k : Int)).f2, .int .i64 (rd_T39 l0 (k : Int)).f3, .int .i64 (rd_T39 l0 (k : Int)).f4] 39) = W1 at *
          replace ho1 := ho1.kept (grown_of_b hB1) (fun h => by cases h)
          have z0 : ∀ d, ({ heap := W1.heap, tape := W1.tape, drawn := d, os := W1.os, output := W1.output } : World).cell? ⟨wr.heap.size, 0, none⟩ = some (.int .i64 (rd_T39 l0 (k : Int)).f0) := fun d => (blk_cell (w := { heap := W1.heap, tape := W1.tape, drawn := d, os := W1.os, output := W1.output }) bA 0).trans rfl
          have z1 : ∀ d, ({ heap := W1.heap, tape := W1.tape, drawn := d, os := W1.os, output := W1.output } : World).cell? (ad1.add k) = some (.int .i64 (rd l1 (k : Int))) := fun d => pw_cell_below (w1 := { heap := W1.heap, tape := W1.tape, drawn := d, os := W1.os, output := W1.output }) ⟨hB1.os, hB1.tape, hB1.output, hB1.size, hB1.block⟩ y0
          have hwr : (Lit.int .i64 (rd l1 (k : Int))).wf = true := WalkArith.wf_i64 (by have := HRR.out; omega)
          go_still_tail 7, (by kernel_rfl)
          go_upto_region 15 with (at_mapUpdate; refine wpList_mapUpdate_own _ rfl _ _ _ 85 rfl 3 3 key3 Try.underlying85 _ (w2.heap.size + 1) k _ rfl ho1.drew (by unfold maxLen; omega) _ _ _ rfl rfl hkey _ [] (plainElem_int Try.underlying3 hwr) ?_; intro W2 hown2 hgrow2)
          have hlo := ho1.lt
          obtain ⟨esC, cC, hbC⟩ := hC.is_map
          have hltC := blk_lt hbC
          have hltK := blk_lt hK
          have hsz1 := hB1.size
          have hlt1' : w2.heap.size + 1 < wr.heap.size := by omega
          have hB3 : Below w.heap.size w W2 := (below_drew (below_go hBr hB1)).grown (w := W1.drew) hgrow2 (by have := hBr.size; show w.heap.size ≤ W1.heap.size; omega) (fun j hj => by injection hj with hj; omega)
          have bA2 : W2.heap[wr.heap.size]? = _ := (hgrow2.block wr.heap.size (blk_lt bA) (fun h => by injection h with h; omega)).trans bA
          have hK2 : W2.heap[w2.heap.size]? = _ := (hgrow2.block w2.heap.size (blk_lt (blk_below (w1 := W1) hK hB1)) (fun h => by injection h with h; omega)).trans (blk_below (w1 := W1) hK hB1)
          have hC2 : MapIs W2 (w2.heap.size + 1 + 1) k (cntA l0 l1 k) := MapIs.grown (W := W1.drew) ((hC.below hB1).below (below_drew (Below.refl _ _))) hgrow2 (fun h => by injection h with h; omega)
          have hO2 : MapIs W2 (w2.heap.size + 1) (k + 1) (ofA l0 l1 (k + 1)) := MapIs.put hm1 hh1 ha1 hown2
          clear z0 z1 bA hC hbC hltC hltK hgrow2 hown2 ho1 hh hh1 ha1 HA HT hm1 hwc
          obtain ⟨D2, ho2, hm2, hh2, ha2⟩ := hC2
          have hh2' := hh2 (rd_T39 l0 (k : Int)).f0
          have zA0 := (blk_cell bA2 0).trans rfl
          have zA1 := (blk_cell bA2 1).trans rfl
          have zA2 := (blk_cell bA2 2).trans rfl
          have zA3 := (blk_cell bA2 3).trans rfl
          have zA4 := (blk_cell bA2 4).trans rfl
          have zK0 := (blk_cell hK2 0).trans rfl
          have zK1 := (blk_cell hK2 1).trans rfl
          have zK2 := (blk_cell hK2 2).trans rfl
          have zK3 := (blk_cell hK2 3).trans rfl
          have zK4 := (blk_cell hK2 4).trans rfl
          have zK5 := (blk_cell hK2 5).trans rfl
          replace y0 := pw_cell_below hB3 Hy.out
          have hr3 : rd l1 (k : Int) = 0 ∨ rd l1 (k : Int) = 1 ∨ rd l1 (k : Int) = 2 := by have := HRR.out; omega
          clear y1 x0 x1 x2 x3 x4
          have hwk : (Lit.int .i64 (k : Int)).wf = true := WalkArith.wf_i64 (by omega)
          rcases hr3 with h3 | h3 | h3
          · rw [h3] at y0
            rcases hg : cntA l0 l1 k (rd_T39 l0 (k : Int)).f0 with _ | t
            · rw [hg] at hh2'
              simp only [Option.isSome_none] at hh2'
              have e1 : cntA l0 l1 (k + 1) = updM (cntA l0 l1 k) (rd_T39 l0 (k : Int)).f0 (k : Int) := cnt_new (by unfold takes; rw [h3, hg]; rfl)
              clear hg
              go_upto_region 16 with (at_lookup; refine wpList_lookup_own_ok_int _ rfl _ _ 85 rfl 3 3 .i64 key3 Try.underlying85 Try.underlying3 (zero3 _) (w2.heap.size + 1 + 1) k D2 rfl ho2 _ _ rfl hkey ?_; intro c' hat' hwc'; rw [hh2'])
              go_quiet (fail)
              go_wp2_with (at_mapUpdate; refine wpList_mapUpdate_own _ rfl _ _ _ 85 rfl 3 3 key3 Try.underlying85 _ (w2.heap.size + 1 + 1) k _ rfl (show (W2.drewN nq).ownsMap _ _ _ _ _ _ from ho2) (by unfold maxLen; omega) _ _ _ rfl rfl hkey _ [] (plainElem_int Try.underlying3 hwk) ?_; intro W3 hown3 hgrow3)
              go_roundw
              case rel =>
                refine ⟨k + 1, by omega, by go_num, rfl, (pw_below_drewN hB3 nq).grown hgrow3 hB3.size (fun j hj => by injection hj with hj; omega), (hgrow3.block w2.heap.size (blk_lt hK2) (fun h => by injection h with h; omega)).trans hK2, (hO2.below (pw_below_drewN (Below.refl _ _) nq)).grown hgrow3 (fun h => by injection h with h; omega), ?_, good_next hG.out HF.out⟩
                rw [e1]
                exact MapIs.put hm2 hh2 ha2 hown3
              case measure => simp [intOf]; omega
            · have ht := cntA_lt l0 l1 k _ _ hg
              obtain ⟨t, rfl⟩ : ∃ m : Nat, t = (m : Int) := ⟨t.toNat, by omega⟩
              have htk : t < l0.length := by omega
              rw [hg] at hh2'
              simp only [Option.isSome_some] at hh2'
              have hT2 := Aside0.mk (ha2 _ _ hg)
              obtain ⟨ad2, e, x0, x1, x2, x3, x4⟩ := at_T39 HR0.out (t : Int) (by omega) (by omega)
              cases e
              have lx0 := lit_cell (pw_cell_below hB3 x0)
              have lx1 := lit_cell (pw_cell_below hB3 x1)
              have lx2 := lit_cell (pw_cell_below hB3 x2)
              have lx3 := lit_cell (pw_cell_below hB3 x3)
              have lx4 := lit_cell (pw_cell_below hB3 x4)
              simp only [Int.toNat_natCast] at lx0 lx1 lx2 lx3 lx4
              have ly0 := lit_cell y0
              have lA0 := lit_cell zA0
              have lA1 := lit_cell zA1
              have lA2 := lit_cell zA2
              have lA3 := lit_cell zA3
              have lA4 := lit_cell zA4
              have lK0 := lit_cell zK0
              have lK1 := lit_cell zK1
              have lK2 := lit_cell zK2
              have lK3 := lit_cell zK3
              have lK4 := lit_cell zK4
              have lK5 := lit_cell zK5
              have hq := fun W => better_any (rd_T39 l0 (k : Int)) (rd_T39 l0 (t : Int)) W
              clear x0 x1 x2 x3 x4
              go_upto_region 16 with (at_lookup; refine wpList_lookup_own_ok_int _ rfl _ _ 85 rfl 3 3 .i64 key3 Try.underlying85 Try.underlying3 (zero3 _) (w2.heap.size + 1 + 1) k D2 rfl ho2 _ _ rfl hkey ?_; intro c' hat' hwc'; obtain rfl := at_lit hat' hT2.out; clear hat'; rw [hh2'])
              rcases hb : better (rd_T39 l0 (k : Int)) (rd_T39 l0 (t : Int)) with _ | _
              · rw [hb] at hq
                have e1 : cntA l0 l1 (k + 1) = cntA l0 l1 k := cnt_same (by unfold takes; rw [h3, hg]; exact hb)
                clear hb hg
                go_still_tail 23, (by kernel_rfl)
                go_wp2_with (go_at_call 73; refine (hq _).mono ?_; rintro e w5 ⟨rfl, hb5⟩; have zA5 := pw_cell_below (w := W2) (w1 := w5) ⟨hb5.os, hb5.tape, hb5.output, hb5.size, hb5.block⟩ zA0; have hb6 : Below W2.heap.size W2 w5 := ⟨hb5.os, hb5.tape, hb5.output, hb5.size, hb5.block⟩; have ho5 := ho2.kept (grown_of_b hb6) (fun h => by cases h))
                go_roundw
                case rel =>
                  refine ⟨k + 1, by omega, by go_num, rfl, below_go hB3 hb6, blk_below hK2 hb6, hO2.below hb6, ?_, good_next hG.out HF.out⟩
                  rw [e1]
                  exact MapIs.mono ⟨D2, ho5, hm2, hh2, ha2⟩ (Nat.le_succ k)
                case measure => simp [intOf]; omega
              · rw [hb] at hq
                have e1 : cntA l0 l1 (k + 1) = updM (cntA l0 l1 k) (rd_T39 l0 (k : Int)).f0 (k : Int) := cnt_new (by unfold takes; rw [h3, hg]; exact hb)
                clear hb hg
                go_still_tail 23, (by kernel_rfl)
                go_wp2_with (first
                  | (go_at_call 73; refine (hq _).mono ?_; rintro e w5 ⟨rfl, hb5⟩; have zA5 := pw_cell_below (w := W2) (w1 := w5) ⟨hb5.os, hb5.tape, hb5.output, hb5.size, hb5.block⟩ zA0; have hb6 : Below W2.heap.size W2 w5 := ⟨hb5.os, hb5.tape, hb5.output, hb5.size, hb5.block⟩; have ho5 := ho2.kept (grown_of_b hb6) (fun h => by cases h))
                  | (at_mapUpdate; refine wpList_mapUpdate_own _ rfl _ _ _ 85 rfl 3 3 key3 Try.underlying85 _ (w2.heap.size + 1 + 1) k _ rfl ho5 (by unfold maxLen; omega) _ _ _ rfl rfl hkey _ [] (plainElem_int Try.underlying3 hwk) ?_; intro W3 hown3 hgrow3))
                go_roundw
                case rel =>
                  refine ⟨k + 1, by omega, by go_num, rfl, (below_go hB3 hb6).grown hgrow3 (below_go hB3 hb6).size (fun j hj => by injection hj with hj; omega), (hgrow3.block w2.heap.size (blk_lt (blk_below hK2 hb6)) (fun h => by injection h with h; omega)).trans (blk_below hK2 hb6), (hO2.below hb6).grown hgrow3 (fun h => by injection h with h; omega), ?_, good_next hG.out HF.out⟩
                  rw [e1]
                  exact MapIs.put hm2 hh2 ha2 hown3
                case measure => simp [intOf]; omega
          · rw [h3] at y0
            rcases hg : cntA l0 l1 k (rd_T39 l0 (k : Int)).f0 with _ | t
            · rw [hg] at hh2'
              simp only [Option.isSome_none] at hh2'
              have e1 : cntA l0 l1 (k + 1) = updM (cntA l0 l1 k) (rd_T39 l0 (k : Int)).f0 (k : Int) := cnt_new (by unfold takes; rw [h3, hg]; rfl)
              clear hg
              go_upto_region 16 with (at_lookup; refine wpList_lookup_own_ok_int _ rfl _ _ 85 rfl 3 3 .i64 key3 Try.underlying85 Try.underlying3 (zero3 _) (w2.heap.size + 1 + 1) k D2 rfl ho2 _ _ rfl hkey ?_; intro c' hat' hwc'; rw [hh2'])
              go_quiet (fail)
              go_wp2_with (at_mapUpdate; refine wpList_mapUpdate_own _ rfl _ _ _ 85 rfl 3 3 key3 Try.underlying85 _ (w2.heap.size + 1 + 1) k _ rfl (show (W2.drewN nq).ownsMap _ _ _ _ _ _ from ho2) (by unfold maxLen; omega) _ _ _ rfl rfl hkey _ [] (plainElem_int Try.underlying3 hwk) ?_; intro W3 hown3 hgrow3)
              go_roundw
              case rel =>
                refine ⟨k + 1, by omega, by go_num, rfl, (pw_below_drewN hB3 nq).grown hgrow3 hB3.size (fun j hj => by injection hj with hj; omega), (hgrow3.block w2.heap.size (blk_lt hK2) (fun h => by injection h with h; omega)).trans hK2, (hO2.below (pw_below_drewN (Below.refl _ _) nq)).grown hgrow3 (fun h => by injection h with h; omega), ?_, good_next hG.out HF.out⟩
                rw [e1]
                exact MapIs.put hm2 hh2 ha2 hown3
              case measure => simp [intOf]; omega
            · have ht := cntA_lt l0 l1 k _ _ hg
              obtain ⟨t, rfl⟩ : ∃ m : Nat, t = (m : Int) := ⟨t.toNat, by omega⟩
              have htk : t < l0.length := by omega
              rw [hg] at hh2'
              simp only [Option.isSome_some] at hh2'
              have hT2 := Aside0.mk (ha2 _ _ hg)
              obtain ⟨ad2, e, x0, x1, x2, x3, x4⟩ := at_T39 HR0.out (t : Int) (by omega) (by omega)
              cases e
              have lx0 := lit_cell (pw_cell_below hB3 x0)
              have lx1 := lit_cell (pw_cell_below hB3 x1)
              have lx2 := lit_cell (pw_cell_below hB3 x2)
              have lx3 := lit_cell (pw_cell_below hB3 x3)
              have lx4 := lit_cell (pw_cell_below hB3 x4)
              simp only [Int.toNat_natCast] at lx0 lx1 lx2 lx3 lx4
              have ly0 := lit_cell y0
              have lA0 := lit_cell zA0
              have lA1 := lit_cell zA1
              have lA2 := lit_cell zA2
              have lA3 := lit_cell zA3
              have lA4 := lit_cell zA4
              have lK0 := lit_cell zK0
              have lK1 := lit_cell zK1
              have lK2 := lit_cell zK2
              have lK3 := lit_cell zK3
              have lK4 := lit_cell zK4
              have lK5 := lit_cell zK5
              have hq := fun W => later_any (rd_T39 l0 (k : Int)) (rd_T39 l0 (t : Int)) W
              clear x0 x1 x2 x3 x4
              go_upto_region 16 with (at_lookup; refine wpList_lookup_own_ok_int _ rfl _ _ 85 rfl 3 3 .i64 key3 Try.underlying85 Try.underlying3 (zero3 _) (w2.heap.size + 1 + 1) k D2 rfl ho2 _ _ rfl hkey ?_; intro c' hat' hwc'; obtain rfl := at_lit hat' hT2.out; clear hat'; rw [hh2'])
              rcases hb : later (rd_T39 l0 (k : Int)) (rd_T39 l0 (t : Int)) with _ | _
              · rw [hb] at hq
                have e1 : cntA l0 l1 (k + 1) = cntA l0 l1 k := cnt_same (by unfold takes; rw [h3, hg]; exact hb)
                clear hb hg
                go_still_tail 23, (by kernel_rfl)
                go_wp2_with (go_at_call 74; refine (hq _).mono ?_; rintro e w5 ⟨rfl, hb5⟩; have zA5 := pw_cell_below (w := W2) (w1 := w5) ⟨hb5.os, hb5.tape, hb5.output, hb5.size, hb5.block⟩ zA0; have hb6 : Below W2.heap.size W2 w5 := ⟨hb5.os, hb5.tape, hb5.output, hb5.size, hb5.block⟩; have ho5 := ho2.kept (grown_of_b hb6) (fun h => by cases h))
                go_roundw
                case rel =>
                  refine ⟨k + 1, by omega, by go_num, rfl, below_go hB3 hb6, blk_below hK2 hb6, hO2.below hb6, ?_, good_next hG.out HF.out⟩
                  rw [e1]
                  exact MapIs.mono ⟨D2, ho5, hm2, hh2, ha2⟩ (Nat.le_succ k)
                case measure => simp [intOf]; omega
              · rw [hb] at hq
                have e1 : cntA l0 l1 (k + 1) = updM (cntA l0 l1 k) (rd_T39 l0 (k : Int)).f0 (k : Int) := cnt_new (by unfold takes; rw [h3, hg]; exact hb)
                clear hb hg
                go_still_tail 23, (by kernel_rfl)
                go_wp2_with (first
                  | (go_at_call 74; refine (hq _).mono ?_; rintro e w5 ⟨rfl, hb5⟩; have zA5 := pw_cell_below (w := W2) (w1 := w5) ⟨hb5.os, hb5.tape, hb5.output, hb5.size, hb5.block⟩ zA0; have hb6 : Below W2.heap.size W2 w5 := ⟨hb5.os, hb5.tape, hb5.output, hb5.size, hb5.block⟩; have ho5 := ho2.kept (grown_of_b hb6) (fun h => by cases h))
                  | (at_mapUpdate; refine wpList_mapUpdate_own _ rfl _ _ _ 85 rfl 3 3 key3 Try.underlying85 _ (w2.heap.size + 1 + 1) k _ rfl ho5 (by unfold maxLen; omega) _ _ _ rfl rfl hkey _ [] (plainElem_int Try.underlying3 hwk) ?_; intro W3 hown3 hgrow3))
                go_roundw
                case rel =>
                  refine ⟨k + 1, by omega, by go_num, rfl, (below_go hB3 hb6).grown hgrow3 (below_go hB3 hb6).size (fun j hj => by injection hj with hj; omega), (hgrow3.block w2.heap.size (blk_lt (blk_below hK2 hb6)) (fun h => by injection h with h; omega)).trans (blk_below hK2 hb6), (hO2.below hb6).grown hgrow3 (fun h => by injection h with h; omega), ?_, good_next hG.out HF.out⟩
                  rw [e1]
                  exact MapIs.put hm2 hh2 ha2 hown3
                case measure => simp [intOf]; omega
          · rw [h3] at y0
            have e1 : cntA l0 l1 (k + 1) = cntA l0 l1 k := by
              exact cnt_same (by unfold takes; rw [if_pos h3])
            go_upto_region 16 with (at_lookup; refine wpList_lookup_own_ok_int _ rfl _ _ 85 rfl 3 3 .i64 key3 Try.underlying85 Try.underlying3 (zero3 _) (w2.heap.size + 1 + 1) k D2 rfl ho2 _ _ rfl hkey ?_; intro c' hat' hwc')
            go_quiet (fail)
            go_wp2
            go_roundw
            case rel =>
              refine ⟨k + 1, by omega, by go_num, rfl, pw_below_drewN hB3 _, hK2, hO2.below (pw_below_drewN (Below.refl _ _) _), ?_, good_next hG.out HF.out⟩
              rw [e1]
              exact (MapIs.mono ⟨D2, ho2, hm2, hh2, ha2⟩ (Nat.le_succ k)).below (pw_below_drewN (Below.refl _ _) _)
            case measure => simp [intOf]; omega
    · obtain rfl : k = l0.length := by omega
      obtain ⟨hBr, hK, hO, hC, hG⟩ := hIn
      clear hO hK hk hlt
      go_wp2_with (fail)
      go_loopw [110, 4] (fun i v4 W => ∃ k : Nat, k ≤ l0.length ∧ i = .int .i64 k ∧ Below w.heap.size w W ∧ MapIs W (w2.heap.size + 1 + 1) l0.length (cntA l0 l1 l0.length) ∧ Kd.R k39 39 W w.heap.size (fun _ => True) v4 (selA l0 l1 k)) (fun i _ _ => l0.length - (intOf i).toNat)
      case atStart => exact ⟨0, Nat.zero_le _, rfl, hBr, hC, Kd.R_nil _ _ _ _ _⟩
      case round =>
        obtain ⟨k, hk, rfl, hB4, hC4, hR4⟩ := hrel
        by_cases hlt : k < l0.length
        · obtain ⟨D2, ho2, hm2, hh2, ha2⟩ := hC4
          obtain ⟨ad, e, x0, x1, x2, x3, x4⟩ := at_T39 HR0.out (k : Int) (by omega) (by omega)
          cases e
          replace x0 := pw_cell_below hB4 x0
          replace x1 := pw_cell_below hB4 x1
          replace x2 := pw_cell_below hB4 x2
          replace x3 := pw_cell_below hB4 x3
          replace x4 := pw_cell_below hB4 x4
          simp only [Int.toNat_natCast] at x0 x1 x2 x3 x4
          have hkey := vA_key (all_at HV.out hlt)
          have hh2' := hh2 (rd_T39 l0 (k : Int)).f0
          have hlen := selA_length l0 l1 k
          have HR4 := Aside0.mk hR4
          have HB4 := Aside0.mk hB4
          have HS := Aside0.mk (show selA l0 l1 (k + 1) = if keepsA (cntA l0 l1 l0.length (rd_T39 l0 (k : Int)).f0) k then selA l0 l1 k ++ [rd_T39 l0 (k : Int)] else selA l0 l1 k from rfl)
          clear hR4
          rcases hg : cntA l0 l1 l0.length (rd_T39 l0 (k : Int)).f0 with _ | t
          · rw [hg] at hh2' HS
            simp only [Option.isSome_none] at hh2'
            have HS2 := Aside0.mk (HS.out.trans (if_pos rfl))
            clear hg HS
            go_wp2_with (first
              | (at_lookup; refine wpList_lookup_own_ok_int _ rfl _ _ 85 rfl 3 3 .i64 key3 Try.underlying85 Try.underlying3 (zero3 _) (w2.heap.size + 1 + 1) l0.length D2 rfl (ho2.alloc _) _ _ rfl hkey ?_; intro c' hat' hwc'; rw [hh2'])
              | ((with_reducible refine gate_builtin (b := .append) (xs := #[.tmp 129, .tmp 131]) rfl ?_); at_builtin; refine Kd.R_append k39 (w0 := w) w.heap.size rfl (.tmp 129) (.tmp 131) 37 39 (.agg #[(.int .i64 0), (.int .i64 0), (.int .i64 0), (.int .i64 0), (.int .i64 0)]) 40 rfl Try.underlying37 info39 rfl (by decide) (by omega) u4 (selA l0 l1 k) (rd_T39 l0 (k : Int)) [.int .i64 ((rd_T39 l0 (k : Int)).f0), .int .i64 ((rd_T39 l0 (k : Int)).f1), .int .i64 ((rd_T39 l0 (k : Int)).f2), .int .i64 ((rd_T39 l0 (k : Int)).f3), .int .i64 ((rd_T39 l0 (k : Int)).f4)] (fun _ => True) (fun _ => False) rfl (by show Value.slice (some ⟨wr.heap.size + 1, 0, none⟩) 1 1 = _; simp only [World.size_alloc]) ?aP (fun _ hk => hk.elim) ?aF ?aO ?aB ?aS ?aL ?_; (case aP => exact k39_mkM _ _ _ (rd_T39 l0 (k : Int))); (case aB => exact below_alloc HB4.out _); (case aF => exact (fun _ _ => trivial)); (case aO => exact Kd.R_alloc HR4.out _); (case aS => exact below_size (below_alloc HB4.out _)); (case aL => omega); intro v5 w5 ho5 hb5 hg5 hat5; have Q5 := Aside0.mk ho5; have G5 := Aside0.mk hg5; clear ho5 hg5 hat5))
            go_roundw
            case rel => exact ⟨k + 1, by omega, by go_num, hb5, (MapIs.grown (W := wr.alloc _) (MapIs.below ⟨D2, ho2, hm2, hh2, ha2⟩ (below_alloc (Below.refl _ _) _)) G5.out (map_ne HR4.out ⟨D2, ho2, hm2, hh2, ha2⟩)), by rw [HS2.out]; exact Q5.out⟩
            case measure => simp [intOf]; omega
          · rw [hg] at hh2' HS
            simp only [Option.isSome_some] at hh2'
            have hT2 := Aside0.mk (ha2 _ _ hg)
            by_cases htk : t = (k : Int)
            · have htb : (t == (k : Int)) = true := beq_iff_eq.2 htk
              have HS2 := Aside0.mk (HS.out.trans (if_pos (decide_eq_true htk)))
              clear hg HS htk
              go_wp2_with (first
                | (at_lookup; refine wpList_lookup_own_ok_int _ rfl _ _ 85 rfl 3 3 .i64 key3 Try.underlying85 Try.underlying3 (zero3 _) (w2.heap.size + 1 + 1) l0.length D2 rfl (ho2.alloc _) _ _ rfl hkey ?_; intro c' hat' hwc'; obtain rfl := at_lit hat' hT2.out; clear hat'; rw [hh2'])
                | ((with_reducible refine gate_builtin (b := .append) (xs := #[.tmp 129, .tmp 131]) rfl ?_); at_builtin; refine Kd.R_append k39 (w0 := w) w.heap.size rfl (.tmp 129) (.tmp 131) 37 39 (.agg #[(.int .i64 0), (.int .i64 0), (.int .i64 0), (.int .i64 0), (.int .i64 0)]) 40 rfl Try.underlying37 info39 rfl (by decide) (by omega) u4 (selA l0 l1 k) (rd_T39 l0 (k : Int)) [.int .i64 ((rd_T39 l0 (k : Int)).f0), .int .i64 ((rd_T39 l0 (k : Int)).f1), .int .i64 ((rd_T39 l0 (k : Int)).f2), .int .i64 ((rd_T39 l0 (k : Int)).f3), .int .i64 ((rd_T39 l0 (k : Int)).f4)] (fun _ => True) (fun _ => False) rfl (by show Value.slice (some ⟨wr.heap.size + 1, 0, none⟩) 1 1 = _; simp only [World.size_alloc]) ?aP (fun _ hk => hk.elim) ?aF ?aO ?aB ?aS ?aL ?_; (case aP => exact k39_mkM _ _ _ (rd_T39 l0 (k : Int))); (case aB => exact below_alloc HB4.out _); (case aF => exact (fun _ _ => trivial)); (case aO => exact Kd.R_alloc HR4.out _); (case aS => exact below_size (below_alloc HB4.out _)); (case aL => omega); intro v5 w5 ho5 hb5 hg5 hat5; have Q5 := Aside0.mk ho5; have G5 := Aside0.mk hg5; clear ho5 hg5 hat5))
              go_roundw
              case rel => exact ⟨k + 1, by omega, by go_num, hb5, (MapIs.grown (W := wr.alloc _) (MapIs.below ⟨D2, ho2, hm2, hh2, ha2⟩ (below_alloc (Below.refl _ _) _)) G5.out (map_ne HR4.out ⟨D2, ho2, hm2, hh2, ha2⟩)), by rw [HS2.out]; exact Q5.out⟩
              case measure => simp [intOf]; omega
            · have htb : (t == (k : Int)) = false := beq_eq_false_iff_ne.2 htk
              have HS2 := Aside0.mk (HS.out.trans (if_neg (fun h => htk (of_decide_eq_true h))))
              clear hg HS htk
              go_wp2_with (at_lookup; refine wpList_lookup_own_ok_int _ rfl _ _ 85 rfl 3 3 .i64 key3 Try.underlying85 Try.underlying3 (zero3 _) (w2.heap.size + 1 + 1) l0.length D2 rfl (ho2.alloc _) _ _ rfl hkey ?_; intro c' hat' hwc'; obtain rfl := at_lit hat' hT2.out; clear hat'; rw [hh2'])
              go_roundw
              case rel => exact ⟨k + 1, by omega, by go_num, below_alloc HB4.out _, MapIs.below ⟨D2, ho2, hm2, hh2, ha2⟩ (below_alloc (Below.refl _ _) _), by rw [HS2.out]; exact Kd.R_alloc HR4.out _⟩
              case measure => simp [intOf]; omega
        · obtain rfl : k = l0.length := by omega
          have HR4 := Aside0.mk hR4
          clear hR4
          go_wp2_with (fail)
          go_ret2
          exact post_good hG.out HR4.out hB4

set_option maxHeartbeats 1000000 in
theorem counted_no (A0 : Option Addr) (c0 : Nat) (l0 : List S39) (A1 : Option Addr) (m1 c1 : Nat) (w : World) (hr0 : Kd.C k39 w A0 l0.length l0) (hv : allV l0 = false) :
    Calls Try.prog 42 #[.slice A0 l0.length c0, .slice A1 m1 c1] w fun e w' => e = .returned (.tuple #[.slice none 0 0, .int .i64 150]) ∧ Below w.heap.size w w' := by
  have hc := check_any A0 c0 l0 w hr0
  rw [chk_nv hv] at hc
  clear hr0 hv
  go_enter Try.func42, Try.ntmps42
  go_wp2_with (go_at_call 60; refine hc.mono ?_; rintro e w1 ⟨rfl, hb1⟩)
  go_ret2
  exact ⟨rfl, hb1⟩

set_option maxHeartbeats 1000000 in
theorem counted_len (A0 : Option Addr) (c0 : Nat) (l0 : List S39) (A1 : Option Addr) (c1 : Nat) (l1 : List Int) (w : World) (hr0 : Kd.C k39 w A0 l0.length l0) (hv : allV l0 = true) (hl : l1.length ≠ l0.length) :
    Calls Try.prog 42 #[.slice A0 l0.length c0, .slice A1 l1.length c1] w fun e w' => e = .returned (.tuple #[.slice none 0 0, .int .i64 1]) ∧ Below w.heap.size w w' := by
  have hc := check_any A0 c0 l0 w hr0
  rw [chk_v hv] at hc
  have hlb : (l1.length == l0.length) = false := beq_eq_false_iff_ne.2 hl
  have hlc : ((l1.length : Int) == (l0.length : Int)) = false := beq_eq_false_iff_ne.2 (by omega)
  have hld : ((l1.length : Int) != (l0.length : Int)) = true := bne_iff_ne.2 (by omega)
  clear hr0 hv hl
  go_enter Try.func42, Try.ntmps42
  go_wp2_with (go_at_call 60; refine hc.mono ?_; rintro e w1 ⟨rfl, hb1⟩)
  go_ret2
  exact ⟨rfl, hb1⟩

theorem average_Counted.calls (A0 : Option Addr) (c0 : Nat) (l0 : List (S39)) (A1 : Option Addr) (c1 : Nat) (l1 : List Int) (r1 : List (S39)) (r2 : Int) (w : World) (hr0 : Kd.C k39 w A0 l0.length l0) (_hc0 : l0.length ≤ c0) (hr1 : Kd.C (Kd.int .i64) w A1 l1.length l1) (_hc1 : l1.length ≤ c1) (h : average_Counted.f l0 l1 = some (r1, r2)) :
    Calls Try.prog 42 #[.slice A0 l0.length c0, .slice A1 l1.length c1] w fun e w' => ∃ v0_ : Value, e = .returned (.tuple #[v0_, .int .i64 r2]) ∧ Kd.R k39 39 w' w.heap.size (fun _ => True) v0_ r1 ∧ Below w.heap.size w w' := by
  unfold average_Counted.f at h
  split at h
  · rename_i hn
    split at h
    · rename_i hv
      split at h
      · rename_i hl
        have hg := counted_any A0 c0 l0 A1 c1 l1 w hr0 hr1 hv hl hn
        unfold Post42 at hg
        split at h
        · rename_i hgd
          have h' := Option.some.inj h
          simp only [Prod.mk.injEq] at h'
          obtain ⟨rfl, rfl⟩ := h'
          rw [hgd] at hg
          exact hg
        · rename_i hgd
          have h' := Option.some.inj h
          simp only [Prod.mk.injEq] at h'
          obtain ⟨rfl, rfl⟩ := h'
          rw [Bool.eq_false_iff.2 hgd] at hg
          exact hg
      · rename_i hl
        have h' := Option.some.inj h
        simp only [Prod.mk.injEq] at h'
        obtain ⟨rfl, rfl⟩ := h'
        refine (counted_len A0 c0 l0 A1 c1 l1 w hr0 hv hl).mono ?_
        rintro e w' ⟨rfl, hb⟩
        exact ⟨_, rfl, Kd.R_nil _ _ _ _ _, hb⟩
    · rename_i hv
      have h' := Option.some.inj h
      simp only [Prod.mk.injEq] at h'
      obtain ⟨rfl, rfl⟩ := h'
      refine (counted_no A0 c0 l0 A1 l1.length c1 w hr0 (Bool.eq_false_iff.2 hv)).mono ?_
      rintro e w' ⟨rfl, hb⟩
      exact ⟨_, rfl, Kd.R_nil _ _ _ _ _, hb⟩
  · cases h
end Go.Proofs.Ytgoicalffgehoaa.P
