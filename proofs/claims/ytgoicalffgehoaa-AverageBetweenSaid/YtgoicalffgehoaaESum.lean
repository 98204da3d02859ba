/- The contracts of average.check, Sums and Earned (a function value handed to slices.ContainsFunc; ranges over a function). Condition: at most 2^20 attempts. -/
import Derived.Test.YtgoicalffgehoaaEMean
namespace Go.Proofs.Ytgoicalffgehoaa.P
open Go.RowKit Go.Shelf Go.Proofs.YtgoicalffgehoaaW.PrintWords
open Go.Proofs.Ytgoicalffgehoaa

attribute [local go_sem] Oper.semAt_some

def vA (x : S39) : Bool := decide (0 ≤ x.f0 ∧ x.f0 ≤ 4095) && (decide (0 ≤ x.f1 ∧ x.f1 ≤ 1023) && (decide (0 ≤ x.f2 ∧ x.f2 ≤ 12) && (decide (0 ≤ x.f3 ∧ x.f3 ≤ 6) && decide (0 ≤ x.f4 ∧ x.f4 ≤ 60))))

theorem within_any (n lo hi : Int) (w : World) : Calls Try.prog 59 #[.int .i64 n, .int .i64 lo, .int .i64 hi] w fun e w' => e = .returned (.bool (decide (lo ≤ n ∧ n ≤ hi))) ∧ w = w' := by
  by_cases h1 : lo ≤ n
  · by_cases h2 : n ≤ hi
    · rw [decide_eq_true ⟨h1, h2⟩]
      go_enter Try.func59, Try.ntmps59
      go_wp2
      go_ret
      exact ⟨rfl, rfl⟩
    · rw [decide_eq_false (fun h => h2 h.2)]
      go_enter Try.func59, Try.ntmps59
      go_wp2
      go_ret
      exact ⟨rfl, rfl⟩
  · rw [decide_eq_false (fun h => h1 h.1)]
    go_enter Try.func59, Try.ntmps59
    go_wp2
    go_ret
    exact ⟨rfl, rfl⟩

set_option maxHeartbeats 1000000 in
theorem fits_any (x : S39) (w : World) : Calls Try.prog 70 #[.agg #[.int .i64 x.f0, .int .i64 x.f1, .int .i64 x.f2, .int .i64 x.f3, .int .i64 x.f4]] w fun e w' => e = .returned (.bool (vA x)) ∧ Below w.heap.size w w' := by
  unfold vA
  have h0 := fun W => within_any x.f0 0 4095 W
  have h1 := fun W => within_any x.f1 0 1023 W
  have h2 := fun W => within_any x.f2 0 12 W
  have h3 := fun W => within_any x.f3 0 6 W
  have h4 := fun W => within_any x.f4 0 60 W
  have hu39 := Try.underlying39
  generalize decide (0 ≤ x.f0 ∧ x.f0 ≤ 4095) = b0 at *
  generalize decide (0 ≤ x.f1 ∧ x.f1 ≤ 1023) = b1 at *
  generalize decide (0 ≤ x.f2 ∧ x.f2 ≤ 12) = b2 at *
  generalize decide (0 ≤ x.f3 ∧ x.f3 ≤ 6) = b3 at *
  generalize decide (0 ≤ x.f4 ∧ x.f4 ≤ 60) = b4 at *
  cases b0
  · go_enter Try.func70, Try.ntmps70
    go_wp2_with (go_at_call 59; (first | (with_reducible refine (h0 _).mono ?_) | (with_reducible refine (h1 _).mono ?_) | (with_reducible refine (h2 _).mono ?_) | (with_reducible refine (h3 _).mono ?_) | (with_reducible refine (h4 _).mono ?_)); rintro e w' ⟨rfl, rfl⟩)
    go_ret
    exact ⟨rfl, below_alloc (Below.refl _ _) _⟩
  · cases b1
    · go_enter Try.func70, Try.ntmps70
      go_wp2_with (go_at_call 59; (first | (with_reducible refine (h0 _).mono ?_) | (with_reducible refine (h1 _).mono ?_) | (with_reducible refine (h2 _).mono ?_) | (with_reducible refine (h3 _).mono ?_) | (with_reducible refine (h4 _).mono ?_)); rintro e w' ⟨rfl, rfl⟩)
      go_ret
      exact ⟨rfl, below_alloc (Below.refl _ _) _⟩
    · cases b2
      · go_enter Try.func70, Try.ntmps70
        go_wp2_with (go_at_call 59; (first | (with_reducible refine (h0 _).mono ?_) | (with_reducible refine (h1 _).mono ?_) | (with_reducible refine (h2 _).mono ?_) | (with_reducible refine (h3 _).mono ?_) | (with_reducible refine (h4 _).mono ?_)); rintro e w' ⟨rfl, rfl⟩)
        go_ret
        exact ⟨rfl, below_alloc (Below.refl _ _) _⟩
      · cases b3
        · go_enter Try.func70, Try.ntmps70
          go_wp2_with (go_at_call 59; (first | (with_reducible refine (h0 _).mono ?_) | (with_reducible refine (h1 _).mono ?_) | (with_reducible refine (h2 _).mono ?_) | (with_reducible refine (h3 _).mono ?_) | (with_reducible refine (h4 _).mono ?_)); rintro e w' ⟨rfl, rfl⟩)
          go_ret
          exact ⟨rfl, below_alloc (Below.refl _ _) _⟩
        · cases b4
          · go_enter Try.func70, Try.ntmps70
            go_wp2_with (go_at_call 59; (first | (with_reducible refine (h0 _).mono ?_) | (with_reducible refine (h1 _).mono ?_) | (with_reducible refine (h2 _).mono ?_) | (with_reducible refine (h3 _).mono ?_) | (with_reducible refine (h4 _).mono ?_)); rintro e w' ⟨rfl, rfl⟩)
            go_ret
            exact ⟨rfl, below_alloc (Below.refl _ _) _⟩
          · go_enter Try.func70, Try.ntmps70
            go_wp2_with (go_at_call 59; (first | (with_reducible refine (h0 _).mono ?_) | (with_reducible refine (h1 _).mono ?_) | (with_reducible refine (h2 _).mono ?_) | (with_reducible refine (h3 _).mono ?_) | (with_reducible refine (h4 _).mono ?_)); rintro e w' ⟨rfl, rfl⟩)
            go_ret
            exact ⟨rfl, below_alloc (Below.refl _ _) _⟩

theorem nfits_any (x : S39) (w : World) : Calls Try.prog 69 #[.agg #[.int .i64 x.f0, .int .i64 x.f1, .int .i64 x.f2, .int .i64 x.f3, .int .i64 x.f4]] w fun e w' => e = .returned (.bool (!vA x)) ∧ Below w.heap.size w w' := by
  have hf := fun W => fits_any x W
  have hu39 := Try.underlying39
  generalize vA x = b at *
  go_enter Try.func69, Try.ntmps69
  go_wp2_with (go_at_call 70; refine (hf _).mono ?_; rintro e w1 ⟨rfl, hb1⟩)
  go_ret
  exact ⟨rfl, below_go (below_alloc (Below.refl _ _) _) hb1⟩

def allV (l : List S39) : Bool := l.all vA
theorem all_take_succ (l : List S39) (k : Nat) (hk : k < l.length) : (l.take (k + 1)).all vA = ((l.take k).all vA && vA (rd_T39 l (k : Int))) := by
  rw [List.take_succ_eq_append_getElem hk, List.all_append]
  congr 1
  simp [rd_T39, hk]

set_option maxRecDepth 100000 in
set_option maxHeartbeats 2000000 in
theorem index_ok (A : Option Addr) (c : Nat) (l : List S39) (w : World) (hr : Kd.C k39 w A l.length l) (hv : allV l = true) :
    Calls Try.prog 75 #[.slice A l.length c, .func (.func 69) #[] #[]] w fun e w' => e = .returned (.int .i64 (-1)) ∧ Below w.heap.size w w' := by
  have hm : l.length ≤ 9223372036854775807 := hr.2.1
  have hv' : ∀ j : Nat, j < l.length → vA (rd_T39 l (j : Int)) = true := fun j hj => by
    unfold allV at hv
    refine List.all_eq_true.1 hv _ ?_
    simp [rd_T39, hj]
  have HV := Aside0.mk hv'
  have HR := Aside0.mk hr
  have hu39 := Try.underlying39
  clear hv hv' hr
  go_enter Try.func75, Try.ntmps75
  go_wp2_with fail
  go_loopw [8] (fun i wr => ∃ k : Nat, k ≤ l.length ∧ i = .int .i64 k ∧ Below w.heap.size w wr) (fun i _ => l.length - (intOf i).toNat)
  case atStart => exact ⟨0, Nat.zero_le _, rfl, Below.refl _ _⟩
  case round =>
    obtain ⟨k, hk, rfl, hB⟩ := hrel
    by_cases hlt : k < l.length
    · have hq := fun W => nfits_any (rd_T39 l (k : Int)) W
      rw [HV.out k hlt] at hq
      obtain ⟨ad, e, x0, x1, x2, x3, x4⟩ := at_T39 HR.out (k : Int) (by omega) (by omega)
      cases e
      replace x0 := pw_cell_below hB x0
      replace x1 := pw_cell_below hB x1
      replace x2 := pw_cell_below hB x2
      replace x3 := pw_cell_below hB x3
      replace x4 := pw_cell_below hB x4
      simp only [Int.toNat_natCast] at x0 x1 x2 x3 x4
      go_wp2_with (go_at_call 69; refine (hq _).mono ?_; rintro e w1 ⟨rfl, hb1⟩)
      go_roundw
      case rel => exact ⟨k + 1, by omega, by go_num, below_go hB hb1⟩
      case measure => simp [intOf]; omega
    · go_wp2_with fail
      go_ret
      exact ⟨rfl, hB⟩

set_option maxRecDepth 100000 in
set_option maxHeartbeats 2000000 in
theorem index_no (A : Option Addr) (c : Nat) (l : List S39) (w : World) (hr : Kd.C k39 w A l.length l) (hv : allV l = false) :
    Calls Try.prog 75 #[.slice A l.length c, .func (.func 69) #[] #[]] w fun e w' => (∃ k : Nat, e = .returned (.int .i64 k)) ∧ Below w.heap.size w w' := by
  have hm : l.length ≤ 9223372036854775807 := hr.2.1
  have HV := Aside0.mk hv
  have HR := Aside0.mk hr
  have hu39 := Try.underlying39
  clear hv hr
  go_enter Try.func75, Try.ntmps75
  go_wp2_with fail
  go_loopw [8] (fun i wr => ∃ k : Nat, k ≤ l.length ∧ i = .int .i64 k ∧ Below w.heap.size w wr ∧ Aside0 ((l.take k).all vA = true)) (fun i _ => l.length - (intOf i).toNat)
  case atStart => exact ⟨0, Nat.zero_le _, rfl, Below.refl _ _, ⟨rfl⟩⟩
  case round =>
    obtain ⟨k, hk, rfl, hB, HT⟩ := hrel
    by_cases hlt : k < l.length
    · have hq := fun W => nfits_any (rd_T39 l (k : Int)) W
      obtain ⟨ad, e, x0, x1, x2, x3, x4⟩ := at_T39 HR.out (k : Int) (by omega) (by omega)
      cases e
      replace x0 := pw_cell_below hB x0
      replace x1 := pw_cell_below hB x1
      replace x2 := pw_cell_below hB x2
      replace x3 := pw_cell_below hB x3
      replace x4 := pw_cell_below hB x4
      simp only [Int.toNat_natCast] at x0 x1 x2 x3 x4
      have HS := Aside0.mk (all_take_succ l k hlt)
      rcases hva : vA (rd_T39 l (k : Int)) with _ | _
      · rw [hva] at hq
        clear hva
        go_wp2_with (go_at_call 69; refine (hq _).mono ?_; rintro e w1 ⟨rfl, hb1⟩)
        go_ret
        exact ⟨⟨k, rfl⟩, below_go hB hb1⟩
      · rw [hva] at hq
        have HA := Aside0.mk hva
        clear hva
        go_wp2_with (go_at_call 69; refine (hq _).mono ?_; rintro e w1 ⟨rfl, hb1⟩)
        go_roundw
        case rel => exact ⟨k + 1, by omega, by go_num, below_go hB hb1, ⟨by rw [HS.out, HT.out, HA.out]; rfl⟩⟩
        case measure => simp [intOf]; omega
    · exfalso
      have h1 := HT.out
      rw [List.take_of_length_le (by omega)] at h1
      have h2 := HV.out
      unfold allV at h2
      rw [h1] at h2
      cases h2

def chkA (l : List S39) : Int := if allV l then 0 else 150
set_option maxHeartbeats 1000000 in
theorem contains_any (A : Option Addr) (c : Nat) (l : List S39) (w : World) (hr : Kd.C k39 w A l.length l) :
    Calls Try.prog 68 #[.slice A l.length c, .func (.func 69) #[] #[]] w fun e w' => e = .returned (.bool (!allV l)) ∧ Below w.heap.size w w' := by
  rcases hv : allV l with _ | _
  · have hi := index_no A c l w hr hv
    clear hv hr
    go_enter Try.func68, Try.ntmps68
    go_wp2_with (go_at_call 75; refine hi.mono ?_; rintro e w1 ⟨⟨k, rfl⟩, hb1⟩; have hk0 : (0 : Int) ≤ (k : Int) := by omega)
    go_ret
    exact ⟨rfl, hb1⟩
  · have hi := index_ok A c l w hr hv
    clear hv hr
    go_enter Try.func68, Try.ntmps68
    go_wp2_with (go_at_call 75; refine hi.mono ?_; rintro e w1 ⟨rfl, hb1⟩)
    go_ret
    exact ⟨rfl, hb1⟩

set_option maxHeartbeats 1000000 in
theorem check_any (A : Option Addr) (c : Nat) (l : List S39) (w : World) (hr : Kd.C k39 w A l.length l) :
    Calls Try.prog 60 #[.slice A l.length c] w fun e w' => e = .returned (.int .i64 (chkA l)) ∧ Below w.heap.size w w' := by
  have hi := contains_any A c l w hr
  unfold chkA
  rcases hv : allV l with _ | _
  · rw [hv] at hi
    clear hv hr
    go_enter Try.func60, Try.ntmps60
    go_wp2_with (go_at_call 68; refine hi.mono ?_; rintro e w1 ⟨rfl, hb1⟩)
    go_ret
    exact ⟨rfl, hb1⟩
  · rw [hv] at hi
    clear hv hr
    go_enter Try.func60, Try.ntmps60
    go_wp2_with (go_at_call 68; refine hi.mono ?_; rintro e w1 ⟨rfl, hb1⟩)
    go_ret
    exact ⟨rfl, hb1⟩

def upA (l : List S39) (k : Nat) : List (Int × Int) := (List.range k).map fun j : Nat => ((rd_T39 l (j : Int)).f2, (rd_T39 l (j : Int)).f4)
theorem upA_succ (l : List S39) (k : Nat) : upA l (k + 1) = upA l k ++ [((rd_T39 l (k : Int)).f2, (rd_T39 l (k : Int)).f4)] := by simp [upA, List.range_succ]
theorem upA_length (l : List S39) (k : Nat) : (upA l k).length = k := by simp [upA]

set_option maxHeartbeats 1000000 in
theorem weights_in (F : Fence) (n : Nat) (h61 : F.fn 61) (hro : F.round = none) (A : Option Addr) (m c : Nat) (w : World) :
    CallsIn F n Try.prog 61 #[.slice A m c] w fun e w' => e = .returned (.func (.func 71) #[] #[.pointer (some ⟨w.heap.size, 0, none⟩)]) ∧ w' = w.alloc (.cells #[.slice A m c] 37) := by
  refine callsIn_of_wp Try.func61 rfl h61 ?_ hro
  simp only [Try.ntmps61, List.size_toArray, List.length_cons, List.length_nil, Nat.reduceAdd, Nat.reduceSub, Array.replicate_succ, Array.replicate_zero, List.push_toArray, List.append_toArray, List.nil_append, List.cons_append]
  gi_wp2
  go_ret
  exact ⟨rfl, rfl⟩

set_option maxRecDepth 100000 in
set_option maxHeartbeats 2000000 in
theorem weights1_in (F : Fence) (n : Nat) (h71 : F.fn 71) (hro : F.round = none) (hn : 1 ≤ n) (y B0 : Nat) (w0 : World) (A : Option Addr) (c : Nat) (l : List S39) (hr : Kd.C k39 w0 A l.length l) (J Jx : List (Int × Int) → World → Prop)
    (hY : ∀ pre x W, J pre W → pre.length < l.length → YieldAt F (n - 1) Try.prog y #[.int .i64 x.1, .int .i64 x.2] W fun e W' =>
      (e = .returned (.bool true) ∧ J (pre ++ [x]) W' ∧ Below w0.heap.size W W') ∨ (e = .returned (.bool false) ∧ Jx (pre ++ [x]) W'))
    (W : World) (hJ : AbidesFrom W.heap.size J) (hW : Below w0.heap.size w0 W) (hB0 : Boxed W B0 37 (.slice A l.length c)) (h0 : J [] W) :
    CallsIn F n Try.prog 71 #[.func (.yield y) #[] #[], .pointer (some ⟨B0, 0, none⟩)] W fun e W' => (∃ v, e = .returned v) ∧
      ((∃ ys, ys = upA l l.length ∧ J ys W') ∨ (∃ pre, (∃ k, k ≤ l.length ∧ pre = upA l k) ∧ Jx pre W')) := by
  have hm : l.length ≤ 9223372036854775807 := hr.2.1
  have HR := Aside0.mk hr
  have hu39 := Try.underlying39
  clear hr
  refine callsIn_of_wp Try.func71 rfl h71 ?_ hro
  simp only [Try.ntmps71, List.size_toArray, List.length_cons, List.length_nil, Nat.reduceAdd, Nat.reduceSub, Array.replicate_succ, Array.replicate_zero, List.push_toArray, List.append_toArray, List.nil_append, List.cons_append]
  have cB0 := hB0.cell
  gi_wp2
  gi_loopw [7] (fun i wr => ∃ k : Nat, k ≤ l.length ∧ i = .int .i64 k ∧ J (upA l k) wr ∧ Below w0.heap.size W wr)
    (fun i _ => l.length - (intOf i).toNat)
  case atStart => exact ⟨0, Nat.zero_le _, rfl, h0, Below.refl _ _⟩
  case round =>
    obtain ⟨k, hk, rfl, hJs, hnx⟩ := hrel
    by_cases hlt : k < l.length
    · obtain ⟨ad, e, x0, x1, x2, x3, x4⟩ := at_T39 HR.out (k : Int) (by omega) (by omega)
      subst e
      replace x0 := pw_cell_below (hW.trans hnx) x0
      replace x1 := pw_cell_below (hW.trans hnx) x1
      replace x2 := pw_cell_below (hW.trans hnx) x2
      replace x3 := pw_cell_below (hW.trans hnx) x3
      replace x4 := pw_cell_below (hW.trans hnx) x4
      simp only [Int.toNat_natCast] at x0 x1 x2 x3 x4
      have hsz := hW.size
      have hsz2 := hnx.size
      obtain ⟨fn, tmps, assign, body, hy, hR⟩ := hY _ ((rd_T39 l (k : Int)).f2, (rd_T39 l (k : Int)).f4) (wr.alloc (.cells #[.int .i64 (rd_T39 l (k : Int)).f0, .int .i64 (rd_T39 l (k : Int)).f1, .int .i64 (rd_T39 l (k : Int)).f2, .int .i64 (rd_T39 l (k : Int)).f3, .int .i64 (rd_T39 l (k : Int)).f4] 39)) (hJ _ _ _ none hJs (World.grownBy_alloc wr _ none) (fun r e => by cases e)) (by rw [upA_length]; exact hlt)
      dsimp only at hy
      gi_wp2
      refine hR.mono ?_
      rintro e W3 (⟨rfl, hJ3, hk3⟩ | ⟨rfl, hJx3⟩)
      · gi_wp2
        go_roundw
        case rel => exact ⟨k + 1, by omega, by simp, by rw [upA_succ]; exact hJ3, (hnx.alloc (by omega) _).trans hk3⟩
        case measure => simp [intOf]; omega
      · gi_wp2
        refine bodyPost_ret (results_none rfl _ _ _) rfl ?_
        exact ⟨⟨_, rfl⟩, .inr ⟨_, ⟨k + 1, by omega, (upA_succ _ _).symm⟩, hJx3⟩⟩
    · obtain rfl : k = l.length := by omega
      gi_wp2
      go_end0
      exact ⟨⟨_, rfl⟩, .inl ⟨_, rfl, hJs⟩⟩

theorem weights_stops (F : Fence) (n : Nat) (h71 : F.fn 71) (hro : F.round = none) (hn : 1 ≤ n) (B0 : Nat) (w0 : World) (A : Option Addr) (c : Nat) (l : List S39) (hr : Kd.C k39 w0 A l.length l) (w : World) (hw : Below w0.heap.size w0 w)
    (hB0 : Boxed w B0 37 (.slice A l.length c)) :
    SeqStopsK F n Try.prog 71 #[.pointer (some ⟨B0, 0, none⟩)] (fun x : Int × Int => #[Value.int .i64 x.1, Value.int .i64 x.2]) (Below w0.heap.size) (fun ys => ys = upA l l.length)
      (fun pre => ∃ k, k ≤ l.length ∧ pre = upA l k) l.length w := fun y J Jx W hW hJ _ hY h0 => by
  exact weights1_in F n h71 hro hn y B0 w0 A c l hr J Jx hY W hJ (below_then hw hw.size hW) ((hW.block B0 hB0.lt).trans hB0) h0

theorem res37 (tmps : Array Value) (W : World) (g g' : Nat) (a b : Int) (h4 : tmps[2]?.getD undef = .pointer (some ⟨g, 0, none⟩)) (h5 : tmps[3]?.getD undef = .pointer (some ⟨g', 0, none⟩))
    (hg : W.heap[g]? = some (.cells #[.int .i64 a] 3 (0, 0))) (hg' : W.heap[g']? = some (.cells #[.int .i64 b] 3 (0, 0))) :
    (results Try.f37 tmps).run Try.prog W = .ok (.tuple #[.int .i64 a, .int .i64 b, tmps[4]?.getD undef]) W := by
  have x0 := blk_cell hg 0
  have x2 := blk_cell hg' 0
  simp at x0 x2
  simp [results, Try.results37, go_sem, h4, h5, x0, x2]

def sumsC (l : List S39) : Int := if allV l then totP (upA l l.length) else 0
def sumsP (l : List S39) : Int := if allV l then sumP (upA l l.length) else 0

set_option maxRecDepth 100000 in
set_option maxHeartbeats 4000000 in
theorem sums_in (F : Fence) (n : Nat) (h37 : F.fn 37) (h61 : F.fn 61) (h71 : F.fn 71) (h60 : F.fn 60) (hro : F.round = none) (hn : 3 ≤ n) (A : Option Addr) (c : Nat) (l : List S39) (w : World)
    (hr : Kd.C k39 w A l.length l)
    (hC : ∀ W, Below w.heap.size w W → CallsIn F (n - 1) Try.prog 60 #[.slice A l.length c] W fun e W' => e = .returned (.int .i64 0) ∧ Below W.heap.size W W') :
    CallsIn F n Try.prog 37 #[.slice A l.length c] w fun e W' => e = .returned (.tuple #[.int .i64 (totP (upA l l.length)), .int .i64 (sumP (upA l l.length)), .int .i64 0]) ∧ Below w.heap.size w W' := by
  have h1 : 1 ≤ n := by omega
  have HC := Aside0.mk hC
  clear hC
  refine callsIn_of_wp_marks Try.func37 rfl h37 ?_ hro
  simp only [Try.ntmps37, List.size_toArray, List.length_cons, List.length_nil, Nat.reduceAdd, Nat.reduceSub, Array.replicate_succ, Array.replicate_zero, List.push_toArray, List.append_toArray, List.nil_append, List.cons_append]
  gi_wp2_with (first | (gi_at_call 60; refine (HC.out _ (below_alloc (below_alloc (Below.refl _ _) _) _)).mono ?_; rintro e w1 ⟨rfl, hb1⟩) | (gi_at_call 61; refine (weights_in F (n - 1) h61 hro _ _ _ _).mono ?_; rintro e w' ⟨rfl, rfl⟩))
  have bC : (w1.alloc (.cells #[.slice A l.length c] 37)).heap[w.heap.size]? = some (.cells #[.int .i64 0] 3 (0, 0)) := blk_alloc (blk_below (blk_alloc (blk_new w _) _) hb1) _
  have bP : (w1.alloc (.cells #[.slice A l.length c] 37)).heap[w.heap.size + 1]? = some (.cells #[.int .i64 0] 3 (0, 0)) :=
    blk_alloc (blk_below (by simpa only [World.size_alloc] using blk_new (w.alloc (.cells #[.int .i64 0] 3)) (.cells #[.int .i64 0] 3)) hb1) _
  have hsz : w.heap.size + 1 + 1 ≤ w1.heap.size := by have := hb1.size; simpa using this
  have hB1 : Below w.heap.size w w1 := below_go (below_alloc (below_alloc (Below.refl _ _) _) _) hb1
  clear HC
  refine wpIn_rangeFunc_ownG hro h1 (gf := 71) (lb := #[.pointer (some ⟨w1.heap.size, 0, none⟩)]) rfl h71 (enters_of Try.func71 (by kernel_rfl) rfl)
    (weights_stops F (n - 1) h71 hro (by omega) w1.heap.size w A c l hr _ (below_alloc hB1 _) (Boxed.new _ _ _)) belowK_t (belowK_b (by simp <;> omega)) (Below.refl _ _) (fun _ => rfl)
    (fun pre W => (W.heap[w.heap.size]? = some (.cells #[.int .i64 (totP pre)] 3 (0, 0)) ∧ W.heap[w.heap.size + 1]? = some (.cells #[.int .i64 (sumP pre)] 3 (0, 0))) ∧ Below w.heap.size w W)
    (fun _ _ _ => False)
    (OwnFrom.and (Own.from (fun s A B row hs hg hr => ⟨blk_own (β := Unit) _ _ (fun _ => _) () _ _ _ hs.1 hg hr, blk_own (β := Unit) _ _ (fun _ => _) () _ _ _ hs.2 hg hr⟩) _) (ownFrom_below (Nat.le_refl _) (by simp <;> omega)))
    (fun _ _ _ _ _ hs _ _ => hs)
    ⟨⟨bC, bP⟩, below_alloc hB1 _⟩
    (fun x => { tmps := #[.slice A l.length c, undef, .pointer (some ⟨w.heap.size, 0, none⟩), .pointer (some ⟨w.heap.size + 1, 0, none⟩), .int .i64 0, .int .i64 x.1, .int .i64 x.2, .slice A l.length c, .int .i64 0, .int .i64 0, .bool false, undef, .slice A l.length c, .func (.func 71) #[] #[.pointer (some ⟨w1.heap.size, 0, none⟩)], .int .i64 x.1, .int .i64 x.2, undef, undef, undef, undef, undef, undef, undef, undef, undef, undef], defers := [] }) ?assign ?body ?done ?stop
  case assign =>
    intro y x W K hK
    gi_wp2
    exact hK
  case body =>
    rintro y pre x W ⟨⟨hS, hT⟩, hB⟩ _
    have cS := blk_cell hS 0
    have fS := blk_frozen hS 0
    have cT := blk_cell hT 0
    have fT := blk_frozen hT 0
    simp at cS cT
    gi_wp2
    refine ⟨((KeepsOthers.setCell _ _ _).trans (KeepsOthers.setCell _ _ _)).from _, ((Below.refl _ _).setCell (by simp) _).setCell (by simp) _, ⟨?_, ?_⟩, (hB.setCell (by simp) _).setCell (by simp) _⟩
    · rw [totP_snoc]; exact blk_far (by simpa using blk_set hS 0 _) (by simp) _
    · rw [sumP_snoc]; simpa using blk_set (blk_far hT (by simp) _) 0 _
  case done =>
    rintro D ys W hD rfl ⟨⟨hS, hT⟩, hB⟩ hK
    have cS := blk_cell hS 0
    have fS := blk_frozen hS 0
    have cT := blk_cell hT 0
    have fT := blk_frozen hT 0
    simp at cS cT
    have k1 := ((KeepsOthers.setCell W ⟨w.heap.size, 0, none⟩ (.int .i64 (totP (upA l l.length)))).trans (KeepsOthers.setCell _ ⟨w.heap.size + 1, 0, none⟩ (.int .i64 (sumP (upA l l.length))))).same D _ hK rfl
    have k2 := ((KeepsOthers.setCell W ⟨w.heap.size + 1, 0, none⟩ (.int .i64 (sumP (upA l l.length)))).trans (KeepsOthers.setCell _ ⟨w.heap.size, 0, none⟩ (.int .i64 (totP (upA l l.length))))).same D _ hK rfl
    have c1 : ((W.setCell ⟨w.heap.size, 0, none⟩ (.int .i64 (totP (upA l l.length)))).setCell ⟨w.heap.size + 1, 0, none⟩ (.int .i64 (sumP (upA l l.length)))).heap[w.heap.size]? = some (.cells #[.int .i64 (totP (upA l l.length))] 3 (0, 0)) := blk_far (by simpa using blk_set hS 0 _) (by simp) _
    have p1 : ((W.setCell ⟨w.heap.size, 0, none⟩ (.int .i64 (totP (upA l l.length)))).setCell ⟨w.heap.size + 1, 0, none⟩ (.int .i64 (sumP (upA l l.length)))).heap[w.heap.size + 1]? = some (.cells #[.int .i64 (sumP (upA l l.length))] 3 (0, 0)) := by simpa using blk_set (blk_far hT (by simp) (.int .i64 (totP (upA l l.length)))) 0 (.int .i64 (sumP (upA l l.length)))
    have p2 : ((W.setCell ⟨w.heap.size + 1, 0, none⟩ (.int .i64 (sumP (upA l l.length)))).setCell ⟨w.heap.size, 0, none⟩ (.int .i64 (totP (upA l l.length)))).heap[w.heap.size + 1]? = some (.cells #[.int .i64 (sumP (upA l l.length))] 3 (0, 0)) := blk_far (by simpa using blk_set hT 0 _) (by simp) _
    have c2 : ((W.setCell ⟨w.heap.size + 1, 0, none⟩ (.int .i64 (sumP (upA l l.length)))).setCell ⟨w.heap.size, 0, none⟩ (.int .i64 (totP (upA l l.length)))).heap[w.heap.size]? = some (.cells #[.int .i64 (totP (upA l l.length))] 3 (0, 0)) := by simpa using blk_set (blk_far hS (by simp) (.int .i64 (sumP (upA l l.length)))) 0 (.int .i64 (totP (upA l l.length)))
    have g1 : Below w.heap.size w ((W.setCell ⟨w.heap.size, 0, none⟩ (.int .i64 (totP (upA l l.length)))).setCell ⟨w.heap.size + 1, 0, none⟩ (.int .i64 (sumP (upA l l.length)))).drew := below_drew ((hB.setCell (by simp) _).setCell (by simp) _)
    have g2 : Below w.heap.size w ((W.setCell ⟨w.heap.size + 1, 0, none⟩ (.int .i64 (sumP (upA l l.length)))).setCell ⟨w.heap.size, 0, none⟩ (.int .i64 (totP (upA l l.length)))).drew := below_drew ((hB.setCell (by simp) _).setCell (by simp) _)
    have Q1 := Aside0.mk (show _ ∧ _ ∧ _ ∧ _ from ⟨k1, c1, p1, g1⟩)
    have Q2 := Aside0.mk (show _ ∧ _ ∧ _ ∧ _ from ⟨k2, c2, p2, g2⟩)
    clear k1 c1 p1 g1 k2 c2 p2 g2
    simp only [World.size_alloc] at hD
    gi_wp2
    gi_region
    all_goals gi_wp2
    all_goals first
      | (obtain ⟨k1, c1, p1, g1⟩ := Q1.out
         exact ⟨by simp, .inl ⟨_, _, rfl, run_takeDeferred (w := ((W.setCell ⟨w.heap.size, 0, none⟩ (.int .i64 (totP (upA l l.length)))).setCell ⟨w.heap.size + 1, 0, none⟩ (.int .i64 (sumP (upA l l.length)))).drew) k1, _, res37 _ _ _ _ _ _ rfl rfl ((World.putObj_heap_other (by omega)).trans c1) ((World.putObj_heap_other (by omega)).trans p1), rfl, g1.trans (belowK_b (w := w) (Nat.le_refl _) _ D _ _ (by omega) k1 rfl rfl)⟩⟩)
      | (obtain ⟨k1, c1, p1, g1⟩ := Q2.out
         exact ⟨by simp, .inl ⟨_, _, rfl, run_takeDeferred (w := ((W.setCell ⟨w.heap.size + 1, 0, none⟩ (.int .i64 (sumP (upA l l.length)))).setCell ⟨w.heap.size, 0, none⟩ (.int .i64 (totP (upA l l.length)))).drew) k1, _, res37 _ _ _ _ _ _ rfl rfl ((World.putObj_heap_other (by omega)).trans c1) ((World.putObj_heap_other (by omega)).trans p1), rfl, g1.trans (belowK_b (w := w) (Nat.le_refl _) _ D _ _ (by omega) k1 rfl rfl)⟩⟩)
  case stop =>
    rintro D c pre W hD hk h hK
    exact h.elim

def earnP (l : List (Int × Int)) : Int := l.foldl (fun s p => if 0 < p.1 then wrap64 (s + p.2) else s) 0
theorem earnP_snoc (l : List (Int × Int)) (x : Int × Int) : earnP (l ++ [x]) = if 0 < x.1 then wrap64 (earnP l + x.2) else earnP l := by simp [earnP]
def earnA (l : List S39) : Int := if allV l then earnP (upA l l.length) else 0

theorem res40 (tmps : Array Value) (W : World) (g : Nat) (a : Int) (h4 : tmps[2]?.getD undef = .pointer (some ⟨g, 0, none⟩))
    (hg : W.heap[g]? = some (.cells #[.int .i64 a] 3 (0, 0))) :
    (results Try.f40 tmps).run Try.prog W = .ok (.tuple #[.int .i64 a, tmps[3]?.getD undef]) W := by
  have x0 := blk_cell hg 0
  simp at x0
  simp [results, Try.results40, go_sem, h4, x0]

set_option maxRecDepth 100000 in
set_option maxHeartbeats 4000000 in
theorem earned_in (F : Fence) (n : Nat) (h40 : F.fn 40) (h61 : F.fn 61) (h71 : F.fn 71) (h60 : F.fn 60) (hro : F.round = none) (hn : 3 ≤ n) (A : Option Addr) (c : Nat) (l : List S39) (w : World)
    (hr : Kd.C k39 w A l.length l)
    (hC : ∀ W, Below w.heap.size w W → CallsIn F (n - 1) Try.prog 60 #[.slice A l.length c] W fun e W' => e = .returned (.int .i64 0) ∧ Below W.heap.size W W') :
    CallsIn F n Try.prog 40 #[.slice A l.length c] w fun e W' => e = .returned (.tuple #[.int .i64 (earnP (upA l l.length)), .int .i64 0]) ∧ Below w.heap.size w W' := by
  have h1 : 1 ≤ n := by omega
  have HC := Aside0.mk hC
  clear hC
  refine callsIn_of_wp_marks Try.func40 rfl h40 ?_ hro
  simp only [Try.ntmps40, List.size_toArray, List.length_cons, List.length_nil, Nat.reduceAdd, Nat.reduceSub, Array.replicate_succ, Array.replicate_zero, List.push_toArray, List.append_toArray, List.nil_append, List.cons_append]
  gi_wp2_with (first | (gi_at_call 60; refine (HC.out _ (below_alloc (Below.refl _ _) _)).mono ?_; rintro e w1 ⟨rfl, hb1⟩) | (gi_at_call 61; refine (weights_in F (n - 1) h61 hro _ _ _ _).mono ?_; rintro e w' ⟨rfl, rfl⟩))
  have bC : (w1.alloc (.cells #[.slice A l.length c] 37)).heap[w.heap.size]? = some (.cells #[.int .i64 0] 3 (0, 0)) := blk_alloc (blk_below (blk_new w _) hb1) _
  have hsz : w.heap.size + 1 ≤ w1.heap.size := by have := hb1.size; simpa using this
  have hB1 : Below w.heap.size w w1 := below_go (below_alloc (Below.refl _ _) _) hb1
  clear HC
  refine wpIn_rangeFunc_ownG hro h1 (gf := 71) (lb := #[.pointer (some ⟨w1.heap.size, 0, none⟩)]) rfl h71 (enters_of Try.func71 (by kernel_rfl) rfl)
    (weights_stops F (n - 1) h71 hro (by omega) w1.heap.size w A c l hr _ (below_alloc hB1 _) (Boxed.new _ _ _)) belowK_t (belowK_b (by simp <;> omega)) (Below.refl _ _) (fun _ => rfl)
    (fun pre W => W.heap[w.heap.size]? = some (.cells #[.int .i64 (earnP pre)] 3 (0, 0)) ∧ Below w.heap.size w W)
    (fun _ _ _ => False)
    (OwnFrom.and (Own.from (blk_own w.heap.size 3 (fun pre => #[.int .i64 (earnP pre)])) _) (ownFrom_below (Nat.le_refl _) (by simp <;> omega)))
    (fun _ _ _ _ _ hs _ _ => hs)
    ⟨bC, below_alloc hB1 _⟩
    (fun x => { tmps := #[.slice A l.length c, undef, .pointer (some ⟨w.heap.size, 0, none⟩), .int .i64 0, .int .i64 x.1, .int .i64 x.2, .slice A l.length c, .int .i64 0, .int .i64 0, .bool false, undef, .slice A l.length c, .func (.func 71) #[] #[.pointer (some ⟨w1.heap.size, 0, none⟩)], .int .i64 x.1, .int .i64 x.2, undef, undef, undef, undef, undef, undef], defers := [] }) ?assign ?body ?done ?stop
  case assign =>
    intro y x W K hK
    gi_wp2
    exact hK
  case body =>
    rintro y pre x W ⟨hS, hB⟩ _
    have cS := blk_cell hS 0
    have fS := blk_frozen hS 0
    simp at cS
    have HE := Aside0.mk (earnP_snoc pre x)
    by_cases hx : 0 < x.1
    · gi_wp2
      refine ⟨(KeepsOthers.setCell _ _ _).from _, (Below.refl _ _).setCell (by simp) _, ?_, hB.setCell (by simp) _⟩
      rw [HE.out, if_pos hx]; simpa using blk_set hS 0 _
    · gi_wp2
      refine ⟨(KeepsOthers.refl _).from _, Below.refl _ _, ?_, hB⟩
      rw [HE.out, if_neg (by omega)]; exact hS
  case done =>
    rintro D ys W hD rfl ⟨hS, hB⟩ hK
    have cS := blk_cell hS 0
    have fS := blk_frozen hS 0
    simp at cS
    have k1 := (KeepsOthers.setCell W ⟨w.heap.size, 0, none⟩ (.int .i64 (earnP (upA l l.length)))).same D _ hK rfl
    have c1 : (W.setCell ⟨w.heap.size, 0, none⟩ (.int .i64 (earnP (upA l l.length)))).heap[w.heap.size]? = some (.cells #[.int .i64 (earnP (upA l l.length))] 3 (0, 0)) := by simpa using blk_set hS 0 (.int .i64 (earnP (upA l l.length)))
    have Q1 := Aside0.mk (show _ ∧ _ from ⟨k1, c1⟩)
    clear k1 c1
    simp only [World.size_alloc] at hD
    gi_wp2
    obtain ⟨k1, c1⟩ := Q1.out
    exact ⟨by simp, .inl ⟨_, _, rfl, run_takeDeferred k1, _, res40 _ _ _ _ rfl ((World.putObj_heap_other (by omega)).trans c1), rfl, (hB.setCell (by simp) _).trans (belowK_b (w := w) (Nat.le_refl _) _ D _ _ (by omega) k1 rfl rfl)⟩⟩
  case stop =>
    rintro D c pre W hD hk h hK
    exact h.elim

set_option maxHeartbeats 1000000 in
theorem sums_no (A : Option Addr) (m c : Nat) (w : World)
    (hC : ∀ W, Below w.heap.size w W → Calls Try.prog 60 #[.slice A m c] W fun e W' => e = .returned (.int .i64 150) ∧ Below W.heap.size W W') :
    Calls Try.prog 37 #[.slice A m c] w fun e W' => e = .returned (.tuple #[.int .i64 0, .int .i64 0, .int .i64 150]) ∧ Below w.heap.size w W' := by
  have HC := Aside0.mk hC
  clear hC
  go_enter Try.func37, Try.ntmps37
  go_wp2_with (go_at_call 60; refine (HC.out _ (below_alloc (below_alloc (Below.refl _ _) _) _)).mono ?_; rintro e w1 ⟨rfl, hb1⟩; have X0 := blk_below (blk_alloc (blk_new w (.cells #[.int .i64 0] 3)) _) hb1; have X1 := blk_below (show ((w.alloc (.cells #[.int .i64 0] 3)).alloc (.cells #[.int .i64 0] 3)).heap[w.heap.size + 1]? = some (.cells #[.int .i64 0] 3 (0, 0)) by simpa only [World.size_alloc] using blk_new (w.alloc (.cells #[.int .i64 0] 3)) (.cells #[.int .i64 0] 3)) hb1; have x0 := blk_cell X0 0; have x1 := blk_cell X1 0; have f0 := blk_frozen X0 0; have f1 := blk_frozen X1 0; simp at x0 x1)
  exact bodyPost_ret (res37 _ _ _ _ 0 0 rfl rfl (blk_far (by simpa using blk_set X0 0 (.int .i64 0)) (by simp) _) (by simpa using blk_set (blk_far X1 (by simp) (.int .i64 0)) 0 (.int .i64 0))) rfl ⟨rfl, ((below_go (below_alloc (below_alloc (Below.refl _ _) _) _) hb1).setCell (by simp) _).setCell (by simp) _⟩

set_option maxHeartbeats 1000000 in
theorem earned_no (A : Option Addr) (m c : Nat) (w : World)
    (hC : ∀ W, Below w.heap.size w W → Calls Try.prog 60 #[.slice A m c] W fun e W' => e = .returned (.int .i64 150) ∧ Below W.heap.size W W') :
    Calls Try.prog 40 #[.slice A m c] w fun e W' => e = .returned (.tuple #[.int .i64 0, .int .i64 150]) ∧ Below w.heap.size w W' := by
  have HC := Aside0.mk hC
  clear hC
  go_enter Try.func40, Try.ntmps40
  go_wp2_with (go_at_call 60; refine (HC.out _ (below_alloc (Below.refl _ _) _)).mono ?_; rintro e w1 ⟨rfl, hb1⟩; have X0 := blk_below (blk_new w (.cells #[.int .i64 0] 3)) hb1; have x0 := blk_cell X0 0; have f0 := blk_frozen X0 0; simp at x0)
  exact bodyPost_ret (res40 _ _ _ 0 rfl (by simpa using blk_set X0 0 (.int .i64 0))) rfl ⟨rfl, (below_go (below_alloc (Below.refl _ _) _) hb1).setCell (by simp) _⟩

theorem chk_v {l : List S39} (h : allV l = true) : chkA l = 0 := by unfold chkA; rw [if_pos h]
theorem chk_nv {l : List S39} (h : allV l = false) : chkA l = 150 := by unfold chkA; rw [h]; rfl

def average_Sums.f (l0 : List S39) : Option (Int × Int × Int) := some (sumsC l0, sumsP l0, chkA l0)
theorem average_Sums.calls (A0 : Option Addr) (c0 : Nat) (l0 : List (S39)) (r1 : Int) (r2 : Int) (r3 : Int) (w : World) (hr0 : Kd.C k39 w A0 l0.length l0) (_hc0 : l0.length ≤ c0) (h : average_Sums.f l0 = some (r1, r2, r3)) :
    Calls Try.prog 37 #[.slice A0 l0.length c0] w fun e w' => e = .returned (.tuple #[.int .i64 r1, .int .i64 r2, .int .i64 r3]) ∧ Below w.heap.size w w' := by
  have h' := Option.some.inj h
  simp only [Prod.mk.injEq] at h'
  obtain ⟨rfl, rfl, rfl⟩ := h'
  have hc := fun (W : World) (hB : Below w.heap.size w W) => check_any A0 c0 l0 W (Kd.C_below hr0 hB)
  rcases hv : allV l0 with _ | _
  · rw [chk_nv hv] at hc ⊢
    have e1 : sumsC l0 = 0 := by unfold sumsC; rw [hv]; rfl
    have e2 : sumsP l0 = 0 := by unfold sumsP; rw [hv]; rfl
    rw [e1, e2]
    exact sums_no A0 l0.length c0 w hc
  · rw [chk_v hv] at hc ⊢
    have e1 : sumsC l0 = totP (upA l0 l0.length) := by unfold sumsC; rw [hv]; rfl
    have e2 : sumsP l0 = sumP (upA l0 l0.length) := by unfold sumsP; rw [hv]; rfl
    rw [e1, e2]
    exact callsIn_wide.1 (sums_in Fence.wide 3 trivial trivial trivial trivial rfl (by omega) A0 c0 l0 w hr0 (fun W hB => callsIn_wide.2 (hc W hB)))

def average_Earned.f (l0 : List S39) : Option (Int × Int) := some (earnA l0, chkA l0)
theorem average_Earned.calls (A0 : Option Addr) (c0 : Nat) (l0 : List (S39)) (r1 : Int) (r2 : Int) (w : World) (hr0 : Kd.C k39 w A0 l0.length l0) (_hc0 : l0.length ≤ c0) (h : average_Earned.f l0 = some (r1, r2)) :
    Calls Try.prog 40 #[.slice A0 l0.length c0] w fun e w' => e = .returned (.tuple #[.int .i64 r1, .int .i64 r2]) ∧ Below w.heap.size w w' := by
  have h' := Option.some.inj h
  simp only [Prod.mk.injEq] at h'
  obtain ⟨rfl, rfl⟩ := h'
  have hc := fun (W : World) (hB : Below w.heap.size w W) => check_any A0 c0 l0 W (Kd.C_below hr0 hB)
  rcases hv : allV l0 with _ | _
  · rw [chk_nv hv] at hc ⊢
    have e1 : earnA l0 = 0 := by unfold earnA; rw [hv]; rfl
    rw [e1]
    exact earned_no A0 l0.length c0 w hc
  · rw [chk_v hv] at hc ⊢
    have e1 : earnA l0 = earnP (upA l0 l0.length) := by unfold earnA; rw [hv]; rfl
    rw [e1]
    exact callsIn_wide.1 (earned_in Fence.wide 3 trivial trivial trivial trivial rfl (by omega) A0 c0 l0 w hr0 (fun W hB => callsIn_wide.2 (hc W hB)))
end Go.Proofs.Ytgoicalffgehoaa.P
