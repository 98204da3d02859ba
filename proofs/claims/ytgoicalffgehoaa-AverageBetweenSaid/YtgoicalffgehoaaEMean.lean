/- The contract of ratio.Mean (a range over a function). Condition: both lists have at most 2^20 elements. -/
import Derived.RangeFuncNested
import Derived.RangeFuncBound
import Derived.RangeFuncCalls
import Derived.RangeFuncLeaves
import Derived.RangeFuncBox
import Derived.Shelf.Abstract
import Derived.Shelf.RegionOpen
import Derived.WalkKit
import Derived.OwnWalkIn
import Derived.TacticsInMore
import Derived.LoopNIn
import Derived.LoopIn
import Derived.Test.YtgoicalffgehoaaERat
namespace Go.Proofs.Ytgoicalffgehoaa.P
open Go.RowKit Go.Shelf Go.Proofs.YtgoicalffgehoaaW.PrintWords
open Go.Proofs.Ytgoicalffgehoaa

attribute [local go_sem] Oper.semAt_some

/-- What a round keeps: all that lay ahead of the call, and the iterator's own two boxes. -/
def Kpm (n0 B0 B1 : Nat) (W W' : World) : Prop := Below n0 W W' ∧ (∀ o, W.heap[B0]? = some o → o.isCells = true → W'.heap[B0]? = some o) ∧ (∀ o, W.heap[B1]? = some o → o.isCells = true → W'.heap[B1]? = some o)

theorem kpm_t {n0 B0 B1 : Nat} {A B C : World} (h : Kpm n0 B0 B1 A B) (k : Kpm n0 B0 B1 B C) : Kpm n0 B0 B1 A C :=
  ⟨h.1.trans k.1, fun o ho hc => k.2.1 o (h.2.1 o ho hc) hc, fun o ho hc => k.2.2 o (h.2.2 o ho hc) hc⟩

theorem kpm_b {n0 B0 B1 : Nat} {w : World} (hn : n0 ≤ w.heap.size) (W : World) (l : Nat) (o o' : Obj) (hl : w.heap.size ≤ l) (h : W.heap[l]? = some o) (hc : o.isCells = false) (hw : o.isWalk = false) : Kpm n0 B0 B1 W (W.putObj l o') :=
  ⟨belowK_b hn W l o o' hl h hc hw, fun q hq hqc => (World.putObj_heap_other (fun e => by subst e; rw [h] at hq; cases hq; rw [hc] at hqc; cases hqc)).trans hq,
   fun q hq hqc => (World.putObj_heap_other (fun e => by subst e; rw [h] at hq; cases hq; rw [hc] at hqc; cases hqc)).trans hq⟩

theorem pairs_in (F : Fence) (n : Nat) (h57 : F.fn 57) (hro : F.round = none) (A0 A1 : Option Addr) (n0 c0 n1 c1 : Nat) (w : World) :
    CallsIn F n Try.prog 57 #[.slice A0 n0 c0, .slice A1 n1 c1] w fun e w' => e = .returned (.func (.func 67) #[] #[.pointer (some ⟨w.heap.size, 0, none⟩), .pointer (some ⟨w.heap.size + 1, 0, none⟩)]) ∧ w' = (w.alloc (.cells #[.slice A0 n0 c0] 34)).alloc (.cells #[.slice A1 n1 c1] 34) := by
  refine callsIn_of_wp Try.func57 rfl h57 ?_ hro
  simp only [Try.ntmps57, List.size_toArray, List.length_cons, List.length_nil, Nat.reduceAdd, Nat.reduceSub, Array.replicate_succ, Array.replicate_zero, List.push_toArray, List.append_toArray, List.nil_append, List.cons_append]
  gi_wp2
  go_ret
  exact ⟨rfl, rfl⟩

def upP (vs ws : List Int) (k : Nat) : List (Int × Int) := (List.range k).map fun j : Nat => (rd vs (j : Int), rd ws (j : Int))
theorem upP_succ (vs ws : List Int) (k : Nat) : upP vs ws (k + 1) = upP vs ws k ++ [(rd vs k, rd ws k)] := by simp [upP, List.range_succ]
theorem upP_length (vs ws : List Int) (k : Nat) : (upP vs ws k).length = k := by simp [upP]

set_option maxRecDepth 100000 in
set_option maxHeartbeats 2000000 in
theorem pairs1_in (F : Fence) (n : Nat) (h67 : F.fn 67) (hro : F.round = none) (hn : 1 ≤ n) (l B0 B1 : Nat) (w0 : World) (A0 A1 : Option Addr) (c0 c1 : Nat) (vs ws : List Int)
    (hr0 : Kd.C (Kd.int .i64) w0 A0 vs.length vs) (hr1 : Kd.C (Kd.int .i64) w0 A1 ws.length ws) (hl : ws.length = vs.length) (J Jx : List (Int × Int) → World → Prop)
    (hY : ∀ pre x W, J pre W → pre.length < vs.length → YieldAt F (n - 1) Try.prog l #[.int .i64 x.1, .int .i64 x.2] W fun e W' =>
      (e = .returned (.bool true) ∧ J (pre ++ [x]) W' ∧ Kpm w0.heap.size B0 B1 W W') ∨ (e = .returned (.bool false) ∧ Jx (pre ++ [x]) W'))
    (W : World) (hW : Below w0.heap.size w0 W) (hB0 : Boxed W B0 34 (.slice A0 vs.length c0)) (hB1 : Boxed W B1 34 (.slice A1 ws.length c1)) (h0 : J [] W) :
    CallsIn F n Try.prog 67 #[.func (.yield l) #[] #[], .pointer (some ⟨B0, 0, none⟩), .pointer (some ⟨B1, 0, none⟩)] W fun e W' => (∃ v, e = .returned v) ∧
      ((∃ ys, ys = upP vs ws vs.length ∧ J ys W') ∨ (∃ pre, (∃ k, k ≤ vs.length ∧ pre = upP vs ws k) ∧ Jx pre W')) := by
  have hm : vs.length ≤ 9223372036854775807 := hr0.2.1
  refine callsIn_of_wp Try.func67 rfl h67 ?_ hro
  simp only [Try.ntmps67, List.size_toArray, List.length_cons, List.length_nil, Nat.reduceAdd, Nat.reduceSub, Array.replicate_succ, Array.replicate_zero, List.push_toArray, List.append_toArray, List.nil_append, List.cons_append]
  have cB0 := hB0.cell
  gi_wp2
  gi_loopw [8] (fun i wr => ∃ k : Nat, k ≤ vs.length ∧ i = .int .i64 k ∧ J (upP vs ws k) wr ∧ Kpm w0.heap.size B0 B1 W wr)
    (fun i _ => vs.length - (intOf i).toNat)
  case atStart => exact ⟨0, Nat.zero_le _, rfl, h0, Below.refl _ _, fun _ h _ => h, fun _ h _ => h⟩
  case round =>
    obtain ⟨k, hk, rfl, hJs, hnx⟩ := hrel
    have cB1 : Boxed wr B1 34 (.slice A1 ws.length c1) := hnx.2.2 _ hB1 rfl
    have cB1c := cB1.cell
    by_cases hlt : k < vs.length
    · obtain ⟨ad0, e0, hx0⟩ := Kd.at_int hr0 (k : Int) (by omega) (by omega)
      obtain ⟨ad1, e1, hx1⟩ := Kd.at_int hr1 (k : Int) (by omega) (by omega)
      subst e0 e1
      replace hx0 := pw_cell_below (hW.trans hnx.1) hx0
      replace hx1 := pw_cell_below (hW.trans hnx.1) hx1
      simp only [Int.toNat_natCast] at hx0 hx1
      obtain ⟨fn, tmps, assign, body, hy, hR⟩ := hY _ (rd vs (k : Int), rd ws (k : Int)) wr hJs (by rw [upP_length]; exact hlt)
      dsimp only at hy
      have hlt1 : k < ws.length := by omega
      gi_wp2
      refine hR.mono ?_
      rintro e W3 (⟨rfl, hJ3, hk3⟩ | ⟨rfl, hJx3⟩)
      · gi_wp2
        go_roundw
        case rel => exact ⟨k + 1, by omega, by simp, by rw [upP_succ]; exact hJ3, kpm_t hnx hk3⟩
        case measure => simp [intOf]; omega
      · gi_wp2
        refine bodyPost_ret (results_none rfl _ _ _) rfl ?_
        exact ⟨⟨_, rfl⟩, .inr ⟨_, ⟨k + 1, by omega, (upP_succ _ _ _).symm⟩, hJx3⟩⟩
    · obtain rfl : k = vs.length := by omega
      gi_wp2
      go_end0
      exact ⟨⟨_, rfl⟩, .inl ⟨_, rfl, hJs⟩⟩

theorem pairs_stops (F : Fence) (n : Nat) (h67 : F.fn 67) (hro : F.round = none) (hn : 1 ≤ n) (B0 B1 : Nat) (w0 : World) (A0 A1 : Option Addr) (c0 c1 : Nat) (vs ws : List Int)
    (hr0 : Kd.C (Kd.int .i64) w0 A0 vs.length vs) (hr1 : Kd.C (Kd.int .i64) w0 A1 ws.length ws) (hl : ws.length = vs.length) (w : World) (hw : Below w0.heap.size w0 w)
    (hB0 : Boxed w B0 34 (.slice A0 vs.length c0)) (hB1 : Boxed w B1 34 (.slice A1 ws.length c1)) :
    SeqStopsK F n Try.prog 67 #[.pointer (some ⟨B0, 0, none⟩), .pointer (some ⟨B1, 0, none⟩)] (fun x : Int × Int => #[Value.int .i64 x.1, Value.int .i64 x.2]) (Kpm w0.heap.size B0 B1) (fun ys => ys = upP vs ws vs.length)
      (fun pre => ∃ k, k ≤ vs.length ∧ pre = upP vs ws k) vs.length w := fun l J Jx W hW _ _ hY h0 => by
  exact pairs1_in F n h67 hro hn l B0 B1 w0 A0 A1 c0 c1 vs ws hr0 hr1 hl J Jx hY W (below_then hw hw.size hW) ((hW.block B0 hB0.lt).trans hB0) ((hW.block B1 hB1.lt).trans hB1) h0

def okP (x : Int × Int) : Bool := decide (-1048576 ≤ x.1 ∧ x.1 ≤ 1048576 ∧ 0 ≤ x.2 ∧ x.2 ≤ 1048576)
def BadAt (pre : List (Int × Int)) : Prop := ∃ ini last, pre = ini ++ [last] ∧ okP last = false
def sumP (l : List (Int × Int)) : Int := l.foldl (fun s p => wrap64 (s + wrap64 (p.1 * p.2))) 0
def totP (l : List (Int × Int)) : Int := l.foldl (fun s p => wrap64 (s + p.2)) 0
theorem sumP_snoc (l : List (Int × Int)) (x : Int × Int) : sumP (l ++ [x]) = wrap64 (sumP l + wrap64 (x.1 * x.2)) := by simp [sumP]
theorem totP_snoc (l : List (Int × Int)) (x : Int × Int) : totP (l ++ [x]) = wrap64 (totP l + x.2) := by simp [totP]

theorem sumP_in64 (l : List (Int × Int)) : in64 (sumP l) := by
  rcases List.eq_nil_or_concat l with rfl | ⟨l', x, rfl⟩
  · decide
  · rw [List.concat_eq_append, sumP_snoc]; exact wrap64_in64 _
theorem totP_in64 (l : List (Int × Int)) : in64 (totP l) := by
  rcases List.eq_nil_or_concat l with rfl | ⟨l', x, rfl⟩
  · decide
  · rw [List.concat_eq_append, totP_snoc]; exact wrap64_in64 _

theorem blk_own {β : Type} (b : Nat) (t : TypeId) (f : β → Array Value) : Own (fun s W => W.heap[b]? = some (.cells (f s) t (0, 0))) := fun s X Y row hs hg hrow =>
  blk_grown hs hg (fun e' => by obtain ⟨o, ho, hc⟩ := hrow b e'.symm; rw [hs] at ho; cases ho; cases hc)

def prs (vs ws : List Int) : List (Int × Int) := upP vs ws vs.length
def meanOk (vs ws : List Int) : Bool := decide (ws.length = vs.length) && (prs vs ws).all okP
def maxI (a b : Int) : Int := if a < b then b else a
def meanN (vs ws : List Int) : Int := if meanOk vs ws then newN (sumP (prs vs ws)) (maxI (totP (prs vs ws)) 1) else 0
def meanD (vs ws : List Int) : Int := if meanOk vs ws then newD (sumP (prs vs ws)) (maxI (totP (prs vs ws)) 1) else 0
def meanE (vs ws : List Int) : Int := if meanOk vs ws then newE (sumP (prs vs ws)) (maxI (totP (prs vs ws)) 1) else 1

theorem chain6 (w : World) (O1 O2 O3 O4 O5 O6 : Obj) : let W := (((((w.alloc O1).alloc O2).alloc O3).alloc O4).alloc O5).alloc O6
    W.heap[w.heap.size]? = some O1 ∧ W.heap[w.heap.size + 1]? = some O2 ∧ W.heap[w.heap.size + 1 + 1]? = some O3 ∧ W.heap[w.heap.size + 1 + 1 + 1]? = some O4 ∧ W.heap[w.heap.size + 1 + 1 + 1 + 1]? = some O5 ∧ W.heap[w.heap.size + 1 + 1 + 1 + 1 + 1]? = some O6 := by
  refine ⟨blk_alloc (blk_alloc (blk_alloc (blk_alloc (blk_alloc (blk_new w O1) _) _) _) _) _, ?_, ?_, ?_, ?_, ?_⟩
  · have := blk_alloc (blk_alloc (blk_alloc (blk_alloc (blk_new (w.alloc O1) O2) O3) O4) O5) O6
    simpa only [World.size_alloc] using this
  · have := blk_alloc (blk_alloc (blk_alloc (blk_new ((w.alloc O1).alloc O2) O3) O4) O5) O6
    simpa only [World.size_alloc] using this
  · have := blk_alloc (blk_alloc (blk_new (((w.alloc O1).alloc O2).alloc O3) O4) O5) O6
    simpa only [World.size_alloc] using this
  · have := blk_alloc (blk_new ((((w.alloc O1).alloc O2).alloc O3).alloc O4) O5) O6
    simpa only [World.size_alloc] using this
  · have := blk_new (((((w.alloc O1).alloc O2).alloc O3).alloc O4).alloc O5) O6
    simpa only [World.size_alloc] using this

theorem res29 (tmps : Array Value) (W : World) (g g' : Nat) (a b c : Int) (h4 : tmps[4]?.getD undef = .pointer (some ⟨g, 0, none⟩)) (h5 : tmps[5]?.getD undef = .pointer (some ⟨g', 0, none⟩))
    (hg : W.heap[g]? = some (.cells #[.int .i64 a, .int .i64 b] 23 (0, 0))) (hg' : W.heap[g']? = some (.cells #[.int .i64 c] 25 (0, 0))) :
    (results Try.f29 tmps).run Try.prog W = .ok (.tuple #[.agg #[.int .i64 a, .int .i64 b], .int .i64 c]) W := by
  have x0 := blk_cell hg 0
  have x1 := blk_cell hg 1
  have x2 := blk_cell hg' 0
  simp at x0 x1 x2
  simp [results, Try.results29, go_sem, h4, h5, x0, x1, x2]

theorem okP_no {x : Int × Int} (h : ¬ (-1048576 ≤ x.1 ∧ x.1 ≤ 1048576 ∧ 0 ≤ x.2 ∧ x.2 ≤ 1048576)) : okP x = false := by unfold okP; exact decide_eq_false h
theorem okP_yes {x : Int × Int} (h : -1048576 ≤ x.1 ∧ x.1 ≤ 1048576 ∧ 0 ≤ x.2 ∧ x.2 ≤ 1048576) : okP x = true := by unfold okP; exact decide_eq_true h

set_option maxRecDepth 100000 in
set_option maxHeartbeats 4000000 in
theorem mean_in (F : Fence) (n : Nat) (h29 : F.fn 29) (h57 : F.fn 57) (h67 : F.fn 67) (h19 : F.fn 19) (hro : F.round = none) (hn : 3 ≤ n) (A0 A1 : Option Addr) (c0 c1 : Nat) (vs ws : List Int) (w : World)
    (hr0 : Kd.C (Kd.int .i64) w A0 vs.length vs) (hr1 : Kd.C (Kd.int .i64) w A1 ws.length ws) (hl : ws.length = vs.length) (hs : vs.length ≤ 1048576)
    (hN : ∀ p d W, in64 p → in64 d → CallsIn F (n - 1) Try.prog 19 #[.int .i64 p, .int .i64 d] W fun e W' => e = .returned (.tuple #[.agg #[.int .i64 (newN p d), .int .i64 (newD p d)], .int .i64 (newE p d)]) ∧ Below W.heap.size W W') :
    CallsIn F n Try.prog 29 #[.slice A0 vs.length c0, .slice A1 ws.length c1] w fun e W' => e = .returned (.tuple #[.agg #[.int .i64 (meanN vs ws), .int .i64 (meanD vs ws)], .int .i64 (meanE vs ws)]) ∧ Below w.heap.size w W' := by
  have h1 : 1 ≤ n := by omega
  have hu23 := Try.underlying23
  refine callsIn_of_wp_marks Try.func29 rfl h29 ?_ hro
  simp only [Try.ntmps29, List.size_toArray, List.length_cons, List.length_nil, Nat.reduceAdd, Nat.reduceSub, Array.replicate_succ, Array.replicate_zero, List.push_toArray, List.append_toArray, List.nil_append, List.cons_append]
  rw [hl]
  gi_wp2_with (gi_at_call 57; refine (pairs_in F (n - 1) h57 hro _ _ _ _ _ _ _).mono ?_; rintro e w' ⟨rfl, rfl⟩)
  obtain ⟨bR, bE, bS, bT, bV, bW⟩ := chain6 w (.cells #[.int .i64 0, .int .i64 0] 23) (.cells #[.int .i64 0] 25) (.cells #[.int .i64 0] 3) (.cells #[.int .i64 0] 3) (.cells #[.slice A0 vs.length c0] 34) (.cells #[.slice A1 vs.length c1] 34)
  have hB0 : Below w.heap.size w ((((((w.alloc (.cells #[.int .i64 0, .int .i64 0] 23)).alloc (.cells #[.int .i64 0] 25)).alloc (.cells #[.int .i64 0] 3)).alloc (.cells #[.int .i64 0] 3)).alloc (.cells #[.slice A0 vs.length c0] 34)).alloc (.cells #[.slice A1 vs.length c1] 34)) :=
    below_alloc (below_alloc (below_alloc (below_alloc (below_alloc (below_alloc (Below.refl _ _) _) _) _) _) _) _
  refine wpIn_rangeFunc_ownG hro h1 (gf := 67) (lb := #[.pointer (some ⟨w.heap.size + 1 + 1 + 1 + 1, 0, none⟩), .pointer (some ⟨w.heap.size + 1 + 1 + 1 + 1 + 1, 0, none⟩)]) rfl h67 (enters_of Try.func67 (by kernel_rfl) rfl)
    (pairs_stops F (n - 1) h67 hro (by omega) (w.heap.size + 1 + 1 + 1 + 1) (w.heap.size + 1 + 1 + 1 + 1 + 1) w A0 A1 c0 c1 vs ws hr0 hr1 hl _ hB0 bV (by rw [hl]; exact bW)) kpm_t (kpm_b (by simp <;> omega)) (Below.refl _ _) (fun _ => rfl)
    (fun pre W => ((∀ p ∈ pre, okP p = true) ∧ W.heap[w.heap.size]? = some (.cells #[.int .i64 0, .int .i64 0] 23 (0, 0)) ∧ W.heap[w.heap.size + 1]? = some (.cells #[.int .i64 0] 25 (0, 0)) ∧ W.heap[w.heap.size + 1 + 1]? = some (.cells #[.int .i64 (sumP pre)] 3 (0, 0)) ∧ W.heap[w.heap.size + 1 + 1 + 1]? = some (.cells #[.int .i64 (totP pre)] 3 (0, 0))) ∧ Below w.heap.size w W)
    (fun c pre W => (c = .ret ∧ BadAt pre ∧ W.heap[w.heap.size]? = some (.cells #[.int .i64 0, .int .i64 0] 23 (0, 0)) ∧ W.heap[w.heap.size + 1]? = some (.cells #[.int .i64 1] 25 (0, 0))) ∧ Below w.heap.size w W)
    (OwnFrom.and (Own.from (fun s A B row hs hg hr => ⟨hs.1, blk_own (β := Unit) _ _ (fun _ => _) () _ _ _ hs.2.1 hg hr, blk_own (β := Unit) _ _ (fun _ => _) () _ _ _ hs.2.2.1 hg hr, blk_own (β := Unit) _ _ (fun _ => _) () _ _ _ hs.2.2.2.1 hg hr, blk_own (β := Unit) _ _ (fun _ => _) () _ _ _ hs.2.2.2.2 hg hr⟩) _) (ownFrom_below (Nat.le_refl _) (by simp <;> omega)))
    (fun c => OwnFrom.and (Own.from (fun s A B row hs hg hr => ⟨hs.1, hs.2.1, blk_own (β := Unit) _ _ (fun _ => _) () _ _ _ hs.2.2.1 hg hr, blk_own (β := Unit) _ _ (fun _ => _) () _ _ _ hs.2.2.2 hg hr⟩) _) (ownFrom_below (Nat.le_refl _) (by simp <;> omega)))
    ⟨⟨by simp, bR, bE, bS, bT⟩, hB0⟩
    (fun x => { tmps := #[.slice A0 vs.length c0, .slice A1 vs.length c1, undef, undef, .pointer (some ⟨w.heap.size, 0, none⟩), .pointer (some ⟨w.heap.size + 1, 0, none⟩), .pointer (some ⟨w.heap.size + 1 + 1, 0, none⟩), .pointer (some ⟨w.heap.size + 1 + 1 + 1, 0, none⟩), .int .i64 x.1, .int .i64 x.2, .slice A0 vs.length c0, .int .i64 vs.length, .slice A1 vs.length c1, .int .i64 vs.length, .bool false, undef, .slice A0 vs.length c0, .slice A1 vs.length c1, .func (.func 67) #[] #[.pointer (some ⟨w.heap.size + 1 + 1 + 1 + 1, 0, none⟩), .pointer (some ⟨w.heap.size + 1 + 1 + 1 + 1 + 1, 0, none⟩)], .int .i64 x.1, .int .i64 x.2, undef, undef, undef, undef, undef, undef, undef, undef, undef, undef, undef, undef, undef, undef, undef, undef, undef, undef, undef, undef, undef, undef, undef, undef, undef, undef, undef, undef, undef, undef, undef, undef, undef], defers := [] }) ?assign ?body ?done ?stop
  case assign =>
    intro l x W K hK
    gi_wp2
    exact hK
  case body =>
    rintro l pre x W ⟨⟨hp, hR, hE, hS, hT⟩, hB⟩ _
    have cR0 := blk_cell hR 0
    have cR1 := blk_cell hR 1
    have fR0 := blk_frozen hR 0
    have fR1 := blk_frozen hR 1
    have cE := blk_cell hE 0
    have fE := blk_frozen hE 0
    have cS := blk_cell hS 0
    have fS := blk_frozen hS 0
    have cT := blk_cell hT 0
    have fT := blk_frozen hT 0
    simp at cR0 cR1 cE cS cT
    by_cases hx : -1048576 ≤ x.1 ∧ x.1 ≤ 1048576 ∧ 0 ≤ x.2 ∧ x.2 ≤ 1048576
    · obtain ⟨x1, x2, x3, x4⟩ := hx
      gi_wp2
      have hq := okP_yes (x := x) ⟨x1, x2, x3, x4⟩
      refine ⟨((KeepsOthers.setCell _ _ _).trans (KeepsOthers.setCell _ _ _)).from _, ⟨((Below.refl _ _).setCell (by simp <;> omega) _).setCell (by simp <;> omega) _, fun o ho _ => ?_, fun o ho _ => ?_⟩, ⟨fun p hp' => (List.mem_append.1 hp').elim (hp p) (fun e => by simp at e; subst e; exact hq), ?_, ?_, ?_, ?_⟩, (hB.setCell (by simp <;> omega) _).setCell (by simp <;> omega) _⟩
      · exact (Below.heap_setCell _ _ _ _ (by simp <;> omega)).trans ((Below.heap_setCell _ _ _ _ (by simp <;> omega)).trans ho)
      · exact (Below.heap_setCell _ _ _ _ (by simp <;> omega)).trans ((Below.heap_setCell _ _ _ _ (by simp <;> omega)).trans ho)
      · exact blk_far (blk_far hR (by simp <;> omega) _) (by simp <;> omega) _
      · exact blk_far (blk_far hE (by simp <;> omega) _) (by simp <;> omega) _
      · rw [sumP_snoc]; exact blk_far (by simpa using blk_set hS 0 _) (by simp) _
      · rw [totP_snoc]; simpa using blk_set (blk_far hT (by simp) _) 0 _
    · have hq := okP_no hx
      have hx2 : x.1 < -1048576 ∨ 1048576 < x.1 ∨ x.2 < 0 ∨ 1048576 < x.2 := by omega
      clear hx
      by_cases y1 : x.1 < -1048576
      · clear hx2
        gi_wp2
        exact ⟨(((KeepsOthers.setCell _ _ _).trans (KeepsOthers.setCell _ _ _)).trans (KeepsOthers.setCell _ _ _)).from _, ⟨rfl, ⟨pre, x, rfl, hq⟩, blk_far (by simpa using blk_set (blk_set hR 0 (.int .i64 0)) 1 (.int .i64 0)) (by simp) _, by simpa using blk_set (blk_far (blk_far hE (by simp) _) (by simp) _) 0 (.int .i64 1)⟩, ((hB.setCell (by simp) _).setCell (by simp) _).setCell (by simp) _⟩
      · by_cases y2 : 1048576 < x.1
        · clear hx2
          gi_wp2
          exact ⟨(((KeepsOthers.setCell _ _ _).trans (KeepsOthers.setCell _ _ _)).trans (KeepsOthers.setCell _ _ _)).from _, ⟨rfl, ⟨pre, x, rfl, hq⟩, blk_far (by simpa using blk_set (blk_set hR 0 (.int .i64 0)) 1 (.int .i64 0)) (by simp) _, by simpa using blk_set (blk_far (blk_far hE (by simp) _) (by simp) _) 0 (.int .i64 1)⟩, ((hB.setCell (by simp) _).setCell (by simp) _).setCell (by simp) _⟩
        · by_cases y3 : x.2 < 0
          · clear hx2
            gi_wp2
            exact ⟨(((KeepsOthers.setCell _ _ _).trans (KeepsOthers.setCell _ _ _)).trans (KeepsOthers.setCell _ _ _)).from _, ⟨rfl, ⟨pre, x, rfl, hq⟩, blk_far (by simpa using blk_set (blk_set hR 0 (.int .i64 0)) 1 (.int .i64 0)) (by simp) _, by simpa using blk_set (blk_far (blk_far hE (by simp) _) (by simp) _) 0 (.int .i64 1)⟩, ((hB.setCell (by simp) _).setCell (by simp) _).setCell (by simp) _⟩
          · have y4 : 1048576 < x.2 := by omega
            clear hx2
            gi_wp2
            exact ⟨(((KeepsOthers.setCell _ _ _).trans (KeepsOthers.setCell _ _ _)).trans (KeepsOthers.setCell _ _ _)).from _, ⟨rfl, ⟨pre, x, rfl, hq⟩, blk_far (by simpa using blk_set (blk_set hR 0 (.int .i64 0)) 1 (.int .i64 0)) (by simp) _, by simpa using blk_set (blk_far (blk_far hE (by simp) _) (by simp) _) 0 (.int .i64 1)⟩, ((hB.setCell (by simp) _).setCell (by simp) _).setCell (by simp) _⟩
  case done =>
    rintro D ys W hD rfl ⟨⟨hp, hR, hE, hS, hT⟩, hB⟩ hK
    have cS := blk_cell hS 0
    have cT := blk_cell hT 0
    simp at cS cT
    have hns : ((vs.length : Int) > 1048576) = False := by simp; omega
    have hok : meanOk vs ws = true := by
      unfold meanOk prs
      rw [Bool.and_eq_true]
      exact ⟨decide_eq_true hl, List.all_eq_true.2 hp⟩
    have eN : meanN vs ws = newN (sumP (upP vs ws vs.length)) (maxI (totP (upP vs ws vs.length)) 1) := by unfold meanN; rw [if_pos hok]; rfl
    have eD : meanD vs ws = newD (sumP (upP vs ws vs.length)) (maxI (totP (upP vs ws vs.length)) 1) := by unfold meanD; rw [if_pos hok]; rfl
    have eE : meanE vs ws = newE (sumP (upP vs ws vs.length)) (maxI (totP (upP vs ws vs.length)) 1) := by unfold meanE; rw [if_pos hok]; rfl
    have EQ := Aside0.mk (show _ ∧ _ ∧ _ from ⟨eN, eD, eE⟩)
    clear eN eD eE hok hp
    have hi1 := sumP_in64 (upP vs ws vs.length)
    have hi2 := totP_in64 (upP vs ws vs.length)
    generalize sumP (upP vs ws vs.length) = sm at *
    generalize totP (upP vs ws vs.length) = tt at *
    have hlt := blk_lt hE
    have hNn := fun W => hN sm (maxI tt 1) W hi1 (by unfold maxI; unfold in64 at hi2 ⊢; split <;> omega)
    have cR0 := blk_cell hR 0
    have cE := blk_cell hE 0
    by_cases ht : tt < 1
    · have e : maxI tt 1 = 1 := by unfold maxI; rw [if_pos ht]
      have EM := Aside0.mk e
      rw [e] at hNn
      clear e hi2
      gi_wp2_with (gi_at_call 19; refine (hNn _).mono ?_; rintro e w1 ⟨rfl, hb1⟩; have R1 := blk_below hR hb1; have E1 := blk_below hE hb1; have r0 := blk_cell R1 0; have r1 := blk_cell R1 1; have r2 := blk_frozen R1 0; have r3 := blk_frozen R1 1; have e0 := blk_cell E1 0; have e2 := blk_frozen E1 0; simp at r0 r1 e0)
      have hK' := (((KeepsOthers.setCell w1 ⟨w.heap.size, 0, none⟩ (.int .i64 (newN sm 1))).trans (KeepsOthers.setCell _ ⟨w.heap.size, 1, none⟩ (.int .i64 (newD sm 1)))).trans (KeepsOthers.setCell _ ⟨w.heap.size + 1, 0, none⟩ (.int .i64 (newE sm 1)))).same D _ ((hb1.block D (blk_lt hK)).trans hK) rfl
      simp only [World.size_alloc] at hD
      have hRf : (((w1.setCell ⟨w.heap.size, 0, none⟩ (.int .i64 (newN sm 1))).setCell ⟨w.heap.size, 1, none⟩ (.int .i64 (newD sm 1))).setCell ⟨w.heap.size + 1, 0, none⟩ (.int .i64 (newE sm 1))).heap[w.heap.size]? = some (.cells #[.int .i64 (newN sm 1), .int .i64 (newD sm 1)] 23 (0, 0)) :=
        blk_far (by simpa using blk_set (blk_set R1 0 (.int .i64 (newN sm 1))) 1 (.int .i64 (newD sm 1))) (by simp) _
      have hEf : (((w1.setCell ⟨w.heap.size, 0, none⟩ (.int .i64 (newN sm 1))).setCell ⟨w.heap.size, 1, none⟩ (.int .i64 (newD sm 1))).setCell ⟨w.heap.size + 1, 0, none⟩ (.int .i64 (newE sm 1))).heap[w.heap.size + 1]? = some (.cells #[.int .i64 (newE sm 1)] 25 (0, 0)) := by
        simpa using blk_set (blk_far (blk_far E1 (by simp) (.int .i64 (newN sm 1))) (by simp) (.int .i64 (newD sm 1))) 0 (.int .i64 (newE sm 1))
      refine ⟨by simp, .inl ⟨_, _, rfl, run_takeDeferred hK', _, res29 _ _ _ _ _ _ _ rfl rfl ((World.putObj_heap_other (by omega)).trans hRf) ((World.putObj_heap_other (by omega)).trans hEf), ?_, ?_⟩⟩
      · obtain ⟨q1, q2, q3⟩ := EQ.out
        rw [q1, q2, q3, EM.out]
      · exact ((((below_then hB hB.size hb1).setCell (by simp) _).setCell (by simp) _).setCell (by simp) _).trans (belowK_b (w := w) (Nat.le_refl _) _ D _ _ (by omega) hK' rfl rfl)
    · have e : maxI tt 1 = tt := by unfold maxI; rw [if_neg ht]
      have EM := Aside0.mk e
      rw [e] at hNn
      clear e hi2
      gi_wp2_with (gi_at_call 19; refine (hNn _).mono ?_; rintro e w1 ⟨rfl, hb1⟩; have R1 := blk_below hR hb1; have E1 := blk_below hE hb1; have r0 := blk_cell R1 0; have r1 := blk_cell R1 1; have r2 := blk_frozen R1 0; have r3 := blk_frozen R1 1; have e0 := blk_cell E1 0; have e2 := blk_frozen E1 0; simp at r0 r1 e0)
      have hK' := (((KeepsOthers.setCell w1 ⟨w.heap.size, 0, none⟩ (.int .i64 (newN sm tt))).trans (KeepsOthers.setCell _ ⟨w.heap.size, 1, none⟩ (.int .i64 (newD sm tt)))).trans (KeepsOthers.setCell _ ⟨w.heap.size + 1, 0, none⟩ (.int .i64 (newE sm tt)))).same D _ ((hb1.block D (blk_lt hK)).trans hK) rfl
      simp only [World.size_alloc] at hD
      have hRf : (((w1.setCell ⟨w.heap.size, 0, none⟩ (.int .i64 (newN sm tt))).setCell ⟨w.heap.size, 1, none⟩ (.int .i64 (newD sm tt))).setCell ⟨w.heap.size + 1, 0, none⟩ (.int .i64 (newE sm tt))).heap[w.heap.size]? = some (.cells #[.int .i64 (newN sm tt), .int .i64 (newD sm tt)] 23 (0, 0)) :=
        blk_far (by simpa using blk_set (blk_set R1 0 (.int .i64 (newN sm tt))) 1 (.int .i64 (newD sm tt))) (by simp) _
      have hEf : (((w1.setCell ⟨w.heap.size, 0, none⟩ (.int .i64 (newN sm tt))).setCell ⟨w.heap.size, 1, none⟩ (.int .i64 (newD sm tt))).setCell ⟨w.heap.size + 1, 0, none⟩ (.int .i64 (newE sm tt))).heap[w.heap.size + 1]? = some (.cells #[.int .i64 (newE sm tt)] 25 (0, 0)) := by
        simpa using blk_set (blk_far (blk_far E1 (by simp) (.int .i64 (newN sm tt))) (by simp) (.int .i64 (newD sm tt))) 0 (.int .i64 (newE sm tt))
      refine ⟨by simp, .inl ⟨_, _, rfl, run_takeDeferred hK', _, res29 _ _ _ _ _ _ _ rfl rfl ((World.putObj_heap_other (by omega)).trans hRf) ((World.putObj_heap_other (by omega)).trans hEf), ?_, ?_⟩⟩
      · obtain ⟨q1, q2, q3⟩ := EQ.out
        rw [q1, q2, q3, EM.out]
      · exact ((((below_then hB hB.size hb1).setCell (by simp) _).setCell (by simp) _).setCell (by simp) _).trans (belowK_b (w := w) (Nat.le_refl _) _ D _ _ (by omega) hK' rfl rfl)
  case stop =>
    rintro D c pre W hD ⟨k, hk, rfl⟩ ⟨⟨rfl, hbad, hR, hE⟩, hB⟩ hK
    have hok : meanOk vs ws = false := by
      obtain ⟨ini, last, e1, e2⟩ := hbad
      have hmem : last ∈ prs vs ws := by
        have h3 : last ∈ upP vs ws k := by rw [e1]; simp
        unfold upP at h3
        obtain ⟨j, hj, rfl⟩ := List.mem_map.1 h3
        exact List.mem_map.2 ⟨j, List.mem_range.2 (Nat.lt_of_lt_of_le (List.mem_range.1 hj) hk), rfl⟩
      unfold meanOk
      rw [Bool.and_eq_false_iff]
      refine .inr ?_
      rw [List.all_eq_false]
      exact ⟨last, hmem, by rw [e2]; simp⟩
    have eN : meanN vs ws = 0 := by unfold meanN; rw [hok]; rfl
    have eD : meanD vs ws = 0 := by unfold meanD; rw [hok]; rfl
    have eE : meanE vs ws = 1 := by unfold meanE; rw [hok]; rfl
    have EQ := Aside0.mk (show _ ∧ _ ∧ _ from ⟨eN, eD, eE⟩)
    clear eN eD eE hok hbad
    gi_wp2
    simp only [World.size_alloc] at hD
    refine ⟨by simp, .inl ⟨_, _, rfl, run_takeDeferred hK, _, res29 _ _ _ _ _ _ _ rfl rfl ((World.putObj_heap_other (by omega)).trans hR) ((World.putObj_heap_other (by omega)).trans hE), ?_, ?_⟩⟩
    · obtain ⟨q1, q2, q3⟩ := EQ.out
      rw [q1, q2, q3]
    · exact hB.trans (belowK_b (w := w) (Nat.le_refl _) _ D _ _ (by omega) hK rfl rfl)

set_option maxHeartbeats 2000000 in
theorem mean_ne (A0 A1 : Option Addr) (c0 c1 : Nat) (m0 m1 : Nat) (w : World) (hne : ((m0 : Int) != (m1 : Int)) = true) :
    Calls Try.prog 29 #[.slice A0 m0 c0, .slice A1 m1 c1] w fun e W' => e = .returned (.tuple #[.agg #[.int .i64 0, .int .i64 0], .int .i64 1]) ∧ Below w.heap.size w W' := by
  have hu23 := Try.underlying23
  have hne2 : (m0 : Int) ≠ (m1 : Int) := by simpa using hne
  have hne3 : m0 ≠ m1 := by omega
  go_enter Try.func29, Try.ntmps29
  go_wp2_with fail
  exact bodyPost_ret (res29 _ _ _ _ 0 0 1 rfl rfl (blk_alloc (blk_new w _) _) (by simpa only [World.size_alloc] using blk_new (w.alloc (.cells #[.int .i64 0, .int .i64 0] 23)) (.cells #[.int .i64 1] 25))) rfl ⟨rfl, below_alloc (below_alloc (Below.refl _ _) _) _⟩

def ratio_Mean.f (l0 l1 : List Int) : Option (Int × Int × Int) := if l0.length ≤ 1048576 then some (meanN l0 l1, meanD l0 l1, meanE l0 l1) else none
theorem ratio_Mean.calls (A0 : Option Addr) (c0 : Nat) (l0 : List Int) (A1 : Option Addr) (c1 : Nat) (l1 : List Int) (r1 : Int) (r2 : Int) (r3 : Int) (w : World) (hr0 : Kd.C (Kd.int .i64) w A0 l0.length l0) (_hc0 : l0.length ≤ c0) (hr1 : Kd.C (Kd.int .i64) w A1 l1.length l1) (_hc1 : l1.length ≤ c1) (h : ratio_Mean.f l0 l1 = some (r1, r2, r3)) :
    Calls Try.prog 29 #[.slice A0 l0.length c0, .slice A1 l1.length c1] w fun e w' => e = .returned (.tuple #[.agg #[.int .i64 r1, .int .i64 r2], .int .i64 r3]) ∧ Below w.heap.size w w' := by
  unfold ratio_Mean.f at h
  split at h
  · rename_i hs
    have h' := Option.some.inj h
    simp only [Prod.mk.injEq] at h'
    obtain ⟨rfl, rfl, rfl⟩ := h'
    by_cases hl : l1.length = l0.length
    · exact callsIn_wide.1 (mean_in Fence.wide 3 trivial trivial trivial trivial rfl (by omega) A0 A1 c0 c1 l0 l1 w hr0 hr1 hl hs (fun p d W h0 h1 => callsIn_wide.2 (new_at p d W h0 h1)))
    · have hok : meanOk l0 l1 = false := by unfold meanOk; rw [decide_eq_false hl]; rfl
      have eN : meanN l0 l1 = 0 := by unfold meanN; rw [hok]; rfl
      have eD : meanD l0 l1 = 0 := by unfold meanD; rw [hok]; rfl
      have eE : meanE l0 l1 = 1 := by unfold meanE; rw [hok]; rfl
      rw [eN, eD, eE]
      exact mean_ne A0 A1 c0 c1 l0.length l1.length w (by rw [bne_iff_ne]; omega)
  · cases h
end Go.Proofs.Ytgoicalffgehoaa.P
