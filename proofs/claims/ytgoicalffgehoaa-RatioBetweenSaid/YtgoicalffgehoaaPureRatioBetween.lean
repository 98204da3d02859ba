/- The plain law of RatioBetween: the printed function answers true. Condition: the numbers are of their kinds. -/
import Derived.Test.YtgoicalffgehoaaP21
import Derived.Test.YtgoicalffgehoaaCPart
import Derived.OpenShut
namespace Go.Proofs.Ytgoicalffgehoaa.Pure
open Go.RowKit Go.Proofs.Ytgoicalffgehoaa Go.Proofs.Ytgoicalffgehoaa.P Go.Proofs.YtgoicalffgehoaaW.PrintWords Go.Proofs.YtgoicalffgehoaaW.PrintLast

/-- What the loop's three variables say of the pairs that have come. -/
def Lim (L : List (Int × Int)) (lo hi : Int) (some_ : Bool) : Prop :=
  (some_ = false ∧ lo = 0 ∧ hi = 0 ∧ ∀ p ∈ L, p.2 = 0) ∨ (some_ = true ∧ -128 ≤ lo ∧ lo ≤ 128 ∧ -128 ≤ hi ∧ hi ≤ 128 ∧ (∃ p ∈ L, 0 < p.2) ∧ ∀ p ∈ L, 0 < p.2 → lo ≤ p.1 ∧ p.1 ≤ hi)

theorem zip_scale (f : Int) : ∀ (vs ws : List Int), S1 (vs.zip (ws.map fun x => x * f)) = S1 (vs.zip ws) * f ∧ S2 (vs.zip (ws.map fun x => x * f)) = S2 (vs.zip ws) * f
  | [], _ => by simp [S1, S2]
  | _ :: _, [] => by simp [S1, S2]
  | v :: vs, w :: ws => by
    obtain ⟨h1, h2⟩ := zip_scale f vs ws
    simp [List.map_cons, List.zip_cons_cons, S1_cons, S2_cons, h1, h2, Int.add_mul, Int.mul_assoc]

theorem pos_S2 : ∀ {L : List (Int × Int)}, (∀ p ∈ L, 0 ≤ p.2) → (∃ p ∈ L, 0 < p.2) → 1 ≤ S2 L
  | [], _, ⟨p, hp, _⟩ => absurd hp (by simp)
  | q :: L, h, ⟨p, hp, h0⟩ => by
    have h1 := h q (by simp)
    have h2 := S2_nonneg (l := L) (fun r hr => h r (List.mem_cons_of_mem _ hr))
    rw [S2_cons]
    rcases List.mem_cons.1 hp with rfl | hp
    · omega
    · have := pos_S2 (L := L) (fun r hr => h r (List.mem_cons_of_mem _ hr)) ⟨p, hp, h0⟩
      omega

theorem mQ_scale {vs ws : List Int} {f : Int} (hf : f ≠ 0) (h : ∀ p ∈ vs.zip ws, 0 ≤ p.2) (h' : ∀ p ∈ vs.zip (ws.map fun x => x * f), 0 ≤ p.2) : mQ (vs.zip (ws.map fun x => x * f)) = mQ (vs.zip ws) := by
  obtain ⟨e1, e2⟩ := zip_scale f vs ws
  have n1 := S2_nonneg h
  have n2 := S2_nonneg h'
  by_cases h0 : S2 (vs.zip ws) = 0
  · rw [mQ_zero h h0, mQ_zero h' (by rw [e2, h0]; simp)]
  · have h3 : S2 (vs.zip ws) * f ≠ 0 := Int.mul_ne_zero h0 hf
    rw [mQ_pos (L := vs.zip ws) (by omega), mQ_pos (by omega), e1, e2]
    exact (Rat.divInt_eq_divInt_iff h3 h0).2 (by rw [Int.mul_assoc, Int.mul_comm f])

theorem between_fin {vs ws : List Int} {f lo hi : Int} {sm : Bool} (hl : ws.length = vs.length) (hn : vs.length ≤ 200) (h : ∀ p ∈ vs.zip ws, smallP p) (hf0 : 1 ≤ f) (hf1 : f ≤ 255) (hL : Lim (vs.zip ws) lo hi sm) (k : Nat) :
    ((ratio_Mean.f vs ws).bind fun bt556 => ((ratio_Mean.f vs (ws.map fun x => x * f)).bind fun bt560 => (if bt556.2.2 = 0 then (if bt560.2.2 = 0 then (sizarlaw05_RatioBetween.j3 (k + 1) lo hi sm (!(bt556.1 == bt560.1) || (!(bt556.2.1 == bt560.2.1))) bt556.1 bt556.2.1) else (sizarlaw05_RatioBetween.j3 (k + 1) lo hi sm true bt556.1 bt556.2.1)) else (sizarlaw05_RatioBetween.j3 (k + 1) lo hi sm true bt556.1 bt556.2.1)))) = some true := by
  have hlen : (vs.zip ws).length ≤ 200 := by rw [List.length_zip]; omega
  have hfit := small_fits h hlen
  have hnn := small_nn h
  have hmany : ∀ p ∈ vs.zip (ws.map fun x => x * f), okP p = true ∧ 0 ≤ p.2 := fun p hp => by
    rw [List.zip_map_right] at hp
    obtain ⟨q, hq, rfl⟩ := List.mem_map.1 hp
    obtain ⟨a1, a2, a3, a4⟩ := h q hq
    have b1 : 0 ≤ q.2 * f := Int.mul_nonneg a3 (by omega)
    have b2 : q.2 * f ≤ 255 * 255 := Int.mul_le_mul a4 hf1 (by omega) (by omega)
    constructor
    · refine okP_yes (x := (q.1, q.2 * f)) ⟨?_, ?_, b1, ?_⟩
      · show (-1048576 : Int) ≤ q.1; omega
      · show q.1 ≤ (1048576 : Int); omega
      · show q.2 * f ≤ 1048576; omega
    · exact b1
  have hmq := mQ_scale (vs := vs) (ws := ws) (f := f) (by omega) hnn (fun p hp => (hmany p hp).2)
  rw [mean_val hl (by omega) (fun p hp => small_ok (h p hp)), mean_val (ws := ws.map fun x => x * f) (by rw [List.length_map]; exact hl) (by omega) (fun p hp => (hmany p hp).1), hmq, rN_fits hfit, rD_fits hfit, rE_fits hfit]
  simp only [Option.bind_some, if_true, beq_self_eq_true, Bool.not_true, Bool.or_self]
  simp only [sizarlaw05_RatioBetween.j3, if_neg Bool.false_ne_true]
  rcases hL with ⟨rfl, rfl, rfl, hz⟩ | ⟨rfl, l1, l2, l3, l4, hex, hb⟩
  · rw [if_neg Bool.false_ne_true]
    have h0 : S2 (vs.zip ws) = 0 := by
      have hall : ∀ {L : List (Int × Int)}, (∀ p ∈ L, p.2 = 0) → S2 L = 0 := by
        intro L
        induction L with
        | nil => intro _; rfl
        | cons p L ih => intro h; rw [S2_cons, h p (by simp), ih (fun q hq => h q (List.mem_cons_of_mem _ hq))]; rfl
      exact hall hz
    rw [mQ_zero hnn h0]
    rfl
  · rw [if_pos rfl]
    have hp := pos_S2 hnn hex
    obtain ⟨u, hu, u1, u2, u3⟩ := den_one (n := lo) (by omega)
    obtain ⟨v, hv, v1, v2, v3⟩ := den_one (n := hi) (by omega)
    have c1 : ratio_Compare.f lo 1 (mQ (vs.zip ws)).num (mQ (vs.zip ws)).den = some (cmpQ u (mQ (vs.zip ws)), 0) := by
      rw [u1]
      conv => lhs; rw [u2]
      exact cmp_q hu hfit
    have c2 : ratio_Compare.f (mQ (vs.zip ws)).num (mQ (vs.zip ws)).den hi 1 = some (cmpQ (mQ (vs.zip ws)) v, 0) := by
      rw [v1]
      conv => lhs; rw [v2]
      exact cmp_q hfit hv
    rw [c1, c2]
    simp only [Option.bind_some, if_true]
    have d1 : cmpQ u (mQ (vs.zip ws)) ≤ 0 := cmpQ_le.2 (by rw [u3, mQ_pos hp]; exact le_divInt (by omega) (lo_le hnn (fun p hp0 h0 => (hb p hp0 h0).1)))
    have d2 : cmpQ (mQ (vs.zip ws)) v ≤ 0 := cmpQ_le.2 (by rw [v3, mQ_pos hp]; exact divInt_le (by omega) (le_hi hnn (fun p hp0 h0 => (hb p hp0 h0).2)))
    rw [if_pos d1, decide_eq_true d2]

theorem lim_step {L : List (Int × Int)} {lo hi x y : Int} {sm : Bool} (h : Lim L lo hi sm) (hx : -128 ≤ x ∧ x ≤ 128) (hy : 0 < y) :
    Lim (L ++ [(x, y)]) (if sm = true then (if x < lo then x else lo) else x) (if sm = true then (if hi < x then x else hi) else x) true := by
  rcases h with ⟨rfl, rfl, rfl, hz⟩ | ⟨rfl, l1, l2, l3, l4, hex, hb⟩
  · refine .inr ⟨rfl, ?_, ?_, ?_, ?_, ⟨(x, y), by simp, hy⟩, fun p hp h0 => ?_⟩
    all_goals simp only [if_neg Bool.false_ne_true]
    · omega
    · omega
    · omega
    · omega
    · rcases List.mem_append.1 hp with hp | hp
      · have := hz p hp; omega
      · simp at hp; subst hp; simp
  · refine .inr ⟨rfl, ?_, ?_, ?_, ?_, ⟨(x, y), by simp, hy⟩, fun p hp h0 => ?_⟩
    all_goals simp only [if_true]
    · split <;> omega
    · split <;> omega
    · split <;> omega
    · split <;> omega
    · rcases List.mem_append.1 hp with hp | hp
      · have := hb p hp h0
        constructor <;> split <;> omega
      · simp at hp; subst hp
        constructor <;> split <;> omega
theorem lim_skip {L : List (Int × Int)} {lo hi x y : Int} {sm : Bool} (h : Lim L lo hi sm) (hy : y = 0) : Lim (L ++ [(x, y)]) lo hi sm := by
  subst hy
  rcases h with ⟨rfl, rfl, rfl, hz⟩ | ⟨rfl, l1, l2, l3, l4, ⟨q, hq, hq0⟩, hb⟩
  · refine .inl ⟨rfl, rfl, rfl, fun p hp => ?_⟩
    rcases List.mem_append.1 hp with hp | hp
    · exact hz p hp
    · simp at hp; subst hp; rfl
  · refine .inr ⟨rfl, l1, l2, l3, l4, ⟨q, List.mem_append_left _ hq, hq0⟩, fun p hp h0 => ?_⟩
    rcases List.mem_append.1 hp with hp | hp
    · exact hb p hp h0
    · simp at hp; subst hp; simp at h0

theorem between_loop {l0 l1 : List Int} {f : Int} (hn : l0.length ≤ 200) (hl : l0.length ≤ l1.length) (hv : ∀ p ∈ l0.zip l1, smallP p) (hf0 : 1 ≤ f) (hf1 : f ≤ 255) :
    ∀ (d i k : Nat) (lo hi : Int) (sm : Bool), i + d = l0.length → 2 * d + 1 < k → Lim ((l0.zip l1).take i) lo hi sm →
      sizarlaw05_RatioBetween.l0 k l1 f (l0.take i) (l1.take i) ((l1.take i).map fun x => x * f) lo hi sm l0 (l0.length : Int) (i : Int) = some true := by
  intro d
  induction d with
  | zero =>
    intro i k lo hi sm hi' hk hL
    obtain ⟨k, rfl⟩ : ∃ m, k = m + 1 := ⟨k - 1, by omega⟩
    obtain rfl : i = l0.length := by omega
    simp only [sizarlaw05_RatioBetween.l0]
    rw [if_neg (by omega)]
    obtain ⟨k, rfl⟩ : ∃ m, k = m + 1 := ⟨k - 1, by omega⟩
    have hz : l0.zip (l1.take l0.length) = l0.zip l1 := by
      conv => rhs; rw [← List.take_length (l := l0.zip l1)]
      rw [List.length_zip, show min l0.length l1.length = l0.length by omega]
      simp [List.zip_eq_zipWith, List.take_zipWith]
    have ht : (l0.zip l1).take l0.length = l0.zip l1 := by apply List.take_of_length_le; rw [List.length_zip]; omega
    rw [ht] at hL
    rw [List.take_length]
    exact between_fin (vs := l0) (ws := l1.take l0.length) (by rw [List.length_take]; omega) (by omega) (by rw [hz]; exact hv) hf0 hf1 (by rw [hz]; exact hL) k
  | succ d ih =>
    intro i k lo hi sm hi' hk hL
    obtain ⟨k, rfl⟩ : ∃ m, k = m + 1 := ⟨k - 1, by omega⟩
    simp only [sizarlaw05_RatioBetween.l0, Option.bind_some]
    have hmem : (rd l0 (i : Int), rd l1 (i : Int)) ∈ l0.zip l1 := by
      have := zip_take_succ (l0 := l0) (l1 := l1) (i := i) (by omega) (by omega)
      exact List.mem_of_mem_take (i := i + 1) (by rw [this]; simp)
    obtain ⟨b1, b2, b3, b4⟩ := hv _ hmem
    dsimp only at b1 b2 b3 b4
    have g0 : i < l0.length := by omega
    have g1 : i < l1.length := by omega
    have g2 : (l0.take i).length < 17592186044416 := by rw [List.length_take]; omega
    have g3 : (l1.take i).length < 17592186044416 := by rw [List.length_take]; omega
    have g4 : ((l1.take i).map fun x => x * f).length < 17592186044416 := by rw [List.length_map]; exact g3
    have g5 : i + 1 + d = l0.length := by omega
    obtain ⟨k, rfl⟩ : ∃ m, k = m + 1 := ⟨k - 1, by omega⟩
    have g6 : 2 * d + 1 < k := by omega
    have g7 : 2 * d + 1 < k + 1 := by omega
    rw [if_pos (show (i : Int) < (l0.length : Int) by omega), if_pos (show (0 : Int) ≤ (i : Int) by omega), if_pos (show (i : Int) < (l0.length : Int) by omega), if_pos (show (i : Int) < (l1.length : Int) by omega), if_pos g2, if_pos g3, if_pos g4]
    have c1 : 0 ≤ rd l1 (i : Int) * f := Int.mul_nonneg b3 (by omega)
    have c2 : rd l1 (i : Int) * f ≤ 255 * 255 := Int.mul_le_mul b4 hf1 (by omega) (by omega)
    have hz := zip_take_succ (l0 := l0) (l1 := l1) (i := i) g0 g1
    have hmap : ((l1.take i).map fun x => x * f) ++ [rd l1 (i : Int) * f] = (l1.take (i + 1)).map fun x => x * f := by
      rw [← rd_take g1, List.map_append, List.map_cons, List.map_nil]
    have hzero : ¬ rd l1 (i : Int) > 0 → rd l1 (i : Int) = 0 := fun h => by omega
    have w1 : wrap64 (rd l0 (i : Int)) = rd l0 (i : Int) := wrap64_id (by omega) (by omega)
    have w2 : wrap64 (rd l1 (i : Int)) = rd l1 (i : Int) := wrap64_id (by omega) (by omega)
    have w3 : wrap64 ((i : Int) + 1) = ((i + 1 : Nat) : Int) := wrap64_id (by omega) (by omega)
    have w4 : wrap64 f = f := wrap64_id (by omega) (by omega)
    have w5 : wrap64 (rd l1 (i : Int) * f) = rd l1 (i : Int) * f := wrap64_id (by omega) (by omega)
    rw [w1, w2, w3, w4, w5, rd_take g0, rd_take g1, hmap]
    by_cases hp : rd l1 (i : Int) > 0
    · rw [if_pos hp]
      have hL' := lim_step hL ⟨b1, b2⟩ hp
      rw [← hz] at hL'
      have hh := fun lo' hi' => ih (i + 1) k lo' hi' true g5 g6
      cases sm with
      | true =>
        simp only [if_true] at hL' ⊢
        simp only [sizarlaw05_RatioBetween.j2, if_true, w1, w3]
        by_cases h1 : rd l0 (i : Int) < lo
        · rw [decide_eq_true h1, if_pos rfl]
          rw [if_pos h1] at hL'
          by_cases h2 : rd l0 (i : Int) > hi
          · rw [if_pos h2]; rw [if_pos h2] at hL'; exact hh _ _ hL'
          · rw [if_neg h2]; rw [if_neg h2] at hL'; exact hh _ _ hL'
        · rw [decide_eq_false h1, if_neg Bool.false_ne_true]
          rw [if_neg h1] at hL'
          by_cases h2 : rd l0 (i : Int) > hi
          · rw [if_pos h2]; rw [if_pos h2] at hL'; exact hh _ _ hL'
          · rw [if_neg h2]; rw [if_neg h2] at hL'; exact hh _ _ hL'
      | false =>
        simp only [if_neg Bool.false_ne_true] at hL' ⊢
        simp only [sizarlaw05_RatioBetween.j2, if_true, if_neg Bool.false_ne_true, w1, w3]
        exact hh _ _ hL'
    · rw [if_neg hp]
      have hL' := lim_skip (x := rd l0 (i : Int)) hL (hzero hp)
      rw [← hz] at hL'
      exact ih (i + 1) (k + 1) lo hi sm g5 g7 hL'

theorem RatioBetween : sizarlaw05_RatioBetween.Pure := by
  intro l0 l1 a2 _ _ hv _ _ hw ha
  refine ⟨2 * l0.length + 3, ?_⟩
  unfold sizarlaw05_RatioBetween.f sizarlaw05_saneC.f
  simp only [Option.bind_some, if_true]
  have b := bounds_u8 ha
  by_cases h0 : (l0.length : Int) > 200
  · rw [if_pos h0]; rfl
  · rw [if_neg h0]
    by_cases h1 : (l1.length : Int) < (l0.length : Int)
    · rw [if_pos h1]; rfl
    · rw [if_neg h1]
      by_cases h2 : a2 = 0
      · rw [h2]; rfl
      · rw [show (a2 == 0) = false by simp [h2]]
        simp only [sizarlaw05_RatioBetween.j0, if_neg Bool.false_ne_true]
        have hB := between_loop (l0 := l0) (l1 := l1) (f := a2) (by omega) (by omega) (fun p hp => by
          have h2 := bounds_i8 (hv _ (List.of_mem_zip hp).1)
          have h3 := bounds_u8 (hw _ (List.of_mem_zip hp).2)
          unfold smallP; omega) (by omega) (by omega) l0.length 0 (2 * l0.length + 2) 0 0 false (by omega) (by omega) (.inl ⟨rfl, rfl, rfl, by simp⟩)
        simpa only [List.take_zero, List.map_nil, Int.natCast_zero] using hB
end Go.Proofs.Ytgoicalffgehoaa.Pure
