/- Words and laws of what counts (average.Counted), plain. Conditions: as each theorem states them. -/
import Derived.Test.YtgoicalffgehoaaEMap
namespace Go.Proofs.Ytgoicalffgehoaa.P
open Go.RowKit Go.Proofs.YtgoicalffgehoaaW.PrintWords Go.Proofs.Ytgoicalffgehoaa

/-- From some fuel on, F answers r. -/
def Ev {β : Type} (F : Nat → Option β) (r : β) : Prop := ∃ K, ∀ k, K ≤ k → F k = some r
theorem Ev.step {β : Type} {F G : Nat → Option β} {r : β} (h : Ev G r) (hs : ∀ k, F (k + 1) = G k) : Ev F r := by
  obtain ⟨K, hK⟩ := h
  refine ⟨K + 1, fun k hk => ?_⟩
  obtain ⟨m, rfl⟩ : ∃ m, k = m + 1 := ⟨k - 1, by omega⟩
  rw [hs, hK m (by omega)]
theorem Ev.now {β : Type} {F : Nat → Option β} {r : β} (hs : ∀ k, F (k + 1) = some r) : Ev F r := by
  refine ⟨1, fun k hk => ?_⟩
  obtain ⟨m, rfl⟩ : ∃ m, k = m + 1 := ⟨k - 1, by omega⟩
  exact hs m

section
variable {l : List S39} {rs : List Int}

/-- The course, and what the reference's 'better' says, by index. -/
def co (l : List S39) (i : Nat) : Int := (rd_T39 l (i : Int)).f0
def bet (l : List S39) (r : Int) (k i : Nat) : Prop :=
  if r = 0 then (rd_T39 l (k : Int)).f2 > (rd_T39 l (i : Int)).f2 ∨ (rd_T39 l (k : Int)).f2 = (rd_T39 l (i : Int)).f2 ∧ ((rd_T39 l (k : Int)).f1 < (rd_T39 l (i : Int)).f1 ∨ (rd_T39 l (k : Int)).f1 = (rd_T39 l (i : Int)).f1 ∧ k < i)
  else (rd_T39 l (k : Int)).f1 > (rd_T39 l (i : Int)).f1 ∨ (rd_T39 l (k : Int)).f1 = (rd_T39 l (i : Int)).f1 ∧ k > i
instance (l : List S39) (r : Int) (k i : Nat) : Decidable (bet l r k i) := by unfold bet; exact inferInstance

theorem bet_trans {r : Int} {a b c : Nat} (h1 : bet l r a b) (h2 : bet l r b c) : bet l r a c := by
  unfold bet at *
  by_cases hr : r = 0
  · rw [if_pos hr] at *; omega
  · rw [if_neg hr] at *; omega
theorem bet_total {r : Int} {a b : Nat} (h : a ≠ b) (h1 : ¬ bet l r a b) : bet l r b a := by
  unfold bet at *
  by_cases hr : r = 0
  · rw [if_pos hr] at *; omega
  · rw [if_neg hr] at *; omega
theorem bet_asymm {r : Int} {a b : Nat} (h1 : bet l r a b) : ¬ bet l r b a := by
  unfold bet at *
  by_cases hr : r = 0
  · rw [if_pos hr] at *; omega
  · rw [if_neg hr] at *; omega

/-! What the two maps hold. -/
theorem of_none : ∀ (i : Nat) (x : Int), (∀ j, j < i → co l j ≠ x) → ofA l rs i x = none
  | 0, x, _ => rfl
  | i + 1, x, h => by
    show updM _ _ _ x = none
    unfold updM
    rw [if_neg (fun e => h i (by omega) e.symm)]
    exact of_none i x (fun j hj => h j (by omega))
theorem of_all : ∀ (i : Nat), goodA l rs i = true → ∀ (x : Int) (j : Nat), j < i → co l j = x → ofA l rs i x = some (rd rs (j : Int))
  | 0, _, x, j, hj, _ => by omega
  | i + 1, hg, x, j, hj, hc => by
    have hg' := hg
    unfold goodA at hg'
    rw [Bool.and_eq_true] at hg'
    show updM _ _ _ x = _
    unfold updM
    by_cases hx : x = (rd_T39 l (i : Int)).f0
    · rw [if_pos hx]
      by_cases hji : j = i
      · rw [hji]
      · have h1 := of_all i hg'.1 x j (by omega) hc
        have h2 := hg'.2
        unfold fitsR at h2
        rw [← hx, h1, Bool.and_eq_true, decide_eq_true_eq] at h2
        rw [of_decide_eq_true h2.2]
    · rw [if_neg hx]
      refine of_all i hg'.1 x j ?_ hc
      by_cases hji : j = i
      · rw [hji] at hc; exact absurd hc.symm hx
      · omega
theorem good_succ {i : Nat} (hg : goodA l rs i = true) : goodA l rs (i + 1) = true ↔ (0 ≤ rd rs (i : Int) ∧ rd rs (i : Int) ≤ 2) ∧ ∀ j, j < i → co l j = co l i → rd rs (i : Int) = rd rs (j : Int) := by
  have e : goodA l rs (i + 1) = fitsR (rd rs (i : Int)) (ofA l rs i (co l i)) := by
    show (goodA l rs i && _) = _
    rw [hg, Bool.true_and]; rfl
  rw [e]
  unfold fitsR
  rw [Bool.and_eq_true, decide_eq_true_eq]
  refine and_congr Iff.rfl ⟨fun h j hj hc => ?_, fun h => ?_⟩
  · rw [of_all i hg _ j hj hc] at h
    exact (of_decide_eq_true h).symm
  · by_cases hex : ∃ j, j < i ∧ co l j = co l i
    · obtain ⟨j, hj, hc⟩ := hex
      rw [of_all i hg _ j hj hc]
      exact decide_eq_true (h j hj hc).symm
    · rw [of_none i _ (fun j hj hc => hex ⟨j, hj, hc⟩)]

theorem good_all : ∀ (i : Nat), goodA l rs i = true → ∀ a b, a < i → b < i → co l a = co l b → rd rs (a : Int) = rd rs (b : Int) := by
  intro i hg a b ha hb hc
  have h1 := of_all i hg _ a ha hc
  have h2 := of_all i hg _ b hb rfl
  rw [h1] at h2
  injection h2

theorem cntS {k : Nat} (h : takes l (rd rs (k : Int)) (rd_T39 l (k : Int)) (cntA l rs k (rd_T39 l (k : Int)).f0) = false) : cntA l rs (k + 1) = cntA l rs k := by
  conv => lhs; unfold cntA
  rw [h]
  exact if_neg Bool.false_ne_true
theorem cntN {k : Nat} (h : takes l (rd rs (k : Int)) (rd_T39 l (k : Int)) (cntA l rs k (rd_T39 l (k : Int)).f0) = true) : cntA l rs (k + 1) = updM (cntA l rs k) (rd_T39 l (k : Int)).f0 (k : Int) := by
  conv => lhs; unfold cntA
  rw [h]
  exact if_pos rfl

theorem cnt_two : ∀ (i : Nat) (x : Int), (∀ j, j < i → co l j = x → rd rs (j : Int) = 2) → cntA l rs i x = none
  | 0, x, _ => rfl
  | i + 1, x, h => by
    have ih := cnt_two i x (fun j hj => h j (by omega))
    by_cases hx : co l i = x
    · have hr := h i (by omega) hx
      rw [cntS (by unfold takes; rw [if_pos hr])]
      exact ih
    · rcases ht : takes l (rd rs (i : Int)) (rd_T39 l (i : Int)) (cntA l rs i (rd_T39 l (i : Int)).f0) with _ | _
      · rw [cntS ht]; exact ih
      · rw [cntN ht]
        unfold updM
        rw [if_neg (fun e => hx e.symm)]
        exact ih

theorem repl_bet {r : Int} (_hr : r = 0 ∨ r = 1) {i t : Nat} (h : t < i) : replA r (rd_T39 l (i : Int)) (rd_T39 l (t : Int)) = decide (bet l r i t) := by
  unfold replA bet
  by_cases hr : r = 0
  · rw [if_pos hr]
    simp only [if_pos hr]
    unfold better
    rw [Bool.eq_iff_iff]
    simp only [Bool.or_eq_true, Bool.and_eq_true, decide_eq_true_eq]
    omega
  · rw [if_neg hr]
    simp only [if_neg hr]
    unfold later
    exact decide_eq_decide.2 (by omega)

theorem cnt_best {r : Int} (hr : r = 0 ∨ r = 1) (x : Int) : ∀ (i : Nat), (∀ j, j < i → co l j = x → rd rs (j : Int) = r) →
    ((∀ j, j < i → co l j ≠ x) ∧ cntA l rs i x = none) ∨ (∃ t : Nat, t < i ∧ cntA l rs i x = some (t : Int) ∧ co l t = x ∧ ∀ j, j < i → co l j = x → j ≠ t → bet l r t j)
  | 0, _ => .inl ⟨fun j hj => by omega, rfl⟩
  | i + 1, h => by
    have ih := cnt_best hr x i (fun j hj => h j (by omega))
    have h2 : ¬ r = 2 := by omega
    by_cases hx : co l i = x
    · have hri := h i (by omega) hx
      refine .inr ?_
      rcases ih with ⟨n1, n2⟩ | ⟨t, t1, t2, t3, t4⟩
      · have ht : takes l (rd rs (i : Int)) (rd_T39 l (i : Int)) (cntA l rs i (rd_T39 l (i : Int)).f0) = true := by
          unfold takes
          rw [hri, if_neg h2, show (rd_T39 l (i : Int)).f0 = x from hx, n2]
        refine ⟨i, by omega, ?_, hx, fun j hj hc hne => absurd hc (n1 j (by omega))⟩
        rw [cntN ht]
        exact if_pos hx.symm
      · have hrep := repl_bet (l := l) hr t1
        have e : takes l (rd rs (i : Int)) (rd_T39 l (i : Int)) (cntA l rs i (rd_T39 l (i : Int)).f0) = decide (bet l r i t) := by
          unfold takes
          rw [hri, if_neg h2, show (rd_T39 l (i : Int)).f0 = x from hx, t2]
          exact hrep
        by_cases hb : bet l r i t
        · refine ⟨i, by omega, ?_, hx, fun j hj hc hne => ?_⟩
          · rw [cntN (e.trans (decide_eq_true hb))]
            exact if_pos hx.symm
          · by_cases hjt : j = t
            · rw [hjt]; exact hb
            · exact bet_trans hb (t4 j (by omega) hc hjt)
        · refine ⟨t, by omega, ?_, t3, fun j hj hc hne => ?_⟩
          · rw [cntS (e.trans (decide_eq_false hb))]
            exact t2
          · by_cases hji : j = i
            · rw [hji]; exact bet_total (by omega) hb
            · exact t4 j (by omega) hc hne
    · have e : cntA l rs (i + 1) x = cntA l rs i x := by
        rcases ht : takes l (rd rs (i : Int)) (rd_T39 l (i : Int)) (cntA l rs i (rd_T39 l (i : Int)).f0) with _ | _
        · rw [cntS ht]
        · rw [cntN ht]
          exact if_neg (fun e => hx e.symm)
      rw [e]
      rcases ih with ⟨n1, n2⟩ | ⟨t, t1, t2, t3, t4⟩
      · refine .inl ⟨fun j hj hc => ?_, n2⟩
        by_cases hji : j = i
        · rw [hji] at hc; exact hx hc
        · exact n1 j (by omega) hc
      · refine .inr ⟨t, by omega, t2, t3, fun j hj hc hne => ?_⟩
        by_cases hji : j = i
        · rw [hji] at hc; exact absurd hc hx
        · exact t4 j (by omega) hc hne

/-- Whether attempt k counts rather than attempt i. -/
def beats (l : List S39) (rs : List Int) (i k : Nat) : Bool := decide (k ≠ i) && (!decide (rd rs (i : Int) = 2) && (decide (co l k = co l i) && decide (bet l (rd rs (i : Int)) k i)))

theorem keeps_iff {n : Nat} (hg : goodA l rs n = true) {i : Nat} (hi : i < n) : keepsA (cntA l rs n (rd_T39 l (i : Int)).f0) i = true ↔ ∀ k, k < n → beats l rs i k = false := by
  have hr : 0 ≤ rd rs (i : Int) ∧ rd rs (i : Int) ≤ 2 := ((good_succ (goodA_mono l rs (by omega) hg)).1 (goodA_mono l rs (k := i + 1) (by omega) hg)).1
  by_cases h2 : rd rs (i : Int) = 2
  · rw [show (rd_T39 l (i : Int)).f0 = co l i from rfl, cnt_two n _ (fun j hj hc => (good_all n hg j i hj hi hc).trans h2)]
    refine ⟨fun _ k hk => ?_, fun _ => rfl⟩
    unfold beats
    rw [decide_eq_true h2]
    cases decide (k ≠ i) <;> rfl
  · have hr2 : rd rs (i : Int) = 0 ∨ rd rs (i : Int) = 1 := by omega
    rcases cnt_best hr2 (co l i) n (fun j hj hc => good_all n hg j i hj hi hc) with ⟨n1, _⟩ | ⟨t, t1, t2, t3, t4⟩
    · exact absurd rfl (n1 i hi)
    · rw [show (rd_T39 l (i : Int)).f0 = co l i from rfl, t2]
      refine ⟨fun h k hk => ?_, fun h => ?_⟩
      · have hti : (t : Int) = (i : Int) := of_decide_eq_true h
        obtain rfl : t = i := by omega
        unfold beats
        by_cases hki : k = t
        · rw [decide_eq_false (fun h => h hki)]; rfl
        · by_cases hc : co l k = co l t
          · rw [decide_eq_false (bet_asymm (t4 k hk hc hki)), Bool.and_false, Bool.and_false, Bool.and_false]
          · rw [decide_eq_false hc, Bool.false_and, Bool.and_false, Bool.and_false]
      · by_cases hti : t = i
        · exact decide_eq_true (by omega)
        · have hb := h t t1
          unfold beats at hb
          rw [decide_eq_true hti, decide_eq_false h2, decide_eq_true t3, decide_eq_true (t4 i hi rfl (fun e => hti e.symm))] at hb
          cases hb
end
end Go.Proofs.Ytgoicalffgehoaa.P
