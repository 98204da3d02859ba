/- The reference's Counted in closed form: it is what average.Counted computes. Condition: at most 1000 attempts. -/
import Derived.Test.YtgoicalffgehoaaP14
import Derived.Test.YtgoicalffgehoaaCCnp
import Derived.Test.YtgoicalffgehoaaCRaf
namespace Go.Proofs.Ytgoicalffgehoaa.P
open Go.RowKit Go.Proofs.YtgoicalffgehoaaW.PrintWords Go.Proofs.Ytgoicalffgehoaa

section
variable {l : List S39} {rs : List Int}
theorem better_eq {r : Int} {k i : Nat} (hk : k < l.length) (hi : i < l.length) : sizarref15_better.f l r (k : Int) (i : Int) = some (decide (bet l r k i)) := by
  unfold sizarref15_better.f bet
  rw [if_pos (by omega), if_pos (by omega), if_pos (by omega), if_pos (by omega)]
  by_cases hr : r = 0
  · rw [if_pos hr]
    simp only [if_pos hr]
    by_cases h1 : (rd_T39 l (k : Int)).f2 = (rd_T39 l (i : Int)).f2
    · rw [if_pos h1]
      by_cases h2 : (rd_T39 l (k : Int)).f1 = (rd_T39 l (i : Int)).f1
      · rw [if_pos h2]
        congr 1
        exact decide_eq_decide.2 (by omega)
      · rw [if_neg h2]
        congr 1
        exact decide_eq_decide.2 (by omega)
    · rw [if_neg h1]
      congr 1
      exact decide_eq_decide.2 (by omega)
  · rw [if_neg hr]
    simp only [if_neg hr]
    by_cases h2 : (rd_T39 l (k : Int)).f1 = (rd_T39 l (i : Int)).f1
    · rw [if_pos h2]
      congr 1
      exact decide_eq_decide.2 (by omega)
    · rw [if_neg h2]
      congr 1
      exact decide_eq_decide.2 (by omega)

/-! The reference's loops. -/
variable (hl : rs.length = l.length) (hm : l.length ≤ 1000)
include hl hm

theorem ref_l3 {R : List S39 × Int} {x9 : List S39} (hx9 : x9.length ≤ 1000) {i : Nat} (hi : i < l.length) (c : Bool)
    (hR : Ev (fun m => sizarref15_Counted.l2 m l rs (if c = true then x9 ++ [rd_T39 l (i : Int)] else x9) ((i + 1 : Nat) : Int)) R) :
    ∀ (d k : Nat) (b : Bool), k + d = l.length → (c = true ↔ (b = true ∧ ∀ j, k ≤ j → j < l.length → beats l rs i j = false)) → Ev (fun m => sizarref15_Counted.l3 m l rs x9 (i : Int) b (k : Int)) R := by
  have ei : wrap64 ((i : Int) + 1) = ((i + 1 : Nat) : Int) := wrap64_id (by omega) (by omega)
  intro d
  induction d with
  | zero =>
    intro k b hk hc
    obtain rfl : k = l.length := by omega
    have hcb : c = b := by
      rw [Bool.eq_iff_iff, hc]
      exact ⟨fun h => h.1, fun h => ⟨h, fun j h1 h2 => by omega⟩⟩
    refine hR.step fun m => ?_
    simp only [sizarref15_Counted.l3]
    rw [if_neg (by omega), ei, hcb]
    cases b
    · rfl
    · rw [if_pos rfl, if_pos rfl, if_pos (by omega), if_pos (by omega), if_pos (by omega)]
  | succ d ih =>
    intro k b hk hc
    have ek : wrap64 ((k : Int) + 1) = ((k + 1 : Nat) : Int) := wrap64_id (by omega) (by omega)
    rcases hb : beats l rs i k with _ | _
    · have := ih (k + 1) b (by omega) (by
        rw [hc]
        refine and_congr Iff.rfl ⟨fun h j h1 h2 => h j (by omega) h2, fun h j h1 h2 => ?_⟩
        by_cases hjk : j = k
        · rw [hjk]; exact hb
        · exact h j (by omega) h2)
      refine this.step fun m => ?_
      simp only [sizarref15_Counted.l3]
      rw [if_pos (by omega), ek]
      by_cases hki : k = i
      · rw [if_pos (by omega)]
      · rw [if_neg (by omega), if_pos (by omega), if_pos (by omega)]
        by_cases h2 : rd rs (i : Int) = 2
        · rw [if_pos h2]
        · rw [if_neg h2, if_pos (by omega), if_pos (by omega)]
          by_cases hcc : (rd_T39 l (k : Int)).f0 = (rd_T39 l (i : Int)).f0
          · rw [if_pos hcc, better_eq (by omega) hi]
            unfold beats at hb
            rw [decide_eq_true hki, decide_eq_false h2, decide_eq_true (show co l k = co l i from hcc)] at hb
            have hb2 : decide (bet l (rd rs (i : Int)) k i) = false := hb
            rw [hb2]
            rfl
          · rw [if_neg hcc]
    · have := ih (k + 1) false (by omega) (by
        rw [hc]
        refine ⟨fun h => ?_, fun h => absurd h.1 Bool.false_ne_true⟩
        have := h.2 k (Nat.le_refl _) (by omega)
        rw [hb] at this
        cases this)
      refine this.step fun m => ?_
      simp only [sizarref15_Counted.l3]
      unfold beats at hb
      rw [Bool.and_eq_true, Bool.and_eq_true, Bool.and_eq_true] at hb
      obtain ⟨h1, h2, h3, h4⟩ := hb
      have h1 := of_decide_eq_true h1
      have h2 : ¬ rd rs (i : Int) = 2 := fun h => by rw [decide_eq_true h] at h2; cases h2
      have h3 : (rd_T39 l (k : Int)).f0 = (rd_T39 l (i : Int)).f0 := of_decide_eq_true h3
      rw [if_pos (by omega), ek, if_neg (by omega), if_pos (by omega), if_pos (by omega), if_neg h2, if_pos (by omega), if_pos (by omega), if_pos h3, better_eq (by omega) hi, h4]
      rfl

theorem ref_l2 (hg : goodA l rs l.length = true) : ∀ (d i : Nat), i + d = l.length → Ev (fun m => sizarref15_Counted.l2 m l rs (selA l rs i) (i : Int)) (selA l rs l.length, 0) := by
  intro d
  induction d with
  | zero =>
    intro i hi
    obtain rfl : i = l.length := by omega
    refine Ev.now fun m => ?_
    simp only [sizarref15_Counted.l2]
    rw [if_neg (by omega)]
  | succ d ih =>
    intro i hi
    have hlt : i < l.length := by omega
    have h3 := ref_l3 hl hm (x9 := selA l rs i) (by have := selA_length l rs i; omega) hlt (keepsA (cntA l rs l.length (rd_T39 l (i : Int)).f0) i) (ih (i + 1) (by omega)) l.length 0 true (by omega) (by
      rw [keeps_iff hg hlt]
      exact ⟨fun h => ⟨rfl, fun j _ hj => h j hj⟩, fun h k hk => h.2 k (Nat.zero_le _) hk⟩)
    refine h3.step fun m => ?_
    simp only [sizarref15_Counted.l2]
    rw [if_pos (by omega)]
    rfl

theorem ref_l1 {R : List S39 × Int} {i : Nat} (hi : i < l.length) (hR : (∀ j, j < i → co l j = co l i → rd rs (i : Int) = rd rs (j : Int)) → Ev (fun m => sizarref15_Counted.l0 m l rs ((i + 1 : Nat) : Int)) R) (hN : ¬ (∀ j, j < i → co l j = co l i → rd rs (i : Int) = rd rs (j : Int)) → R = ([], 1)) :
    ∀ (d k : Nat), k + d = i → (∀ j, j < k → co l j = co l i → rd rs (i : Int) = rd rs (j : Int)) → Ev (fun m => sizarref15_Counted.l1 m l rs (i : Int) (k : Int)) R := by
  have ei : wrap64 ((i : Int) + 1) = ((i + 1 : Nat) : Int) := wrap64_id (by omega) (by omega)
  intro d
  induction d with
  | zero =>
    intro k hk hs
    obtain rfl : k = i := by omega
    refine (hR hs).step fun m => ?_
    simp only [sizarref15_Counted.l1]
    rw [if_neg (by omega), ei]
  | succ d ih =>
    intro k hk hs
    have ek : wrap64 ((k : Int) + 1) = ((k + 1 : Nat) : Int) := wrap64_id (by omega) (by omega)
    by_cases hcc : (rd_T39 l (i : Int)).f0 = (rd_T39 l (k : Int)).f0
    · by_cases hrr : rd rs (i : Int) = rd rs (k : Int)
      · refine (ih (k + 1) (by omega) (fun j hj hc => ?_)).step fun m => ?_
        · by_cases hjk : j = k
          · rw [hjk]; exact hrr
          · exact hs j (by omega) hc
        · simp only [sizarref15_Counted.l1]
          rw [if_pos (by omega), if_pos (by omega), if_pos (by omega), if_pos (by omega), if_pos (by omega), if_pos hcc, if_pos (by omega), if_pos (by omega), if_pos hrr, ek]
      · rw [hN (fun h => hrr (h k (by omega) hcc.symm))]
        refine Ev.now fun m => ?_
        simp only [sizarref15_Counted.l1]
        rw [if_pos (by omega), if_pos (by omega), if_pos (by omega), if_pos (by omega), if_pos (by omega), if_pos hcc, if_pos (by omega), if_pos (by omega), if_neg hrr]
    · refine (ih (k + 1) (by omega) (fun j hj hc => ?_)).step fun m => ?_
      · by_cases hjk : j = k
        · rw [hjk] at hc; exact absurd hc.symm hcc
        · exact hs j (by omega) hc
      · simp only [sizarref15_Counted.l1]
        rw [if_pos (by omega), if_pos (by omega), if_pos (by omega), if_pos (by omega), if_pos (by omega), if_neg hcc, ek]

theorem ref_l0 : ∀ (d i : Nat), i + d = l.length → goodA l rs i = true → Ev (fun m => sizarref15_Counted.l0 m l rs (i : Int)) (if goodA l rs l.length then (selA l rs l.length, 0) else ([], 1)) := by
  intro d
  induction d with
  | zero =>
    intro i hi hg
    obtain rfl : i = l.length := by omega
    rw [hg]
    refine (ref_l2 hl hm hg l.length 0 (by omega)).step fun m => ?_
    simp only [sizarref15_Counted.l0]
    rw [if_neg (by omega)]
    rfl
  | succ d ih =>
    intro i hi hg
    have hlt : i < l.length := by omega
    by_cases hr : 0 ≤ rd rs (i : Int) ∧ rd rs (i : Int) ≤ 2
    · have h1 := ref_l1 hl hm hlt (R := if goodA l rs l.length then (selA l rs l.length, 0) else ([], 1)) (fun h => ih (i + 1) (by omega) ((good_succ hg).2 ⟨hr, h⟩)) (fun h => by
        rcases hgn : goodA l rs l.length with _ | _
        · rfl
        · exact absurd ((good_succ hg).1 (goodA_mono l rs (k := i + 1) (by omega) hgn)).2 h) i 0 (by omega) (fun j hj => by omega)
      have h2 : Ev (fun m => sizarref15_Counted.j1 m l rs (i : Int) false) (if goodA l rs l.length then (selA l rs l.length, 0) else ([], 1)) := by
        refine h1.step fun m => ?_
        simp only [sizarref15_Counted.j1, if_neg Bool.false_ne_true]
        rfl
      refine h2.step fun m => ?_
      simp only [sizarref15_Counted.l0]
      rw [if_pos (by omega), if_pos (by omega), if_pos (by omega), if_neg (by omega), decide_eq_false (by omega)]
    · have hgn : goodA l rs l.length = false := by
        rcases hgn : goodA l rs l.length with _ | _
        · rfl
        · exact absurd ((good_succ hg).1 (goodA_mono l rs (k := i + 1) (by omega) hgn)).1 hr
      rw [hgn]
      have h2 : Ev (fun m => sizarref15_Counted.j1 m l rs (i : Int) true) (([], 1) : List S39 × Int) := by
        refine Ev.now fun m => ?_
        simp only [sizarref15_Counted.j1, if_true]
      refine h2.step fun m => ?_
      simp only [sizarref15_Counted.l0]
      rw [if_pos (by omega), if_pos (by omega), if_pos (by omega)]
      by_cases h0 : rd rs (i : Int) < 0
      · rw [if_pos h0]
      · rw [if_neg h0, decide_eq_true (by omega)]
end

theorem rcounted_eq {l : List S39} {rs : List Int} (hm : l.length ≤ 1000) {r1 : List S39} {r2 : Int} (h : average_Counted.f l rs = some (r1, r2)) : ∃ k, sizarref15_Counted.f k l rs = some (r1, r2) := by
  unfold average_Counted.f at h
  rw [if_pos (by omega)] at h
  rcases hv : allV l with _ | _
  · rw [hv] at h
    have h' := Option.some.inj h
    simp only [Prod.mk.injEq] at h'
    obtain ⟨rfl, rfl⟩ := h'
    refine ⟨l.length + 1, ?_⟩
    unfold sizarref15_Counted.f
    rw [rcheck_eq (by omega) (by omega), chk_nv hv]
    rfl
  · rw [hv, if_pos rfl] at h
    by_cases hl : rs.length = l.length
    · rw [if_pos hl] at h
      obtain ⟨K, hK⟩ := ref_l0 hl hm l.length 0 (by omega) rfl
      refine ⟨K + l.length + 1, ?_⟩
      unfold sizarref15_Counted.f
      rw [rcheck_eq (by omega) (by omega), chk_v hv]
      simp only [Option.bind_some, if_true]
      rw [if_pos (by omega)]
      refine Eq.trans (hK _ (by omega)) ?_
      rw [← h]
      cases goodA l rs l.length <;> rfl
    · rw [if_neg hl] at h
      have h' := Option.some.inj h
      simp only [Prod.mk.injEq] at h'
      obtain ⟨rfl, rfl⟩ := h'
      refine ⟨l.length + 1, ?_⟩
      unfold sizarref15_Counted.f
      rw [rcheck_eq (by omega) (by omega), chk_v hv]
      simp only [Option.bind_some, if_true]
      rw [if_neg (by omega)]

def sizarref15_CountedC.f (l0 : List S39) (l1 : List Int) : Option (List S39 × Int) := if l0.length ≤ 1000 then average_Counted.f l0 l1 else none
theorem sizarref15_CountedC.calls (A0 : Option Addr) (c0 : Nat) (l0 : List (S39)) (A1 : Option Addr) (c1 : Nat) (l1 : List Int) (r1 : List (S39)) (r2 : Int) (w : World) (hr0 : Kd.C k39 w A0 l0.length l0) (hc0 : l0.length ≤ c0) (hr1 : Kd.C (Kd.int .i64) w A1 l1.length l1) (hc1 : l1.length ≤ c1) (h : sizarref15_CountedC.f l0 l1 = some (r1, r2)) :
    Calls Try.prog 43 #[.slice A0 l0.length c0, .slice A1 l1.length c1] w fun e w' => ∃ v0_ : Value, e = .returned (.tuple #[v0_, .int .i64 r2]) ∧ Kd.R k39 39 w' w.heap.size (fun _ => True) v0_ r1 ∧ Below w.heap.size w w' := by
  unfold sizarref15_CountedC.f at h
  split at h
  · rename_i hm
    obtain ⟨k, hk⟩ := rcounted_eq hm h
    exact sizarref15_Counted.calls k A0 c0 l0 A1 c1 l1 r1 r2 w hr0 hc0 hr1 hc1 hk
  · cases h
end Go.Proofs.Ytgoicalffgehoaa.P
