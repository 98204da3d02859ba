/- The plain law of AverageCounts. No condition. -/
import Derived.Test.YtgoicalffgehoaaP29
import Derived.Test.YtgoicalffgehoaaCCnx
namespace Go.Proofs.Ytgoicalffgehoaa.P
open Go.RowKit Go.Proofs.YtgoicalffgehoaaW.PrintWords Go.Proofs.Ytgoicalffgehoaa
set_option linter.unusedVariables false
set_option linter.unusedSectionVars false

theorem cell_same (x y : S39) : (x.f0 == y.f0 && (x.f1 == y.f1 && (x.f2 == y.f2 && (x.f3 == y.f3 && (x.f4 == y.f4))))) = true ↔ x = y := by
  obtain ⟨x0, x1, x2, x3, x4⟩ := x
  obtain ⟨y0, y1, y2, y3, y4⟩ := y
  simp only [Bool.and_eq_true, beq_iff_eq, S39.mk.injEq]

theorem take_snoc39 {l : List S39} {i : Nat} (h : i < l.length) : l.take (i + 1) = l.take i ++ [rd_T39 l (i : Int)] := by
  rw [List.take_succ_eq_append_getElem h]
  simp [rd_T39, h]

section
variable {l : List S39} {rs : List Int} (hl : rs.length = l.length) (hm : l.length ≤ 40) (hv : allV l = true) (hg : goodA l rs l.length = true)
include hl hm hg

theorem cl5 {X : List S39} {K : List Int} {i : Nat} (hi : i < l.length) (hX : X.length ≤ 40) (n : Nat)
    (hn : (if rd rs (i : Int) = 2 then n = l.countP (inC (co l i)) else n = 1))
    (hR : Ev (fun m => sizarlaw15_AverageCounts.l3 m l rs X K ((i + 1 : Nat) : Int)) true) :
    ∀ (d k : Nat), k + d = l.length → Ev (fun m => sizarlaw15_AverageCounts.l5 m l rs X K (i : Int) (n : Int) (((l.take k).countP (inC (co l i)) : Nat) : Int) (k : Int)) true := by
  have ei : wrap64 ((i : Int) + 1) = ((i + 1 : Nat) : Int) := wrap64_id (by omega) (by omega)
  intro d
  induction d with
  | zero =>
    intro k hk
    obtain rfl : k = l.length := by omega
    refine hR.step fun m => ?_
    simp only [sizarlaw15_AverageCounts.l5]
    rw [if_neg (by omega), if_pos (by omega), if_pos (by omega), List.take_length, ei]
    by_cases h2 : rd rs (i : Int) = 2
    · rw [if_pos h2] at hn
      rw [if_pos h2, if_pos (by rw [hn])]
    · rw [if_neg h2] at hn
      rw [if_neg h2, if_pos (by rw [hn]; rfl)]
  | succ d ih =>
    intro k hk
    have ek : wrap64 ((k : Int) + 1) = ((k + 1 : Nat) : Int) := wrap64_id (by omega) (by omega)
    have hc : (l.take k).countP (inC (co l i)) ≤ (l.take k).length := List.countP_le_length
    rw [List.length_take] at hc
    refine (ih (k + 1) (by omega)).step fun m => ?_
    simp only [sizarlaw15_AverageCounts.l5]
    rw [if_pos (by omega), if_pos (by omega), if_pos (by omega), if_pos (by omega), ek, take_snoc39 (l := l) (i := k) (by omega), List.countP_append, List.countP_cons, List.countP_nil]
    by_cases h : (rd_T39 l (k : Int)).f0 = (rd_T39 l (i : Int)).f0
    · have hin : inC (co l i) (rd_T39 l (k : Int)) = true := decide_eq_true h
      have ew : wrap64 ((((l.take k).countP (inC (co l i)) : Nat) : Int) + 1) = (((l.take k).countP (inC (co l i)) + (0 + 1) : Nat) : Int) := by rw [wrap64_id (by clear ek ei; omega) (by clear ek ei; omega)]; omega
      rw [if_pos h, if_pos hin, ew]
    · have hin : ¬ inC (co l i) (rd_T39 l (k : Int)) = true := fun hh => h (of_decide_eq_true hh)
      rw [if_neg h, if_neg hin]
      rfl

theorem cl4 {X : List S39} {K : List Int} {i : Nat} (hi : i < l.length) (hX : X.length ≤ 40)
    (hn : (if rd rs (i : Int) = 2 then X.countP (inC (co l i)) = l.countP (inC (co l i)) else X.countP (inC (co l i)) = 1))
    (hR : Ev (fun m => sizarlaw15_AverageCounts.l3 m l rs X K ((i + 1 : Nat) : Int)) true) :
    ∀ (d k : Nat), k + d = X.length → Ev (fun m => sizarlaw15_AverageCounts.l4 m l rs X K (i : Int) (((X.take k).countP (inC (co l i)) : Nat) : Int) 0 (k : Int)) true := by
  intro d
  induction d with
  | zero =>
    intro k hk
    obtain rfl : k = X.length := by omega
    refine (cl5 hl hm hg hi hX (X.countP (inC (co l i))) hn hR l.length 0 (by omega)).step fun m => ?_
    simp only [sizarlaw15_AverageCounts.l4]
    rw [if_neg (by omega), List.take_length]
    rfl
  | succ d ih =>
    intro k hk
    have ek : wrap64 ((k : Int) + 1) = ((k + 1 : Nat) : Int) := wrap64_id (by omega) (by omega)
    have hc : (X.take k).countP (inC (co l i)) ≤ (X.take k).length := List.countP_le_length
    rw [List.length_take] at hc
    refine (ih (k + 1) (by omega)).step fun m => ?_
    simp only [sizarlaw15_AverageCounts.l4]
    rw [if_pos (by omega), if_pos (by omega), if_pos (by omega), if_pos (by omega), ek, take_snoc39 (l := X) (i := k) (by omega), List.countP_append, List.countP_cons, List.countP_nil]
    by_cases h : (rd_T39 X (k : Int)).f0 = (rd_T39 l (i : Int)).f0
    · have hin : inC (co l i) (rd_T39 X (k : Int)) = true := decide_eq_true h
      have ew : wrap64 ((((X.take k).countP (inC (co l i)) : Nat) : Int) + 1) = (((X.take k).countP (inC (co l i)) + (0 + 1) : Nat) : Int) := by rw [wrap64_id (by clear ek; omega) (by clear ek; omega)]; omega
      rw [if_pos h, if_pos hin, ew]
    · have hin : ¬ inC (co l i) (rd_T39 X (k : Int)) = true := fun hh => h (of_decide_eq_true hh)
      rw [if_neg h, if_neg hin]
      rfl

include hv in
theorem cl3 : ∀ (d i : Nat), i + d = l.length → Ev (fun m => sizarlaw15_AverageCounts.l3 m l rs (selA l rs l.length) (ksA l rs) (i : Int)) true := by
  have hX := selA_length l rs l.length
  intro d
  induction d with
  | zero =>
    intro i hi
    obtain rfl : i = l.length := by omega
    refine Ev.now fun m => ?_
    simp only [sizarlaw15_AverageCounts.l3]
    rw [if_neg (by omega), again hg hv (by omega)]
    simp only [Option.bind_some, if_true]
    unfold sizarref15_SameC.f
    rw [(sameB_iff _ _).2 rfl]
    rfl
  | succ d ih =>
    intro i hi
    have hlt : i < l.length := by omega
    refine (cl4 hl hm hg hlt (X := selA l rs l.length) (K := ksA l rs) (by omega) (by
      split
      · rename_i h; exact count_two hg hlt h
      · rename_i h; exact count_best hg hlt h) (ih (i + 1) (by omega)) (selA l rs l.length).length 0 (by omega)).step fun m => ?_
    simp only [sizarlaw15_AverageCounts.l3]
    rw [if_pos (by omega)]
    rfl

theorem cl2 {i : Nat} (hi : i < (idx l rs).length) {K : List Int}
    (hR : Ev (fun m => sizarlaw15_AverageCounts.l0 m l rs (selA l rs l.length) K ((i + 1 : Nat) : Int)) true) :
    ∀ (d k : Nat), k + d = l.length → Ev (fun m => sizarlaw15_AverageCounts.l2 m l rs (selA l rs l.length) K (i : Int) (rd rs ((tI l rs i : Nat) : Int)) (k : Int)) true := by
  have hX := selA_length l rs l.length
  have hil : i < (selA l rs l.length).length := by rw [sel_len]; exact hi
  have ei : wrap64 ((i : Int) + 1) = ((i + 1 : Nat) : Int) := wrap64_id (by omega) (by omega)
  intro d
  induction d with
  | zero =>
    intro k hk
    obtain rfl : k = l.length := by omega
    refine hR.step fun m => ?_
    simp only [sizarlaw15_AverageCounts.l2]
    rw [if_neg (by omega), ei]
  | succ d ih =>
    intro k hk
    have ek : wrap64 ((k : Int) + 1) = ((k + 1 : Nat) : Int) := wrap64_id (by omega) (by omega)
    refine (ih (k + 1) (by omega)).step fun m => ?_
    simp only [sizarlaw15_AverageCounts.l2]
    rw [if_pos (by omega), if_pos (by omega), if_pos (by omega), if_pos (by omega), ek, sel_at hi]
    by_cases hc : (rd_T39 l (k : Int)).f0 = (rd_T39 l ((tI l rs i : Nat) : Int)).f0
    · rw [if_pos hc]
      have ht := tI_lt hi
      have hnb : rd rs ((tI l rs i : Nat) : Int) ≠ 2 → k ≠ tI l rs i → ¬ bet l (rd rs ((tI l rs i : Nat) : Int)) k (tI l rs i) := fun h2 hne => not_bet hg ht (by omega) (tI_kp hi) h2 hne hc
      by_cases hkt : k = tI l rs i
      · rw [← hkt]
        rw [if_neg (show ¬ (rd_T39 l (k : Int)).f2 > (rd_T39 l (k : Int)).f2 by omega), if_neg (show ¬ (rd_T39 l (k : Int)).f1 < (rd_T39 l (k : Int)).f1 by omega), if_neg (show ¬ (rd_T39 l (k : Int)).f1 > (rd_T39 l (k : Int)).f1 by omega), if_pos rfl]
        repeat' split
        all_goals rfl
      · by_cases h0 : rd rs ((tI l rs i : Nat) : Int) = 0
        · have hb := hnb (by omega) hkt
          unfold bet at hb
          rw [if_pos h0] at hb
          have h9 : ¬ rd rs ((tI l rs i : Nat) : Int) = 1 := by omega
          rw [if_pos h0, if_neg (by omega)]
          by_cases h3 : (rd_T39 l (k : Int)).f2 = (rd_T39 l ((tI l rs i : Nat) : Int)).f2
          · rw [if_pos h3, if_neg (by clear ek ei; omega), if_neg h9]
          · rw [if_neg h3, if_neg h9]
        · rw [if_neg h0]
          by_cases h1 : rd rs ((tI l rs i : Nat) : Int) = 1
          · have hb := hnb (by omega) hkt
            unfold bet at hb
            rw [if_neg h0] at hb
            rw [if_pos h1, if_neg (by clear ek ei; omega)]
          · rw [if_neg h1]
    · rw [if_neg hc]

theorem cl1 {i : Nat} (hi : i < (idx l rs).length) {K : List Int} (hK : K.length ≤ 40)
    (hR : Ev (fun m => sizarlaw15_AverageCounts.l0 m l rs (selA l rs l.length) (K ++ [rd rs ((tI l rs i : Nat) : Int)]) ((i + 1 : Nat) : Int)) true) :
    ∀ (d k : Nat) (v : Int), k + d = l.length → (tI l rs i < k → v = rd rs ((tI l rs i : Nat) : Int)) → Ev (fun m => sizarlaw15_AverageCounts.l1 m l rs (selA l rs l.length) K (i : Int) v (k : Int)) true := by
  have hX := selA_length l rs l.length
  have hil : i < (selA l rs l.length).length := by rw [sel_len]; exact hi
  have ht := tI_lt hi
  intro d
  induction d with
  | zero =>
    intro k v hk hvk
    obtain rfl : k = l.length := by omega
    have hvv := hvk ht
    have hin := kind_in hg ht
    refine (cl2 hl hm hg hi hR l.length 0 (by omega)).step fun m => ?_
    simp only [sizarlaw15_AverageCounts.l1]
    rw [if_neg (by omega), if_pos (by omega), if_neg (by omega), hvv]
    rfl
  | succ d ih =>
    intro k v hk hvk
    have ek : wrap64 ((k : Int) + 1) = ((k + 1 : Nat) : Int) := wrap64_id (by omega) (by omega)
    by_cases hx : rd_T39 l (k : Int) = rd_T39 (selA l rs l.length) (i : Int)
    · have hc : co l k = co l (tI l rs i) := by unfold co; rw [hx, sel_at hi]
      have hr := kind_same hg (show k < l.length by omega) ht hc
      refine (ih (k + 1) (rd rs (k : Int)) (by omega) (fun _ => hr)).step fun m => ?_
      simp only [sizarlaw15_AverageCounts.l1]
      rw [if_pos (by omega), if_pos (by omega), if_pos (by omega), if_pos (by omega), if_pos ((cell_same _ _).2 hx), if_pos (by omega), ek]
    · refine (ih (k + 1) v (by omega) (fun h => ?_)).step fun m => ?_
      · by_cases hkt : tI l rs i = k
        · rw [sel_at hi, hkt] at hx; exact absurd rfl hx
        · exact hvk (by omega)
      · simp only [sizarlaw15_AverageCounts.l1]
        rw [if_pos (by omega), if_pos (by omega), if_pos (by omega), if_pos (by omega), if_neg (fun h => hx ((cell_same _ _).1 h)), ek]

include hv in
theorem cl0 : ∀ (d i : Nat), i + d = (idx l rs).length → Ev (fun m => sizarlaw15_AverageCounts.l0 m l rs (selA l rs l.length) ((ksA l rs).take i) (i : Int)) true := by
  have hX := selA_length l rs l.length
  have hlen := sel_len (l := l) (rs := rs)
  intro d
  induction d with
  | zero =>
    intro i hi
    obtain rfl : i = (idx l rs).length := by omega
    refine (cl3 hl hm hv hg l.length 0 (by omega)).step fun m => ?_
    simp only [sizarlaw15_AverageCounts.l0]
    rw [if_neg (by omega), List.take_of_length_le (by rw [ks_len]; omega)]
    rfl
  | succ d ih =>
    intro i hi
    have hlt : i < (idx l rs).length := by omega
    have hkl : i < (ksA l rs).length := by rw [ks_len]; omega
    have hs : (ksA l rs).take (i + 1) = (ksA l rs).take i ++ [rd rs ((tI l rs i : Nat) : Int)] := by
      rw [List.take_succ_eq_append_getElem hkl, ← ks_at hlt]
      simp [rd, hkl]
    have := ih (i + 1) (by omega)
    rw [hs] at this
    refine (cl1 hl hm hg hlt (by rw [List.length_take]; omega) this l.length 0 (-1) (by omega) (fun h => by omega)).step fun m => ?_
    simp only [sizarlaw15_AverageCounts.l0]
    rw [if_pos (by omega)]
    rfl
end

theorem counts_j0 {l : List S39} {rs : List Int} (hm : l.length ≤ 40) : Ev (fun m => sizarlaw15_AverageCounts.j0 m l rs false) true := by
  rcases hv : allV l with _ | _
  · refine Ev.now fun m => ?_
    simp only [sizarlaw15_AverageCounts.j0, if_neg Bool.false_ne_true]
    have : average_Counted.f l rs = some ([], 150) := by unfold average_Counted.f; rw [if_pos (by omega), hv]; rfl
    rw [this]
    rfl
  · by_cases hl : rs.length = l.length
    · rcases hg : goodA l rs l.length with _ | _
      · refine Ev.now fun m => ?_
        simp only [sizarlaw15_AverageCounts.j0, if_neg Bool.false_ne_true]
        have : average_Counted.f l rs = some ([], 1) := by unfold average_Counted.f; rw [if_pos (by omega), hv, if_pos rfl, if_pos hl, hg]; rfl
        rw [this]
        rfl
      · refine (cl0 hl hm hv hg (idx l rs).length 0 (by omega)).step fun m => ?_
        simp only [sizarlaw15_AverageCounts.j0, if_neg Bool.false_ne_true]
        have : average_Counted.f l rs = some (selA l rs l.length, 0) := by unfold average_Counted.f; rw [if_pos (by omega), hv, if_pos rfl, if_pos hl, hg]; rfl
        rw [this]
        simp only [Option.bind_some, if_true]
        rw [if_pos (by omega)]
        rfl
    · refine Ev.now fun m => ?_
      simp only [sizarlaw15_AverageCounts.j0, if_neg Bool.false_ne_true]
      have : average_Counted.f l rs = some ([], 1) := by unfold average_Counted.f; rw [if_pos (by omega), hv, if_pos rfl, if_neg hl]
      rw [this]
      rfl

theorem pure_AverageCounts (l0 : List S39) (l1 : List Int) : ∃ k, sizarlaw15_AverageCounts.f k l0 l1 = some true := by
  unfold sizarlaw15_AverageCounts.f sizarlaw15_saneC.f sizarref15_Few.f
  simp only [Option.bind_some, if_true]
  by_cases h0 : (l0.length : Int) ≤ 40
  · by_cases h1 : (l1.length : Int) > 60
    · refine ⟨1, ?_⟩
      rw [decide_eq_true h0, if_pos rfl, decide_eq_true h1]
      simp only [sizarlaw15_AverageCounts.j0, if_true]
    · obtain ⟨K, hK⟩ := counts_j0 (l := l0) (rs := l1) (by omega)
      refine ⟨K, ?_⟩
      rw [decide_eq_true h0, if_pos rfl, decide_eq_false h1]
      exact hK K (Nat.le_refl _)
  · refine ⟨1, ?_⟩
    rw [decide_eq_false h0, if_neg Bool.false_ne_true]
    simp only [sizarlaw15_AverageCounts.j0, if_true]
end Go.Proofs.Ytgoicalffgehoaa.P
