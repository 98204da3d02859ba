/- The plain law of AverageBetween. No condition. -/
import Derived.Test.YtgoicalffgehoaaEBtw
import Derived.Test.YtgoicalffgehoaaCAvs
namespace Go.Proofs.Ytgoicalffgehoaa.P
open Go.RowKit Go.Proofs.YtgoicalffgehoaaW.PrintWords Go.Proofs.Ytgoicalffgehoaa

theorem btw_rd {l : List S39} {j : Nat} (h : j < l.length) : rd_T39 l (j : Int) = l[j] := by simp [rd_T39, h]

theorem btw_le {a b c d : Int} (hb : 0 < b) (hd : 0 < d) (h : a * d ≤ c * b) : Rat.divInt a b ≤ Rat.divInt c d := by
  have e : Rat.divInt c d - Rat.divInt a b = Rat.divInt (c * b - a * d) (d * b) := Rat.divInt_sub_divInt _ _ (by omega) (by omega)
  have e2 : 0 ≤ Rat.divInt (c * b - a * d) (d * b) := (Rat.divInt_nonneg_iff_of_pos_right (Int.mul_pos hd hb)).2 (by omega)
  rw [← e] at e2
  exact (Rat.le_iff_sub_nonneg _ _).2 e2

theorem btw_mean_no {l : List S39} (hv : allV l = false) : average_MeanC.f l = some (0, 0, 150) := by
  unfold average_MeanC.f meanA; rw [hv]; rfl
theorem btw_mean_zero {l : List S39} (hv : allV l = true) (hl : l.length ≤ 1000) (h0 : S2 (prA l) = 0) : average_MeanC.f l = some (0, 1, 0) := by
  obtain ⟨s1, s2, -⟩ := sums_plain hv hl
  unfold average_MeanC.f meanA
  rw [hv, s1, h0]; rfl
theorem btw_mean {l : List S39} (hv : allV l = true) (hl : l.length ≤ 1000) (h0 : 0 < S2 (prA l)) :
    fitsQ (Rat.divInt (S1 (prA l)) (S2 (prA l))) ∧ average_MeanC.f l = some ((Rat.divInt (S1 (prA l)) (S2 (prA l))).num, ((Rat.divInt (S1 (prA l)) (S2 (prA l))).den : Int), 0) := by
  obtain ⟨s1, s2, s3, s4, s5, s6⟩ := sums_plain hv hl
  have hne : S2 (prA l) ≠ 0 := by omega
  have hfit : fitsQ (Rat.divInt (S1 (prA l)) (S2 (prA l))) := fits_of_bounds (by omega) (by omega) (by omega) (by omega)
  refine ⟨hfit, ?_⟩
  unfold average_MeanC.f meanA
  rw [hv, s1, s2, if_pos rfl, if_neg hne, newN_Q hne, newD_Q hne, newE_Q hne, rN_fits hfit, rD_fits hfit, rE_fits hfit]

theorem btw_S2_pos {l : List S39} (hv : allV l = true) {x : S39} (hx : x ∈ l) (h0 : 0 < x.f4) : 0 < S2 (prA l) := by
  obtain ⟨A, B, rfl⟩ := List.append_of_mem hx
  have hb := prA_ok hv
  have e : prA (A ++ x :: B) = prA A ++ (x.f2, x.f4) :: prA B := by unfold prA; simp
  rw [e] at hb ⊢
  rw [S2_append, S2_cons]
  have hA : 0 ≤ S2 (prA A) := S2_nonneg fun p hp => (hb p (by simp [hp])).2.2.1
  have hB : 0 ≤ S2 (prA B) := S2_nonneg fun p hp => (hb p (by simp [hp])).2.2.1
  dsimp only
  omega
theorem btw_S2_zero : ∀ {L : List (Int × Int)}, (∀ p ∈ L, p.2 = 0) → S2 L = 0
  | [], _ => rfl
  | p :: L, h => by rw [S2_cons, h p (by simp), btw_S2_zero fun q hq => h q (List.mem_cons_of_mem _ hq)]; rfl

/-- What the loop keeps after i elements. -/
def BInv (l : List S39) (i : Nat) (lo hi : Int) (sm : Bool) : Prop :=
  0 ≤ lo ∧ lo ≤ 12 ∧ 0 ≤ hi ∧ hi ≤ 12 ∧ (∀ (j : Nat) (h : j < l.length), j < i → 0 < (l[j]).f4 → lo ≤ (l[j]).f2 ∧ (l[j]).f2 ≤ hi ∧ sm = true) ∧ (sm = true → ∃ x, x ∈ l ∧ 0 < x.f4)

theorem btw_step_yes {l : List S39} (hv : allV l = true) {i : Nat} (hi : i < l.length) {lo hi' : Int} {sm : Bool} (h : BInv l i lo hi' sm) (h4 : 0 < (l[i]).f4) :
    BInv l (i + 1) (mn lo (l[i]).f2) (mx hi' (l[i]).f2) true := by
  obtain ⟨a1, a2, a3, a4, a5, a6⟩ := h
  have hx := vA_iff.1 (allV_iff.1 hv l[i] (List.getElem_mem hi))
  have m1 : mn lo (l[i]).f2 ≤ lo ∧ mn lo (l[i]).f2 ≤ (l[i]).f2 ∧ 0 ≤ mn lo (l[i]).f2 := by unfold mn; omega
  have m2 : hi' ≤ mx hi' (l[i]).f2 ∧ (l[i]).f2 ≤ mx hi' (l[i]).f2 ∧ mx hi' (l[i]).f2 ≤ 12 := by unfold mx; omega
  refine ⟨m1.2.2, by omega, by omega, m2.2.2, fun j hj hji hp => ?_, fun _ => ⟨_, List.getElem_mem hi, h4⟩⟩
  by_cases e : j = i
  · subst e; exact ⟨m1.2.1, m2.2.1, rfl⟩
  · obtain ⟨b1, b2, -⟩ := a5 j hj (by omega) hp
    exact ⟨by omega, by omega, rfl⟩
theorem btw_step_no {l : List S39} {i : Nat} (hi : i < l.length) {lo hi' : Int} {sm : Bool} (h : BInv l i lo hi' sm) (h4 : ¬ 0 < (l[i]).f4) : BInv l (i + 1) lo hi' sm := by
  obtain ⟨a1, a2, a3, a4, a5, a6⟩ := h
  refine ⟨a1, a2, a3, a4, fun j hj hji hp => ?_, a6⟩
  by_cases e : j = i
  · subst e; exact absurd hp h4
  · exact a5 j hj (by omega) hp

theorem btw_l0 {l : List S39} (hv : allV l = true) (hl : l.length ≤ 40) (b0 b1 b2 b3 b4 n e : Int) : ∀ (d k i : Nat) (lo hi : Int) (sm : Bool), i + d = l.length → BInv l i lo hi sm →
    ∃ lo' hi' sm', BInv l l.length lo' hi' sm' ∧ sizarlaw15_AverageBetween.l0 (k + d) l lo hi sm (i : Int) b0 b1 b2 b3 b4 n e = sizarlaw15_AverageBetween.l0 k l lo' hi' sm' (l.length : Int) b0 b1 b2 b3 b4 n e := by
  intro d
  induction d with
  | zero =>
    intro k i lo hi sm hi0 hI
    obtain rfl : i = l.length := by omega
    exact ⟨lo, hi, sm, hI, rfl⟩
  | succ d ih =>
    intro k i lo hi sm hi0 hI
    have hlt : i < l.length := by omega
    have ew : wrap64 ((i : Int) + 1) = ((i + 1 : Nat) : Int) := by rw [wrap64_id (by omega) (by omega)]; omega
    have ek : k + (d + 1) = (k + d) + 1 := by omega
    rw [ek]
    simp only [sizarlaw15_AverageBetween.l0]
    rw [if_pos (show (i : Int) < (l.length : Int) by clear ew; omega), if_pos (show 0 ≤ (i : Int) by clear ew; omega), btw_rd hlt, ew]
    by_cases h4 : 0 < (l[i]).f4
    · rw [if_pos h4]
      obtain ⟨lo', hi', sm', hJ, hE⟩ := ih k (i + 1) _ _ _ (by clear ew; omega) (btw_step_yes hv hlt hI h4)
      exact ⟨lo', hi', sm', hJ, hE⟩
    · rw [if_neg h4]
      obtain ⟨lo', hi', sm', hJ, hE⟩ := ih k (i + 1) _ _ _ (by clear ew; omega) (btw_step_no hlt hI h4)
      exact ⟨lo', hi', sm', hJ, hE⟩

theorem btw_j1 {l : List S39} (hv : allV l = true) (hl : l.length ≤ 40) (b0 b1 b2 b3 b4 hi : Int) (h0 : 0 < S2 (prA l)) (hhi : S1 (prA l) ≤ hi * S2 (prA l)) (k : Nat) :
    sizarlaw15_AverageBetween.j1 (k + 1) l hi false b0 b1 b2 b3 b4 (Rat.divInt (S1 (prA l)) (S2 (prA l))).num ((Rat.divInt (S1 (prA l)) (S2 (prA l))).den : Int) = some true := by
  have hq := (btw_mean hv (by omega) h0).1
  have hlen : (l ++ [(⟨b0, b1, b2, b3, b4⟩ : S39)]).length = l.length + 1 := by rw [List.length_append, List.length_singleton]
  simp only [sizarlaw15_AverageBetween.j1, if_neg Bool.false_ne_true]
  simp only [Option.bind_some, List.nil_append, List.length_nil, List.length_singleton]
  rw [if_pos (by omega), if_pos (by omega)]
  rcases ht : allV (l ++ [(⟨b0, b1, b2, b3, b4⟩ : S39)]) with _ | _
  · rw [btw_mean_no ht]; rfl
  · have hy := vA_iff.1 (allV_iff.1 ht ⟨b0, b1, b2, b3, b4⟩ (by simp))
    dsimp only at hy
    have e1 : prA (l ++ [(⟨b0, b1, b2, b3, b4⟩ : S39)]) = prA l ++ [(b2, b4)] := by rw [prA_append]; rfl
    have e2 : S2 (prA (l ++ [(⟨b0, b1, b2, b3, b4⟩ : S39)])) = S2 (prA l) + b4 := by rw [e1, S2_append]; simp [S2]
    have e3 : S1 (prA (l ++ [(⟨b0, b1, b2, b3, b4⟩ : S39)])) = S1 (prA l) + b2 * b4 := by rw [e1, S1_append]; simp [S1]
    obtain ⟨hf, hm⟩ := btw_mean ht (by omega) (by omega)
    rw [hm]
    simp only [Option.bind_some, if_true]
    by_cases hg : b2 < hi
    · rw [if_pos hg]
    · rw [if_neg hg, cmp_f (fits_in hq).1 (fits_in hq).2 (fits_in hf).1 (fits_in hf).2]
      simp only [Option.bind_some]
      rw [cmpE_Q hq hf, cmpN_Q hq hf, if_pos rfl]
      congr 1
      refine decide_eq_true (cmpQ_le.2 ?_)
      refine btw_le h0 (by omega) ?_
      rw [e2, e3]
      have g1 : hi * S2 (prA l) ≤ b2 * S2 (prA l) := Int.mul_le_mul_of_nonneg_right (by omega) (by omega)
      have g2 : 0 ≤ (b2 * S2 (prA l) - S1 (prA l)) * b4 := Int.mul_nonneg (by omega) (by omega)
      have g3 : (S1 (prA l) + b2 * b4) * S2 (prA l) - S1 (prA l) * (S2 (prA l) + b4) = (b2 * S2 (prA l) - S1 (prA l)) * b4 := by grind
      omega

theorem btw_end {l : List S39} (hv : allV l = true) (hl : l.length ≤ 40) (b0 b1 b2 b3 b4 lo hi : Int) (sm : Bool) (h : BInv l l.length lo hi sm) (k : Nat) :
    ∃ n e, average_MeanC.f l = some (n, e, 0) ∧ sizarlaw15_AverageBetween.l0 (k + 2) l lo hi sm (l.length : Int) b0 b1 b2 b3 b4 n e = some true := by
  obtain ⟨a1, a2, a3, a4, a5, a6⟩ := h
  have hb := prA_ok hv
  rcases sm with _ | _
  · have hz : S2 (prA l) = 0 := btw_S2_zero fun p hp => by
      have hp' := hp
      unfold prA at hp'
      rw [List.mem_map] at hp'
      obtain ⟨x, hx, rfl⟩ := hp'
      obtain ⟨j, hj, rfl⟩ := List.mem_iff_getElem.1 hx
      have hn := (hb _ hp).2.2.1
      by_cases hp0 : 0 < (l[j]).f4
      · exact absurd (a5 j hj hj hp0).2.2 Bool.false_ne_true
      · dsimp only at hn ⊢; omega
    refine ⟨0, 1, btw_mean_zero hv (by omega) hz, ?_⟩
    simp only [sizarlaw15_AverageBetween.l0]
    rw [if_neg (by omega), if_neg Bool.false_ne_true]
    rfl
  · obtain ⟨x, hx, hx0⟩ := a6 rfl
    have h0 := btw_S2_pos hv hx hx0
    obtain ⟨hf, hm⟩ := btw_mean hv (by omega) h0
    have hin : ∀ p ∈ prA l, 0 < p.2 → lo ≤ p.1 ∧ p.1 ≤ hi := fun p hp hp0 => by
      unfold prA at hp
      rw [List.mem_map] at hp
      obtain ⟨y, hy, rfl⟩ := hp
      obtain ⟨j, hj, rfl⟩ := List.mem_iff_getElem.1 hy
      obtain ⟨c1, c2, -⟩ := a5 j hj hj hp0
      exact ⟨c1, c2⟩
    have hlo := lo_le (L := prA l) (lo := lo) (fun p hp => (hb p hp).2.2.1) (fun p hp h => (hin p hp h).1)
    have hhi := le_hi (L := prA l) (hi := hi) (fun p hp => (hb p hp).2.2.1) (fun p hp h => (hin p hp h).2)
    refine ⟨_, _, hm, ?_⟩
    have hj := btw_j1 hv hl b0 b1 b2 b3 b4 hi h0 hhi k
    have c1 : ratio_Compare.f lo 1 (Rat.divInt (S1 (prA l)) (S2 (prA l))).num ((Rat.divInt (S1 (prA l)) (S2 (prA l))).den : Int) = some (cmpQ (Rat.divInt lo 1) (Rat.divInt (S1 (prA l)) (S2 (prA l))), 0) := by
      obtain ⟨q, hq, e1, e2, e3⟩ := den_one (n := lo) (by omega)
      rw [e1, e2, cmp_f (fits_in hq).1 (fits_in hq).2 (fits_in hf).1 (fits_in hf).2, cmpE_Q hq hf, cmpN_Q hq hf, ← e1, ← e2, ← e3]
    have c2 : ratio_Compare.f (Rat.divInt (S1 (prA l)) (S2 (prA l))).num ((Rat.divInt (S1 (prA l)) (S2 (prA l))).den : Int) hi 1 = some (cmpQ (Rat.divInt (S1 (prA l)) (S2 (prA l))) (Rat.divInt hi 1), 0) := by
      obtain ⟨q, hq, e1, e2, e3⟩ := den_one (n := hi) (by omega)
      rw [e1, e2, cmp_f (fits_in hf).1 (fits_in hf).2 (fits_in hq).1 (fits_in hq).2, cmpE_Q hf hq, cmpN_Q hf hq, ← e1, ← e2, ← e3]
    have d1 := cmpQ_le.2 (le_divInt h0 hlo)
    have d2 := cmpQ_le.2 (divInt_le h0 hhi)
    simp only [sizarlaw15_AverageBetween.l0]
    rw [if_neg (by omega), if_pos trivial, c1, c2]
    simp only [Option.bind_some, if_true]
    rw [if_neg (by omega), decide_eq_false (by omega)]
    exact hj

theorem pure_AverageBetween (l0 : List S39) (a0 a1 a2 a3 a4 : Int) (_ : in64 a0) (_ : in64 a1) (_ : in64 a2) (_ : in64 a3) (_ : in64 a4) : ∃ k, sizarlaw15_AverageBetween.f k l0 a0 a1 a2 a3 a4 = some true := by
  unfold sizarlaw15_AverageBetween.f sizarlaw15_saneC.f sizarref15_Few.f
  simp only [Option.bind_some, if_true]
  by_cases h0 : (l0.length : Int) ≤ 40
  · simp only [decide_eq_true h0, if_true]
    rcases hv : allV l0 with _ | _
    · refine ⟨0, ?_⟩
      rw [btw_mean_no hv]; rfl
    · have hI : BInv l0 0 12 0 false := ⟨by omega, by omega, by omega, by omega, fun j _ hj => absurd hj (by omega), fun h => absurd h Bool.false_ne_true⟩
      have hL := fun n e => btw_l0 hv (by omega) a0 a1 a2 a3 a4 n e l0.length 2 0 12 0 false (by omega) hI
      refine ⟨2 + l0.length, ?_⟩
      obtain ⟨lo, hi, sm, hJ, -⟩ := hL 0 0
      obtain ⟨n, e, hm, -⟩ := btw_end hv (by omega) a0 a1 a2 a3 a4 lo hi sm hJ 0
      obtain ⟨lo', hi', sm', hJ', hE'⟩ := hL n e
      obtain ⟨n', e', hm', hE2⟩ := btw_end hv (by omega) a0 a1 a2 a3 a4 lo' hi' sm' hJ' 0
      obtain ⟨rfl, rfl⟩ : n = n' ∧ e = e' := by
        have hh := hm.symm.trans hm'
        simp only [Option.some.injEq, Prod.mk.injEq, and_true] at hh
        exact hh
      rw [hm]
      simp only [Option.bind_some, if_true]
      exact hE'.trans hE2
  · simp only [decide_eq_false h0, Bool.false_eq_true, if_false]
    exact ⟨0, trivial⟩
end Go.Proofs.Ytgoicalffgehoaa.P
