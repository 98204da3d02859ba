/- The plain law of AverageReached. Condition: the numbers are int64s. -/
import Derived.Test.YtgoicalffgehoaaP24
import Derived.Test.YtgoicalffgehoaaCAvs
namespace Go.Proofs.Ytgoicalffgehoaa.P
open Go.RowKit Go.Proofs.YtgoicalffgehoaaW.PrintWords Go.Proofs.Ytgoicalffgehoaa

/-- The mean with further credits x of grade g. -/
def mAt (c p x g : Int) : Rat := Rat.divInt (p + g * x) (c + x)
def rB (q : Rat) (c p x g : Int) : Bool := decide (q ≤ mAt c p x g)

theorem le_div {q : Rat} {n d : Int} (hd : 0 < d) : q ≤ Rat.divInt n d ↔ q.num * d ≤ n * q.den := by
  have e : Rat.divInt n d - q = Rat.divInt (n * q.den - q.num * d) (d * q.den) := by
    conv => lhs; rw [← divInt_num_den q]
    exact Rat.divInt_sub_divInt _ _ (by omega) (den_ne q)
  rw [Rat.le_iff_sub_nonneg, e, Rat.divInt_nonneg_iff_of_pos_right (Int.mul_pos hd (den_pos q))]
  omega

theorem gx_bounds {x g : Int} (hx : 1 ≤ x ∧ x ≤ 60) (hg : 0 ≤ g ∧ g ≤ 12) : 0 ≤ g * x ∧ g * x ≤ 720 := by
  have h1 : 0 ≤ g * x := Int.mul_nonneg hg.1 (by omega)
  have h2 : g * x ≤ 12 * x := Int.mul_le_mul_of_nonneg_right hg.2 (by omega)
  omega

theorem cond_iff {q : Rat} (hq : fitsQ q) {c p x g : Int} (hc : 0 ≤ c ∧ c ≤ 1200) (hp : 0 ≤ p ∧ p ≤ 14400) (hx : 1 ≤ x ∧ x ≤ 60) (hg : 0 ≤ g ∧ g ≤ 12) :
    ((wrap64 ((wrap64 (p + (wrap64 (g * x)))) * q.den)) ≥ (wrap64 (q.num * (wrap64 (c + x))))) ↔ rB q c p x g = true := by
  obtain ⟨b1, b2⟩ := gx_bounds hx hg
  have hq' := hq
  unfold fitsQ at hq'
  have hd := den_pos q
  have e1 : wrap64 (g * x) = g * x := wrap64_id (by omega) (by omega)
  have e2 : wrap64 (p + g * x) = p + g * x := wrap64_id (by omega) (by omega)
  have e3 : wrap64 (c + x) = c + x := wrap64_id (by omega) (by omega)
  have m1 : (p + g * x) * (q.den : Int) ≤ 15120 * (q.den : Int) := Int.mul_le_mul_of_nonneg_right (by omega) (by omega)
  have m2 : 0 ≤ (p + g * x) * (q.den : Int) := Int.mul_nonneg (by omega) (by omega)
  have m3 : q.num * (c + x) ≤ 1073741824 * (c + x) := Int.mul_le_mul_of_nonneg_right (by omega) (by omega)
  have m4 : -1073741824 * (c + x) ≤ q.num * (c + x) := Int.mul_le_mul_of_nonneg_right (by omega) (by omega)
  rw [e1, e2, e3]
  have e4 : wrap64 ((p + g * x) * (q.den : Int)) = (p + g * x) * (q.den : Int) := wrap64_id (by clear e1 e2 e3; omega) (by clear e1 e2 e3; omega)
  have e5 : wrap64 (q.num * (c + x)) = q.num * (c + x) := wrap64_id (by clear e1 e2 e3 e4; omega) (by clear e1 e2 e3 e4; omega)
  rw [e4, e5]
  unfold rB mAt
  rw [decide_eq_true_eq, le_div (by omega)]

theorem first_says {q : Rat} (hq : fitsQ q) {c p x : Int} (hc : 0 ≤ c ∧ c ≤ 1200) (hp : 0 ≤ p ∧ p ≤ 14400) (hx : 1 ≤ x ∧ x ≤ 60) : ∀ (d : Nat) (i : Int), 0 ≤ i → i + d = 13 →
    (∃ g, i ≤ g ∧ g ≤ 12 ∧ firstG x c p q.num q.den d i = (g, true, 0) ∧ rB q c p x g = true ∧ ∀ j, i ≤ j → j < g → rB q c p x j = false) ∨
    (firstG x c p q.num q.den d i = (0, false, 0) ∧ ∀ j, i ≤ j → j ≤ 12 → rB q c p x j = false) := by
  intro d
  induction d with
  | zero =>
    intro i h0 hi
    exact .inr ⟨rfl, fun j h1 h2 => by omega⟩
  | succ d ih =>
    intro i h0 hi
    have hcond := cond_iff hq hc hp hx (g := i) ⟨h0, by omega⟩
    unfold firstG
    rcases hb : rB q c p x i with _ | _
    · rw [if_neg (fun h => by rw [hcond.1 h] at hb; cases hb)]
      rcases ih (i + 1) (by omega) (by omega) with ⟨g, g1, g2, g3, g4, g5⟩ | ⟨g1, g2⟩
      · refine .inl ⟨g, by omega, g2, g3, g4, fun j h1 h2 => ?_⟩
        by_cases hj : j = i
        · rw [hj]; exact hb
        · exact g5 j (by omega) h2
      · refine .inr ⟨g1, fun j h1 h2 => ?_⟩
        by_cases hj : j = i
        · rw [hj]; exact hb
        · exact g2 j (by omega) h2
    · rw [if_pos (hcond.2 hb)]
      exact .inl ⟨i, by omega, by omega, rfl, hb, fun j h1 h2 => by omega⟩

theorem reaches_eq {q : Rat} (hq : fitsQ q) {l : List S39} (hv : allV l = true) (hl : l.length ≤ 20) {x g : Int} (hx : 1 ≤ x ∧ x ≤ 60) (hg : 0 ≤ g ∧ g ≤ 12) :
    sizarlaw15_reaches.f l x g q.num q.den = some (rB q (S2 (prA l)) (S1 (prA l)) x g) := by
  obtain ⟨b1, b2⟩ := gx_bounds hx hg
  obtain ⟨-, -, s1, s2, s3, s4⟩ := sums_plain hv (by omega)
  have ht : allV (l ++ [(⟨0, 0, g, 0, x⟩ : S39)]) = true := by
    rw [allV_append, hv, Bool.true_and]
    refine allV_iff.2 fun y hy => ?_
    rw [List.mem_singleton] at hy
    subst hy
    exact vA_iff.2 ⟨by dsimp only; omega, by dsimp only; omega, by dsimp only; omega, by dsimp only; omega, by dsimp only; omega⟩
  have hlen : (l ++ [(⟨0, 0, g, 0, x⟩ : S39)]).length = l.length + 1 := by rw [List.length_append, List.length_singleton]
  obtain ⟨t1, t2, -, -, -, -⟩ := sums_plain ht (by omega)
  have e1 : prA (l ++ [(⟨0, 0, g, 0, x⟩ : S39)]) = prA l ++ [(g, x)] := by rw [prA_append]; rfl
  rw [e1, S2_append] at t1
  rw [e1, S1_append] at t2
  have e2 : S2 [(g, x)] = x := by simp [S2]
  have e3 : S1 [(g, x)] = g * x := by simp [S1]
  rw [e2] at t1
  rw [e3] at t2
  have hne : S2 (prA l) + x ≠ 0 := by omega
  have hfit : fitsQ (mAt (S2 (prA l)) (S1 (prA l)) x g) := fits_of_bounds (by omega) (by omega) (by omega) (by omega)
  have hm : meanA (l ++ [(⟨0, 0, g, 0, x⟩ : S39)]) = ((mAt (S2 (prA l)) (S1 (prA l)) x g).num, ((mAt (S2 (prA l)) (S1 (prA l)) x g).den : Int), 0) := by
    unfold meanA
    rw [ht, t1, t2, if_pos rfl, if_neg hne, newN_Q hne, newD_Q hne, newE_Q hne]
    show (rN (mAt _ _ _ _), rD (mAt _ _ _ _), rE (mAt _ _ _ _)) = _
    rw [rN_fits hfit, rD_fits hfit, rE_fits hfit]
  have hM : average_MeanC.f (l ++ [(⟨0, 0, g, 0, x⟩ : S39)]) = some ((mAt (S2 (prA l)) (S1 (prA l)) x g).num, ((mAt (S2 (prA l)) (S1 (prA l)) x g).den : Int), 0) := by
    unfold average_MeanC.f
    rw [hm]
  unfold sizarlaw15_reaches.f sizarlaw15_try.f
  simp only [Option.bind_some, List.nil_append, List.length_nil]
  rw [if_pos (by omega)]
  try simp only [Option.bind_some]
  rw [if_pos (by omega)]
  rw [hM]
  simp only [Option.bind_some]
  rw [cmp_f (fits_in hfit).1 (fits_in hfit).2 (fits_in hq).1 (fits_in hq).2]
  simp only [Option.bind_some, if_true]
  rw [cmpE_Q hfit hq, cmpN_Q hfit hq, if_pos rfl]
  congr 1
  unfold rB
  exact decide_eq_decide.2 cmpQ_ge

theorem reached_n (a : Int) : ∃ x : Int, wrap64 (1 + (Int.tmod (Go.bits .and .i64 a 1023) 60)) = x ∧ 1 ≤ x ∧ x ≤ 60 := by
  obtain ⟨m, hm, e⟩ := and_1023 a
  have e2 : Int.tmod (m : Int) 60 = ((m % 60 : Nat) : Int) := rfl
  have hlt : m % 60 < 60 := Nat.mod_lt _ (by omega)
  refine ⟨1 + ((m % 60 : Nat) : Int), ?_, by omega, by omega⟩
  rw [e, e2]
  exact wrap64_id (by omega) (by omega)

theorem pure_AverageReached (l0 : List S39) (a1 a2_0 a2_1 : Int) (_ : in64 a1) (h0 : in64 a2_0) (h1 : in64 a2_1) : sizarlaw15_AverageReached.f l0 a1 a2_0 a2_1 = some true := by
  obtain ⟨x, hx, x1, x2⟩ := reached_n a1
  unfold sizarlaw15_AverageReached.f sizarlaw15_saneC.f
  rw [hx]
  simp only [Option.bind_some, if_true]
  by_cases hl : (l0.length : Int) > 20
  · rw [if_pos hl]
  · rw [if_neg hl]
    have hn : average_NeededC.f l0 x a2_0 a2_1 = some (needA l0 x a2_0 a2_1) := by unfold average_NeededC.f; rw [if_pos ⟨h0, h1⟩]
    rw [hn]
    simp only [Option.bind_some]
    unfold needA
    rcases hv : allV l0 with _ | _
    · rfl
    · rw [if_pos rfl, if_pos (show 1 ≤ x ∧ x ≤ 10000 by omega)]
      rcases chk_cases a2_0 a2_1 with ⟨_, e⟩ | ⟨q, hq, rfl, rfl⟩
      · rw [e]; rfl
      · rw [valid_of_fits hq, if_pos rfl]
        obtain ⟨s1, s2, s3, s4, s5, s6⟩ := sums_plain hv (by omega)
        rw [s1, s2]
        rcases first_says hq (c := S2 (prA l0)) (p := S1 (prA l0)) (x := x) (by omega) (by omega) ⟨x1, x2⟩ 13 0 (by omega) (by omega) with ⟨g, g1, g2, g3, g4, g5⟩ | ⟨g1, g2⟩
        · rw [g3]
          simp only [if_true]
          rw [if_pos (by omega), if_pos (by omega), reaches_eq hq hv (by omega) ⟨x1, x2⟩ ⟨g1, g2⟩, g4]
          simp only [Option.bind_some, if_true]
          by_cases hg : g = 0
          · rw [if_pos hg]
          · rw [if_neg hg]
            have e : wrap64 (g - 1) = g - 1 := wrap64_id (by omega) (by omega)
            have g6 := g5 (g - 1) (by omega) (by omega)
            rw [e, reaches_eq hq hv (by omega) ⟨x1, x2⟩ (by clear e; omega), g6]
            rfl
        · rw [g1]
          simp only [if_true, if_neg Bool.false_ne_true]
          rw [reaches_eq hq hv (by omega) ⟨x1, x2⟩ (by omega), g2 12 (by omega) (by omega)]
          rfl
end Go.Proofs.Ytgoicalffgehoaa.P
