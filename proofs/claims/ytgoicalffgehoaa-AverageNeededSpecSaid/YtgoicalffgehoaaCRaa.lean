/- The reference's Add, Mul, Compare and Mean in closed form. Conditions: int64s; at most 2^20 values. -/
import Derived.Test.YtgoicalffgehoaaP5
import Derived.Test.YtgoicalffgehoaaCSum
import Derived.Test.YtgoicalffgehoaaCUse
namespace Go.Proofs.Ytgoicalffgehoaa.P
open Go.RowKit Go.Proofs.YtgoicalffgehoaaW.PrintWords Go.Proofs.Ytgoicalffgehoaa

theorem rnew_f {n d : Int} (h0 : in64 n) (h1 : in64 d) : sizarref05_NewC.f n d = some (newN n d, newD n d, newE n d) := by unfold sizarref05_NewC.f; rw [if_pos ⟨h0, h1⟩]
theorem rcheck_f {n d : Int} (h0 : in64 n) (h1 : in64 d) : sizarref05_CheckC.f n d = some (chkE n d) := by unfold sizarref05_CheckC.f; rw [if_pos ⟨h0, h1⟩]

theorem rboth {a b c d : Int} (h0 : in64 a) (h1 : in64 b) (h2 : in64 c) (h3 : in64 d) : sizarref05_check.f a b c d = some (if validB a b && validB c d then 0 else 50) := by
  unfold sizarref05_check.f
  rw [rcheck_f h0 h1, rcheck_f h2 h3]
  simp only [Option.bind_some]
  unfold chkE
  cases validB a b <;> cases validB c d <;> rfl

theorem ref_Add_eq {a b c d : Int} (h0 : in64 a) (h1 : in64 b) (h2 : in64 c) (h3 : in64 d) : sizarref05_Add.f a b c d = some (addN a b c d, addD a b c d, addE a b c d) := by
  unfold sizarref05_Add.f
  rw [rboth h0 h1 h2 h3]
  simp only [Option.bind_some]
  unfold addN addD addE
  rcases hv : validB a b && validB c d with _ | _
  · rfl
  · rw [Bool.and_eq_true] at hv
    obtain ⟨a1, a2, -, -⟩ := valid_small hv.1
    obtain ⟨b1, b2, -, -⟩ := valid_small hv.2
    rw [if_pos rfl, if_pos rfl, rnew_f (wrap64_in64 _) (wrap64_in64 _), add_wrap a1 b2 b1 a2, mul_wrap a2 b2]
    rfl
theorem ref_Mul_eq {a b c d : Int} (h0 : in64 a) (h1 : in64 b) (h2 : in64 c) (h3 : in64 d) : sizarref05_Mul.f a b c d = some (mulN a b c d, mulD a b c d, mulE a b c d) := by
  unfold sizarref05_Mul.f
  rw [rboth h0 h1 h2 h3]
  simp only [Option.bind_some]
  unfold mulN mulD mulE
  rcases hv : validB a b && validB c d with _ | _
  · rfl
  · rw [Bool.and_eq_true] at hv
    obtain ⟨a1, a2, -, -⟩ := valid_small hv.1
    obtain ⟨b1, b2, -, -⟩ := valid_small hv.2
    rw [if_pos rfl, if_pos rfl, rnew_f (wrap64_in64 _) (wrap64_in64 _), mul_wrap a1 b1, mul_wrap a2 b2]
    rfl
theorem ref_Compare_eq {a b c d : Int} (h0 : in64 a) (h1 : in64 b) (h2 : in64 c) (h3 : in64 d) : sizarref05_Compare.f a b c d = some (cmpN a b c d, cmpE a b c d) := by
  unfold sizarref05_Compare.f
  rw [rboth h0 h1 h2 h3]
  simp only [Option.bind_some]
  unfold cmpN cmpE cmp3
  rcases hv : validB a b && validB c d with _ | _
  · rfl
  · rw [Bool.and_eq_true] at hv
    obtain ⟨a1, a2, -, -⟩ := valid_small hv.1
    obtain ⟨b1, b2, -, -⟩ := valid_small hv.2
    rw [if_pos rfl, if_pos rfl, mul_wrap a1 b2, mul_wrap b1 a2]
    simp only [if_true]
    generalize a * d = x
    generalize c * b = y
    repeat' split
    all_goals first | rfl | (exfalso; omega)

theorem upP_drop {vs ws : List Int} {n i : Nat} (h : i < n) : (upP vs ws n).drop i = (rd vs (i : Int), rd ws (i : Int)) :: (upP vs ws n).drop (i + 1) := by
  have hl : i < (upP vs ws n).length := by rw [upP_length]; exact h
  rw [List.drop_eq_getElem_cons hl]
  congr 1
  simp [upP]

theorem ref_l1 {vs ws : List Int} (hl : ws.length = vs.length) (hm : vs.length ≤ 1048576) : ∀ (d i k : Nat), i + d = vs.length → d < k →
    sizarref05_Mean.l1 k vs ws (sumP (upP vs ws i)) (totP (upP vs ws i)) (i : Int) = if totP (prs vs ws) = 0 then some (0, 1, 0) else some (newN (sumP (prs vs ws)) (totP (prs vs ws)), newD (sumP (prs vs ws)) (totP (prs vs ws)), newE (sumP (prs vs ws)) (totP (prs vs ws))) := by
  intro d
  induction d with
  | zero =>
    intro i k hi hk
    obtain ⟨k, rfl⟩ : ∃ m, k = m + 1 := ⟨k - 1, by omega⟩
    simp only [sizarref05_Mean.l1]
    obtain rfl : i = vs.length := by omega
    rw [if_neg (by omega), rnew_f (sumP_in64 _) (totP_in64 _)]
    rfl
  | succ d ih =>
    intro i k hi hk
    obtain ⟨k, rfl⟩ : ∃ m, k = m + 1 := ⟨k - 1, by omega⟩
    simp only [sizarref05_Mean.l1]
    rw [if_pos (by omega), if_pos (by omega), if_pos (by omega)]
    have e : wrap64 ((i : Int) + 1) = ((i + 1 : Nat) : Int) := wrap64_id (by omega) (by omega)
    have hs := sumP_snoc (upP vs ws i) (rd vs (i : Int), rd ws (i : Int))
    have ht := totP_snoc (upP vs ws i) (rd vs (i : Int), rd ws (i : Int))
    rw [← upP_succ] at hs ht
    have := ih (i + 1) k (by omega) (by omega)
    rw [hs, ht] at this
    rw [e]
    exact this

theorem ref_l0 {vs ws : List Int} (hl : ws.length = vs.length) (hm : vs.length ≤ 1048576) : ∀ (d i k : Nat), i + d = vs.length → d < k →
    sizarref05_Mean.l0 k vs ws 0 0 (i : Int) = if ((prs vs ws).drop i).all okP then sizarref05_Mean.l1 (k - d - 1) vs ws 0 0 0 else some (0, 0, 1) := by
  intro d
  induction d with
  | zero =>
    intro i k hi hk
    obtain ⟨k, rfl⟩ : ∃ m, k = m + 1 := ⟨k - 1, by omega⟩
    simp only [sizarref05_Mean.l0]
    obtain rfl : i = vs.length := by omega
    rw [if_neg (by omega), if_neg (by omega)]
    have : (prs vs ws).drop vs.length = [] := by apply List.drop_eq_nil_of_le; unfold prs; rw [upP_length]; omega
    rw [this]
    simp
  | succ d ih =>
    intro i k hi hk
    obtain ⟨k, rfl⟩ : ∃ m, k = m + 1 := ⟨k - 1, by omega⟩
    simp only [sizarref05_Mean.l0]
    have e : wrap64 ((i : Int) + 1) = ((i + 1 : Nat) : Int) := wrap64_id (by omega) (by omega)
    have hd : (prs vs ws).drop i = (rd vs (i : Int), rd ws (i : Int)) :: (prs vs ws).drop (i + 1) := upP_drop (by omega)
    rw [if_pos (by omega), if_pos (by omega), if_pos (show (i : Int) < (ws.length : Int) by omega), e, ih (i + 1) k (by omega) (by omega), hd, List.all_cons, show k + 1 - (d + 1) - 1 = k - d - 1 by omega]
    generalize sizarref05_Mean.l1 (k - d - 1) vs ws 0 0 0 = R
    generalize ((prs vs ws).drop (i + 1)).all okP = b
    by_cases hx : -1048576 ≤ rd vs (i : Int) ∧ rd vs (i : Int) ≤ 1048576 ∧ 0 ≤ rd ws (i : Int) ∧ rd ws (i : Int) ≤ 1048576
    · rw [okP_yes (x := (rd vs (i : Int), rd ws (i : Int))) hx, if_neg (by omega), if_neg (by omega), if_neg (by omega), if_neg (by omega)]
      rfl
    · rw [okP_no (x := (rd vs (i : Int), rd ws (i : Int))) hx]
      repeat' split
      all_goals first | rfl | (exfalso; omega) | simp_all

theorem ref_Mean_eq {vs ws : List Int} (hm : vs.length ≤ 1048576) : sizarref05_Mean.f (2 * vs.length + 2) vs ws = some (meanN vs ws, meanD vs ws, meanE vs ws) := by
  unfold sizarref05_Mean.f meanN meanD meanE meanOk
  by_cases hl : ws.length = vs.length
  · rw [if_pos (by omega), decide_eq_true hl]
    have h0 := ref_l0 hl hm vs.length 0 (2 * vs.length + 2) (by omega) (by omega)
    rw [List.drop_zero] at h0
    have h1 := ref_l1 hl hm vs.length 0 (2 * vs.length + 2 - vs.length - 1) (by omega) (by omega)
    refine Eq.trans h0 ?_
    rw [Bool.true_and]
    rcases hall : (prs vs ws).all okP with _ | _
    · rfl
    · rw [if_pos rfl]
      refine Eq.trans h1 ?_
      simp only [if_true]
      have hall' : ∀ p ∈ prs vs ws, okP p = true := List.all_eq_true.1 hall
      have hlen : (prs vs ws).length ≤ 1048576 := by unfold prs; rw [upP_length]; exact hm
      obtain ⟨t1, t2, t3⟩ := totP_eq hall' hlen
      obtain ⟨s1, s2, s3⟩ := sumP_eq hall' hlen
      rw [t1, s1]
      by_cases hz : S2 (prs vs ws) = 0
      · have := S1_zero (fun p hp => (okP_iff.1 (hall' p hp)).2.2.1) hz
        rw [if_pos hz, this, hz]
        rfl
      · rw [if_neg hz]
        have : maxI (S2 (prs vs ws)) 1 = S2 (prs vs ws) := by unfold maxI; rw [if_neg (by omega)]
        rw [this]
  · rw [if_neg (by omega), decide_eq_false hl]
    rfl

def sizarref05_AddC.f (a0_0 a0_1 a1_0 a1_1 : Int) : Option (Int × Int × Int) := ratio_Add.f a0_0 a0_1 a1_0 a1_1
theorem sizarref05_AddC.calls (a0_0 a0_1 a1_0 a1_1 r1 r2 r3 : Int) (w : World) (h : sizarref05_AddC.f a0_0 a0_1 a1_0 a1_1 = some (r1, r2, r3)) :
    Calls Try.prog 24 #[.agg #[.int .i64 a0_0, .int .i64 a0_1], .agg #[.int .i64 a1_0, .int .i64 a1_1]] w fun e w' => e = .returned (.tuple #[.agg #[.int .i64 r1, .int .i64 r2], .int .i64 r3]) ∧ Below w.heap.size w w' := by
  unfold sizarref05_AddC.f ratio_Add.f at h
  split at h
  · rename_i hr
    exact sizarref05_Add.calls _ _ _ _ r1 r2 r3 w ((ref_Add_eq hr.1 hr.2.1 hr.2.2.1 hr.2.2.2).trans h)
  · cases h
def sizarref05_MulC.f (a0_0 a0_1 a1_0 a1_1 : Int) : Option (Int × Int × Int) := ratio_Mul.f a0_0 a0_1 a1_0 a1_1
theorem sizarref05_MulC.calls (a0_0 a0_1 a1_0 a1_1 r1 r2 r3 : Int) (w : World) (h : sizarref05_MulC.f a0_0 a0_1 a1_0 a1_1 = some (r1, r2, r3)) :
    Calls Try.prog 26 #[.agg #[.int .i64 a0_0, .int .i64 a0_1], .agg #[.int .i64 a1_0, .int .i64 a1_1]] w fun e w' => e = .returned (.tuple #[.agg #[.int .i64 r1, .int .i64 r2], .int .i64 r3]) ∧ Below w.heap.size w w' := by
  unfold sizarref05_MulC.f ratio_Mul.f at h
  split at h
  · rename_i hr
    exact sizarref05_Mul.calls _ _ _ _ r1 r2 r3 w ((ref_Mul_eq hr.1 hr.2.1 hr.2.2.1 hr.2.2.2).trans h)
  · cases h
def sizarref05_CompareC.f (a0_0 a0_1 a1_0 a1_1 : Int) : Option (Int × Int) := ratio_Compare.f a0_0 a0_1 a1_0 a1_1
theorem sizarref05_CompareC.calls (a0_0 a0_1 a1_0 a1_1 r1 r2 : Int) (w : World) (h : sizarref05_CompareC.f a0_0 a0_1 a1_0 a1_1 = some (r1, r2)) :
    Calls Try.prog 28 #[.agg #[.int .i64 a0_0, .int .i64 a0_1], .agg #[.int .i64 a1_0, .int .i64 a1_1]] w fun e w' => e = .returned (.tuple #[.int .i64 r1, .int .i64 r2]) ∧ Below w.heap.size w w' := by
  unfold sizarref05_CompareC.f ratio_Compare.f at h
  split at h
  · rename_i hr
    exact sizarref05_Compare.calls _ _ _ _ r1 r2 w ((ref_Compare_eq hr.1 hr.2.1 hr.2.2.1 hr.2.2.2).trans h)
  · cases h
def sizarref05_MeanC.f (l0 l1 : List Int) : Option (Int × Int × Int) := ratio_Mean.f l0 l1
theorem sizarref05_MeanC.calls (A0 : Option Addr) (c0 : Nat) (l0 : List Int) (A1 : Option Addr) (c1 : Nat) (l1 : List Int) (r1 : Int) (r2 : Int) (r3 : Int) (w : World) (hr0 : Kd.C (Kd.int .i64) w A0 l0.length l0) (hc0 : l0.length ≤ c0) (hr1 : Kd.C (Kd.int .i64) w A1 l1.length l1) (hc1 : l1.length ≤ c1) (h : sizarref05_MeanC.f l0 l1 = some (r1, r2, r3)) :
    Calls Try.prog 30 #[.slice A0 l0.length c0, .slice A1 l1.length c1] w fun e w' => e = .returned (.tuple #[.agg #[.int .i64 r1, .int .i64 r2], .int .i64 r3]) ∧ Below w.heap.size w w' := by
  unfold sizarref05_MeanC.f ratio_Mean.f at h
  split at h
  · rename_i hs
    exact sizarref05_Mean.calls _ A0 c0 l0 A1 c1 l1 r1 r2 r3 w hr0 hc0 hr1 hc1 ((ref_Mean_eq hs).trans h)
  · cases h
end Go.Proofs.Ytgoicalffgehoaa.P
