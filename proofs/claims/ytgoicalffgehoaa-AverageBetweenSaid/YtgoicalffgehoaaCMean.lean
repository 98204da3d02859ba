/- Means as rational numbers: between the bounds of the values with a weight, unchanged by a factor, means of parts. Conditions: bounded lists. -/
import Derived.Test.YtgoicalffgehoaaCSum
import Derived.Test.YtgoicalffgehoaaCUse
import Derived.Test.YtgoicalffgehoaaCOrd
namespace Go.Proofs.Ytgoicalffgehoaa.P
open Go.RowKit Go.Proofs.YtgoicalffgehoaaW.PrintWords Go.Proofs.Ytgoicalffgehoaa

theorem prs_zip {vs ws : List Int} (h : ws.length = vs.length) : prs vs ws = vs.zip ws := by
  unfold prs
  apply List.ext_getElem
  · rw [upP_length, List.length_zip]; omega
  · intro i h1 h2
    rw [upP_length] at h1
    simp only [upP, List.getElem_map, List.getElem_range, List.getElem_zip, rd, Int.toNat_natCast]
    rw [List.getD_eq_getElem?_getD, List.getD_eq_getElem?_getD, List.getElem?_eq_getElem h1, List.getElem?_eq_getElem (by omega)]
    rfl

/-- The mean of pairs, as a rational number. -/
def mQ (L : List (Int × Int)) : Rat := Rat.divInt (S1 L) (maxI (S2 L) 1)

theorem maxI_pos (a : Int) : 1 ≤ maxI a 1 := by unfold maxI; split <;> omega

theorem mean_val {vs ws : List Int} (hl : ws.length = vs.length) (hn : vs.length ≤ 1048576) (hok : ∀ p ∈ vs.zip ws, okP p = true) :
    ratio_Mean.f vs ws = some (rN (mQ (vs.zip ws)), rD (mQ (vs.zip ws)), rE (mQ (vs.zip ws))) := by
  have hm : meanOk vs ws = true := by unfold meanOk; rw [prs_zip hl, decide_eq_true hl]; exact List.all_eq_true.2 hok
  have hlen : (vs.zip ws).length ≤ 1048576 := by rw [List.length_zip]; omega
  obtain ⟨t1, t2, t3⟩ := totP_eq hok hlen
  obtain ⟨s1, s2, s3⟩ := sumP_eq hok hlen
  have hd : maxI (S2 (vs.zip ws)) 1 ≠ 0 := by have := maxI_pos (S2 (vs.zip ws)); omega
  unfold ratio_Mean.f meanN meanD meanE
  rw [if_pos hn, hm, prs_zip hl, t1, s1]
  simp only [if_true]
  rw [newN_Q hd, newD_Q hd, newE_Q hd]
  rfl

theorem lo_le : ∀ {L : List (Int × Int)} {lo : Int}, (∀ p ∈ L, 0 ≤ p.2) → (∀ p ∈ L, 0 < p.2 → lo ≤ p.1) → lo * S2 L ≤ S1 L
  | [], lo, _, _ => by simp [S1, S2]
  | p :: L, lo, h0, h1 => by
    have ih := lo_le (L := L) (lo := lo) (fun q hq => h0 q (List.mem_cons_of_mem _ hq)) (fun q hq => h1 q (List.mem_cons_of_mem _ hq))
    have a := h0 p (by simp)
    have b := h1 p (by simp)
    rw [S1_cons, S2_cons, Int.mul_add]
    have c : lo * p.2 ≤ p.1 * p.2 := by
      by_cases hz : p.2 = 0
      · rw [hz]; omega
      · exact Int.mul_le_mul_of_nonneg_right (b (by omega)) a
    omega
theorem le_hi : ∀ {L : List (Int × Int)} {hi : Int}, (∀ p ∈ L, 0 ≤ p.2) → (∀ p ∈ L, 0 < p.2 → p.1 ≤ hi) → S1 L ≤ hi * S2 L
  | [], hi, _, _ => by simp [S1, S2]
  | p :: L, hi, h0, h1 => by
    have ih := le_hi (L := L) (hi := hi) (fun q hq => h0 q (List.mem_cons_of_mem _ hq)) (fun q hq => h1 q (List.mem_cons_of_mem _ hq))
    have a := h0 p (by simp)
    have b := h1 p (by simp)
    rw [S1_cons, S2_cons, Int.mul_add]
    have c : p.1 * p.2 ≤ hi * p.2 := by
      by_cases hz : p.2 = 0
      · rw [hz]; omega
      · exact Int.mul_le_mul_of_nonneg_right (b (by omega)) a
    omega

/-- Bounds for lists of values within v and weights within u. -/
theorem S_small {u v : Int} : ∀ {L : List (Int × Int)}, (∀ p ∈ L, -v ≤ p.1 ∧ p.1 ≤ v ∧ 0 ≤ p.2 ∧ p.2 ≤ u) → 0 ≤ S2 L ∧ S2 L ≤ L.length * u ∧ -(v * S2 L) ≤ S1 L ∧ S1 L ≤ v * S2 L
  | [], _ => by simp [S1, S2]
  | p :: L, h => by
    obtain ⟨i1, i2, i3, i4⟩ := S_small (fun q hq => h q (List.mem_cons_of_mem _ hq))
    obtain ⟨a1, a2, a3, a4⟩ := h p (by simp)
    rw [S1_cons, S2_cons, Int.mul_add, List.length_cons]
    have c1 : p.1 * p.2 ≤ v * p.2 := Int.mul_le_mul_of_nonneg_right a2 a3
    have c2 : -v * p.2 ≤ p.1 * p.2 := Int.mul_le_mul_of_nonneg_right a1 a3
    rw [Int.neg_mul] at c2
    have c3 : ((L.length + 1 : Nat) : Int) * u = L.length * u + u := by rw [Int.natCast_succ, Int.add_mul, Int.one_mul]
    rw [c3]
    omega

theorem den_one {n : Int} (h : -1073741824 ≤ n ∧ n ≤ 1073741824) : ∃ q : Rat, fitsQ q ∧ n = q.num ∧ (1 : Int) = q.den ∧ q = Rat.divInt n 1 := by
  have hv : validB n 1 = true := by
    unfold validB gcdA
    simp
    omega
  obtain ⟨q, hq, h1, h2⟩ := fits_of_valid hv
  refine ⟨q, hq, h1, h2, ?_⟩
  have := divInt_num_den q
  rw [← h1, ← h2] at this
  exact this.symm

theorem mQ_zero {L : List (Int × Int)} (h : ∀ p ∈ L, 0 ≤ p.2) (h0 : S2 L = 0) : mQ L = Rat.divInt 0 1 := by
  unfold mQ
  rw [S1_zero h h0, h0]
  rfl
theorem mQ_pos {L : List (Int × Int)} (h0 : 1 ≤ S2 L) : mQ L = Rat.divInt (S1 L) (S2 L) := by
  unfold mQ maxI
  rw [if_neg (by omega)]

theorem mQ_mul {L : List (Int × Int)} (h : ∀ p ∈ L, 0 ≤ p.2) : mQ L * Rat.divInt (S2 L) 1 = Rat.divInt (S1 L) 1 := by
  by_cases h0 : S2 L = 0
  · rw [mQ_zero h h0, h0, S1_zero h h0, Rat.divInt_mul_divInt]
    rfl
  · have := S2_nonneg h
    rw [mQ_pos (by omega), Rat.divInt_mul_divInt]
    exact (Rat.divInt_eq_divInt_iff (by omega) (by omega)).2 (by rw [Int.mul_one, Int.mul_one])

theorem le_divInt {a n d : Int} (hd : 0 < d) (h : a * d ≤ n) : Rat.divInt a 1 ≤ Rat.divInt n d := by
  have e1 : Rat.divInt n d - Rat.divInt a 1 = Rat.divInt (n - a * d) d := by
    rw [Rat.sub_eq_add_neg, Rat.neg_divInt, Rat.divInt_add_divInt _ _ (by omega) (by omega)]
    congr 1 <;> simp [Int.sub_eq_add_neg, Int.neg_mul]
  have e2 : 0 ≤ Rat.divInt (n - a * d) d := Rat.divInt_nonneg (by omega) (by omega)
  rw [← e1] at e2
  grind
theorem divInt_le {a n d : Int} (hd : 0 < d) (h : n ≤ a * d) : Rat.divInt n d ≤ Rat.divInt a 1 := by
  have e1 : Rat.divInt a 1 - Rat.divInt n d = Rat.divInt (a * d - n) d := by
    rw [Rat.sub_eq_add_neg, Rat.neg_divInt, Rat.divInt_add_divInt _ _ (by omega) (by omega)]
    congr 1 <;> simp [Int.sub_eq_add_neg]
  have e2 : 0 ≤ Rat.divInt (a * d - n) d := Rat.divInt_nonneg (by omega) (by omega)
  rw [← e1] at e2
  grind
end Go.Proofs.Ytgoicalffgehoaa.P
