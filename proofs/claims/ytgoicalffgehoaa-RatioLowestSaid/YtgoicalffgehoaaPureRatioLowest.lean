/- The plain law of RatioLowest: the printed function answers true. Condition: the numbers are of their kinds. -/
import Derived.Test.YtgoicalffgehoaaP20
import Derived.Test.YtgoicalffgehoaaCUse
import Derived.OpenShut
namespace Go.Proofs.Ytgoicalffgehoaa.Pure
open Go.RowKit Go.Proofs.Ytgoicalffgehoaa Go.Proofs.Ytgoicalffgehoaa.P Go.Proofs.YtgoicalffgehoaaW.PrintWords Go.Proofs.YtgoicalffgehoaaW.PrintLast

theorem mulw {a b : Int} (ha : a.natAbs ≤ 4294967296) (hb : b.natAbs ≤ 1073741824) : wrap64 (a * b) = a * b := by
  have c : (a * b).natAbs ≤ 4294967296 * 1073741824 := by rw [Int.natAbs_mul]; exact Nat.mul_le_mul ha hb
  generalize a * b = y at *
  exact wrap64_id (by omega) (by omega)

theorem lowest_zero (a0 a1 a2 : Int) (h0 : in64 a0) : sizarlaw05_RatioLowest.j0 2 a0 a1 a2 true = some true := by
  simp only [sizarlaw05_RatioLowest.j0, if_true]
  rw [wrap64_id h0.1 h0.2, new_f h0 (by decide)]
  simp [newE]

theorem div_scale {n d k : Int} (hd : d ≠ 0) (hk : k ≠ 0) : Rat.divInt (n * k) (d * k) = Rat.divInt n d :=
  (Rat.divInt_eq_divInt_iff (Int.mul_ne_zero hd hk) hd).2 (by rw [Int.mul_assoc, Int.mul_comm k d])
theorem div_neg {n d : Int} (hd : d ≠ 0) : Rat.divInt (-n) (-d) = Rat.divInt n d :=
  (Rat.divInt_eq_divInt_iff (by omega) hd).2 (by rw [Int.neg_mul, Int.mul_neg])

theorem lowest_more (n d k : Int) (hn : -2147483648 ≤ n ∧ n ≤ 2147483647) (hd : -2147483648 ≤ d ∧ d ≤ 2147483647) (hk : -32768 ≤ k ∧ k ≤ 32767) (hd0 : d ≠ 0) (hk0 : k ≠ 0) : sizarlaw05_RatioLowest.j0 2 n d k false = some true := by
  simp only [sizarlaw05_RatioLowest.j0, if_neg Bool.false_ne_true]
  have i0 : in64 n := by unfold in64; omega
  have i1 : in64 d := by unfold in64; omega
  have w0 : wrap64 n = n := wrap64_id (by omega) (by omega)
  have w1 : wrap64 d = d := wrap64_id (by omega) (by omega)
  have w2 : wrap64 k = k := wrap64_id (by omega) (by omega)
  have w3 : wrap64 (-n) = -n := wrap64_id (by omega) (by omega)
  have w4 : wrap64 (-d) = -d := wrap64_id (by omega) (by omega)
  have w5 : wrap64 (n * k) = n * k := mulw (by omega) (by omega)
  have w6 : wrap64 (d * k) = d * k := mulw (by omega) (by omega)
  have i3 : in64 (n * k) := by rw [← w5]; exact wrap64_in64 _
  have i4 : in64 (d * k) := by rw [← w6]; exact wrap64_in64 _
  have i5 : in64 (-n) := by unfold in64; omega
  have i6 : in64 (-d) := by unfold in64; omega
  rw [w0, w1, w2, w3, w4, w5, w6, new_f i0 i1, new_f i3 i4, new_f i5 i6]
  simp only [Option.bind_some]
  have hdk : d * k ≠ 0 := Int.mul_ne_zero hd0 hk0
  have hnd : -d ≠ 0 := by omega
  rw [newN_Q hd0, newD_Q hd0, newE_Q hd0, newN_Q hdk, newD_Q hdk, newE_Q hdk, newN_Q hnd, newD_Q hnd, newE_Q hnd, div_scale hd0 hk0, div_neg hd0]
  have hq : (Rat.divInt n d).num * d = n * ((Rat.divInt n d).den : Int) := (Rat.divInt_eq_divInt_iff (den_ne _) hd0).1 (divInt_num_den _)
  generalize Rat.divInt n d = q at *
  simp only [beq_self_eq_true, Bool.not_true, Bool.or_self, if_neg Bool.false_ne_true, if_true, bne_self_eq_false]
  simp only [sizarlaw05_RatioLowest.j1, if_neg Bool.false_ne_true]
  by_cases hf : fitsQ q
  · rw [rE_fits hf, rN_fits hf, rD_fits hf, if_pos rfl]
    obtain ⟨f0, f1⟩ := fits_in hf
    rw [new_f f0 f1, check_f f0 f1, chk_fits hf, newN_Q (den_ne q), newD_Q (den_ne q), newE_Q (den_ne q), divInt_num_den, rE_fits hf, rN_fits hf, rD_fits hf]
    have u1 : wrap64 (q.num * d) = q.num * d := by rw [Int.mul_comm]; exact mulw (by omega) hf.1
    have u2 : wrap64 (n * (q.den : Int)) = n * (q.den : Int) := mulw (by omega) (by have := hf.2; omega)
    rw [u1, u2]
    simp [hq]
  · rw [rE_not hf, rN_not hf, rD_not hf]
    simp

theorem RatioLowest : sizarlaw05_RatioLowest.Pure := by
  intro a0 a1 a2 h0 h1 h2
  have b0 := bounds_i32 h0
  have b1 := bounds_i32 h1
  have b2 := bounds_i16 h2
  refine ⟨2, ?_⟩
  unfold sizarlaw05_RatioLowest.f sizarlaw05_saneC.f
  simp only [Option.bind_some, if_true]
  have i0 : in64 a0 := by unfold in64; omega
  by_cases hd : a1 = 0
  · rw [if_pos hd]; exact lowest_zero a0 a1 a2 i0
  · rw [if_neg hd]
    by_cases hk : a2 = 0
    · rw [show (a2 == 0) = true by simp [hk]]; exact lowest_zero a0 a1 a2 i0
    · rw [show (a2 == 0) = false by simp [hk]]; exact lowest_more a0 a1 a2 b0 b1 b2 hd hk
end Go.Proofs.Ytgoicalffgehoaa.Pure
