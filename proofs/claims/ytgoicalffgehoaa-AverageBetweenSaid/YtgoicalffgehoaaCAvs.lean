/- Sums of attempts as whole numbers. Conditions: valid attempts, at most 1000. -/
import Derived.Test.YtgoicalffgehoaaESum
import Derived.Test.YtgoicalffgehoaaCMean
namespace Go.Proofs.Ytgoicalffgehoaa.P
open Go.RowKit Go.Proofs.YtgoicalffgehoaaW Go.Proofs.YtgoicalffgehoaaW.PrintWords Go.Proofs.Ytgoicalffgehoaa

theorem and_1023 (a : Int) : ∃ m : Nat, m ≤ 1023 ∧ Go.bits .and .i64 a 1023 = (m : Int) := by
  have h : (BitVec.ofInt IntKind.i64.bits a &&& BitVec.ofInt IntKind.i64.bits 1023).toNat ≤ 1023 := by
    rw [BitVec.toNat_and]
    exact Nat.le_trans Nat.and_le_right (by decide)
  refine ⟨_, h, ?_⟩
  unfold Go.bits
  simp only []
  generalize (BitVec.ofInt IntKind.i64.bits a &&& BitVec.ofInt IntKind.i64.bits 1023).toNat = n at *
  rw [PrintLast.i64_w]
  exact wrap64_id (by omega) (by omega)

def prA (l : List S39) : List (Int × Int) := l.map fun x => (x.f2, x.f4)
theorem upA_map (l : List S39) : upA l l.length = prA l := by
  unfold upA prA
  apply List.ext_getElem
  · simp
  · intro i h1 h2
    simp only [List.length_map, List.length_range] at h1
    simp [rd_T39, h1]

theorem vA_iff {x : S39} : vA x = true ↔ (0 ≤ x.f0 ∧ x.f0 ≤ 4095) ∧ (0 ≤ x.f1 ∧ x.f1 ≤ 1023) ∧ (0 ≤ x.f2 ∧ x.f2 ≤ 12) ∧ (0 ≤ x.f3 ∧ x.f3 ≤ 6) ∧ (0 ≤ x.f4 ∧ x.f4 ≤ 60) := by
  unfold vA
  simp only [Bool.and_eq_true, decide_eq_true_eq]
theorem allV_iff {l : List S39} : allV l = true ↔ ∀ x ∈ l, vA x = true := by unfold allV; exact List.all_eq_true
theorem prA_ok {l : List S39} (h : allV l = true) : ∀ p ∈ prA l, 0 ≤ p.1 ∧ p.1 ≤ 12 ∧ 0 ≤ p.2 ∧ p.2 ≤ 60 := by
  intro p hp
  unfold prA at hp
  rw [List.mem_map] at hp
  obtain ⟨x, hx, rfl⟩ := hp
  have := vA_iff.1 (allV_iff.1 h x hx)
  dsimp only
  omega

theorem sums_plain {l : List S39} (h : allV l = true) (hl : l.length ≤ 1000) : sumsC l = S2 (prA l) ∧ sumsP l = S1 (prA l) ∧ 0 ≤ S2 (prA l) ∧ S2 (prA l) ≤ l.length * 60 ∧ 0 ≤ S1 (prA l) ∧ S1 (prA l) ≤ 12 * S2 (prA l) := by
  have hb := prA_ok h
  have hok : ∀ p ∈ prA l, okP p = true := fun p hp => okP_iff.2 (by have := hb p hp; omega)
  have hlen : (prA l).length = l.length := by unfold prA; rw [List.length_map]
  obtain ⟨t1, _, _⟩ := totP_eq hok (by omega)
  obtain ⟨s1, _, _⟩ := sumP_eq hok (by omega)
  obtain ⟨i1, i2, _, i4⟩ := S_small (u := 60) (v := 12) (fun p hp => by have := hb p hp; omega)
  rw [hlen] at i2
  have i5 := lo_le (lo := 0) (fun p hp => (hb p hp).2.2.1) (fun p hp _ => (hb p hp).1)
  unfold sumsC sumsP
  rw [h, upA_map, t1, s1]
  exact ⟨rfl, rfl, i1, i2, by omega, i4⟩

def E2 (L : List (Int × Int)) : Int := S2 (L.filter fun p => decide (0 < p.1))
theorem E2_append (L M : List (Int × Int)) : E2 (L ++ M) = E2 L + E2 M := by unfold E2; rw [List.filter_append, S2_append]

theorem earn_fold : ∀ (L : List (Int × Int)) (s : Int), (∀ p ∈ L, 0 ≤ p.2 ∧ p.2 ≤ 60) → 0 ≤ s → s + L.length * 60 ≤ 1000000 → L.foldl (fun s p => if 0 < p.1 then wrap64 (s + p.2) else s) s = s + E2 L ∧ 0 ≤ E2 L ∧ E2 L ≤ S2 L
  | [], s, _, _, _ => by simp [E2, S2]
  | p :: L, s, h, h0, h1 => by
    have hp := h p (by simp)
    have hq : ∀ q ∈ L, 0 ≤ q.2 ∧ q.2 ≤ 60 := fun q hq => h q (List.mem_cons_of_mem _ hq)
    rw [List.length_cons] at h1
    rw [List.foldl_cons, S2_cons]
    by_cases hx : 0 < p.1
    · rw [if_pos hx, wrap64_id (by omega) (by omega)]
      obtain ⟨i1, i2, i3⟩ := earn_fold L (s + p.2) hq (by omega) (by omega)
      have e : E2 (p :: L) = p.2 + E2 L := by unfold E2; rw [List.filter_cons, if_pos (decide_eq_true hx), S2_cons]
      rw [i1, e]
      omega
    · rw [if_neg hx]
      obtain ⟨i1, i2, i3⟩ := earn_fold L s hq (by omega) (by omega)
      have e : E2 (p :: L) = E2 L := by unfold E2; rw [List.filter_cons, if_neg (by rw [decide_eq_false hx]; exact Bool.false_ne_true)]
      rw [i1, e]
      omega

theorem earn_plain {l : List S39} (h : allV l = true) (hl : l.length ≤ 1000) : earnA l = E2 (prA l) ∧ 0 ≤ E2 (prA l) ∧ E2 (prA l) ≤ S2 (prA l) := by
  have hb := prA_ok h
  have hlen : (prA l).length = l.length := by unfold prA; rw [List.length_map]
  obtain ⟨i1, i2, i3⟩ := earn_fold (prA l) 0 (fun p hp => by have := hb p hp; omega) (by omega) (by omega)
  unfold earnA earnP
  rw [h, upA_map]
  refine ⟨?_, i2, i3⟩
  show List.foldl _ _ _ = _
  rw [i1]; omega

theorem prA_append (l m : List S39) : prA (l ++ m) = prA l ++ prA m := by unfold prA; rw [List.map_append]
theorem allV_append (l m : List S39) : allV (l ++ m) = (allV l && allV m) := by unfold allV; rw [List.all_append]
theorem sums_not {l : List S39} (h : allV l = false) : sumsC l = 0 ∧ sumsP l = 0 := by unfold sumsC sumsP; rw [h]; exact ⟨rfl, rfl⟩
end Go.Proofs.Ytgoicalffgehoaa.P
