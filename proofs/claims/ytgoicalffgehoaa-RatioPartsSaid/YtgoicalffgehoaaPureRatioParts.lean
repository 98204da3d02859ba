/- The plain law of RatioParts: the printed function answers true. Condition: the numbers are of their kinds. -/
import Derived.Test.YtgoicalffgehoaaP22
import Derived.Test.YtgoicalffgehoaaCPart
import Derived.OpenShut
namespace Go.Proofs.Ytgoicalffgehoaa.Pure
open Go.RowKit Go.Proofs.Ytgoicalffgehoaa Go.Proofs.Ytgoicalffgehoaa.P Go.Proofs.YtgoicalffgehoaaW.PrintWords Go.Proofs.YtgoicalffgehoaaW.PrintLast

/-- A part: its mean times its weight is the sum of its products. -/
theorem part_mul {vs ws : List Int} (hl : ws.length = vs.length) (hn : vs.length ≤ 200) (h : ∀ p ∈ vs.zip ws, smallP p) :
    ratio_Mean.f vs ws = some ((mQ (vs.zip ws)).num, ((mQ (vs.zip ws)).den : Int), 0) ∧ ∃ q : Rat, fitsQ q ∧ q = Rat.divInt (S1 (vs.zip ws)) 1 ∧ ratio_Mul.f (mQ (vs.zip ws)).num (mQ (vs.zip ws)).den (S2 (vs.zip ws)) 1 = some (q.num, (q.den : Int), 0) := by
  have hlen : (vs.zip ws).length ≤ 200 := by rw [List.length_zip]; omega
  have hf := small_fits h hlen
  obtain ⟨i1, i2, i3, i4⟩ := small_S h hlen
  refine ⟨by rw [mean_val hl (by omega) (fun p hp => small_ok (h p hp)), rN_fits hf, rD_fits hf, rE_fits hf], ?_⟩
  obtain ⟨u, hu, u1, u2, u3⟩ := den_one (n := S2 (vs.zip ws)) (by omega)
  obtain ⟨q, hq, q1, q2, q3⟩ := den_one (n := S1 (vs.zip ws)) (by omega)
  refine ⟨q, hq, q3, ?_⟩
  have e : mQ (vs.zip ws) * u = q := by rw [u3, q3]; exact mQ_mul (small_nn h)
  rw [u1]
  conv => lhs; rw [u2]
  rw [mul_q hf hu, e, rN_fits hq, rD_fits hq, rE_fits hq]

theorem tail_eq {vs ws : List Int} (hl : ws.length = vs.length) (hn : vs.length ≤ 200) (h : ∀ p ∈ vs.zip ws, smallP p) (x7 : Int) (k : Nat) (hx : x7 = (k : Int)) (hk : k ≤ vs.length) (one two : Int) (h1 : one = S2 ((vs.zip ws).take k)) (h2 : two = S2 ((vs.zip ws).drop k)) :
    ((ratio_Mean.f vs ws).bind fun bt585 => (if 0 ≤ x7 then (if x7 ≤ (vs.length : Int) then (if x7 ≤ (ws.length : Int) then ((ratio_Mean.f (vs.take (x7 : Int).toNat) (ws.take (x7 : Int).toNat)).bind fun bt597 => ((ratio_Mean.f (vs.drop (x7 : Int).toNat) (ws.drop (x7 : Int).toNat)).bind fun bt609 => ((ratio_Mul.f bt597.1 bt597.2.1 one 1).bind fun bt613 => ((ratio_Mul.f bt609.1 bt609.2.1 two 1).bind fun bt617 => ((ratio_Add.f bt613.1 bt613.2.1 bt617.1 bt617.2.1).bind fun bt621 => ((ratio_Mul.f bt585.1 bt585.2.1 (wrap64 (one + two)) 1).bind fun bt625 => (if bt585.2.2 = 0 then (if bt597.2.2 = 0 then (if bt609.2.2 = 0 then (if bt613.2.2 = 0 then (if bt617.2.2 = 0 then (if bt621.2.2 = 0 then (if bt625.2.2 = 0 then (some (bt621.1 == bt625.1 && (bt621.2.1 == bt625.2.1))) else (some false)) else (some false)) else (some false)) else (some false)) else (some false)) else (some false)) else (some false)))))))) else (none)) else (none)) else (none))) = some true := by
  subst hx h1 h2
  have ht : (vs.take k).zip (ws.take k) = (vs.zip ws).take k := by simp [List.zip_eq_zipWith, List.take_zipWith]
  have hd : (vs.drop k).zip (ws.drop k) = (vs.zip ws).drop k := by simp [List.zip_eq_zipWith, List.drop_zipWith]
  obtain ⟨m0, q0, f0, e0, c0⟩ := part_mul hl hn h
  have hta : ∀ p ∈ (vs.take k).zip (ws.take k), smallP p := fun p hp => h p (List.mem_of_mem_take (by rw [ht] at hp; exact hp))
  have hda : ∀ p ∈ (vs.drop k).zip (ws.drop k), smallP p := fun p hp => h p (List.mem_of_mem_drop (by rw [hd] at hp; exact hp))
  obtain ⟨m1, q1, f1, e1, c1⟩ := part_mul (vs := vs.take k) (ws := ws.take k) (by simp [hl]) (by rw [List.length_take]; omega) hta
  obtain ⟨m2, q2, f2, e2, c2⟩ := part_mul (vs := vs.drop k) (ws := ws.drop k) (by simp [hl]) (by rw [List.length_drop]; omega) hda
  rw [ht] at m1 e1 c1
  rw [hd] at m2 e2 c2
  have hs1 : S1 (vs.zip ws) = S1 ((vs.zip ws).take k) + S1 ((vs.zip ws).drop k) := by rw [← S1_append, List.take_append_drop]
  have hs2 : S2 (vs.zip ws) = S2 ((vs.zip ws).take k) + S2 ((vs.zip ws).drop k) := by rw [← S2_append, List.take_append_drop]
  have hlen : (vs.zip ws).length ≤ 200 := by rw [List.length_zip]; omega
  obtain ⟨i1, i2, i3, i4⟩ := small_S h hlen
  have hw : wrap64 (S2 ((vs.zip ws).take k) + S2 ((vs.zip ws).drop k)) = S2 (vs.zip ws) := by rw [← hs2]; exact wrap64_id (by omega) (by omega)
  have hq : q1 + q2 = q0 := by rw [e0, e1, e2, Rat.divInt_add_divInt _ _ (by omega) (by omega), hs1]; simp
  simp only [Int.toNat_natCast]
  rw [m0]
  simp only [Option.bind_some]
  rw [if_pos (by omega), if_pos (by omega), if_pos (by omega), m1, m2]
  simp only [Option.bind_some]
  rw [c1, c2]
  simp only [Option.bind_some]
  rw [add_q f1 f2, hq, hw, c0, rN_fits f0, rD_fits f0, rE_fits f0]
  simp

theorem parts_loop {l0 l1 : List Int} (hn : l0.length ≤ 40) (hl : l0.length ≤ l1.length) (hv : ∀ p ∈ l0.zip l1, smallP p) (kk : Nat) (hk : kk ≤ l0.length) :
    ∀ (d i k : Nat), i + d = l0.length → d < k → sizarlaw05_RatioParts.l0 k l1 (kk : Int) (l0.take i) (l1.take i) (S2 (((l0.zip l1).take i).take kk)) (S2 (((l0.zip l1).take i).drop kk)) l0 (l0.length : Int) (i : Int) = some true := by
  intro d
  induction d with
  | zero =>
    intro i k hi hd
    obtain ⟨k, rfl⟩ : ∃ m, k = m + 1 := ⟨k - 1, by omega⟩
    obtain rfl : i = l0.length := by omega
    simp only [sizarlaw05_RatioParts.l0]
    rw [if_neg (by omega)]
    have hz : l0.zip (l1.take l0.length) = l0.zip l1 := by
      conv => rhs; rw [← List.take_length (l := l0.zip l1)]
      rw [List.length_zip, show min l0.length l1.length = l0.length by omega]
      simp [List.zip_eq_zipWith, List.take_zipWith]
    have ht : (l0.zip l1).take l0.length = l0.zip l1 := by apply List.take_of_length_le; rw [List.length_zip]; omega
    rw [ht, List.take_length]
    refine tail_eq (vs := l0) (ws := l1.take l0.length) (by rw [List.length_take]; omega) (by omega) (by rw [hz]; exact hv) (kk : Int) kk rfl hk _ _ (by rw [hz]) (by rw [hz])
  | succ d ih =>
    intro i k hi hd
    obtain ⟨k, rfl⟩ : ∃ m, k = m + 1 := ⟨k - 1, by omega⟩
    simp only [sizarlaw05_RatioParts.l0, Option.bind_some]
    have hmem : (rd l0 (i : Int), rd l1 (i : Int)) ∈ l0.zip l1 := by
      have := zip_take_succ (l0 := l0) (l1 := l1) (i := i) (by omega) (by omega)
      exact List.mem_of_mem_take (i := i + 1) (by rw [this]; simp)
    obtain ⟨b1, b2, b3, b4⟩ := hv _ hmem
    dsimp only at b1 b2 b3 b4
    have g0 : i < l0.length := by omega
    have g1 : i < l1.length := by omega
    have g2 : (l0.take i).length + [wrap64 (rd l0 (i : Int))].length < 17592186044416 := by rw [List.length_take, List.length_singleton]; omega
    have g3 : (l1.take i).length + [wrap64 (rd l1 (i : Int))].length < 17592186044416 := by rw [List.length_take, List.length_singleton]; omega
    rw [if_pos (show (i : Int) < (l0.length : Int) by omega), if_pos (show (0 : Int) ≤ (i : Int) by omega), if_pos (show (i : Int) < (l0.length : Int) by omega), if_pos g2, if_pos (show (i : Int) < (l1.length : Int) by omega), if_pos g3]
    have hlen : ((l0.zip l1).take i).length = i := by rw [List.length_take, List.length_zip]; omega
    have sm : ∀ (L : List (Int × Int)), (∀ p ∈ L, p ∈ l0.zip l1) → L.length ≤ 40 → 0 ≤ S2 L ∧ S2 L ≤ 51000 := fun L hL hLl => by
      obtain ⟨i1, i2, _, _⟩ := small_S (L := L) (fun p hp => hv p (hL p hp)) (by omega)
      exact ⟨i1, i2⟩
    have hA := sm (((l0.zip l1).take i).take kk) (fun p hp => List.mem_of_mem_take (List.mem_of_mem_take hp)) (by rw [List.length_take]; omega)
    have hB := sm (((l0.zip l1).take i).drop kk) (fun p hp => List.mem_of_mem_take (List.mem_of_mem_drop hp)) (by rw [List.length_drop]; omega)
    have := ih (i + 1) k (by omega) (by omega)
    rw [zip_take_succ (by omega) (by omega)] at this
    have u1 : wrap64 (S2 (((l0.zip l1).take i).take kk) + rd l1 (i : Int)) = S2 (((l0.zip l1).take i).take kk) + rd l1 (i : Int) := wrap64_id (by omega) (by omega)
    have u2 : wrap64 (S2 (((l0.zip l1).take i).drop kk) + rd l1 (i : Int)) = S2 (((l0.zip l1).take i).drop kk) + rd l1 (i : Int) := wrap64_id (by omega) (by omega)
    have w1 : wrap64 (rd l0 (i : Int)) = rd l0 (i : Int) := wrap64_id (by omega) (by omega)
    have w2 : wrap64 (rd l1 (i : Int)) = rd l1 (i : Int) := wrap64_id (by omega) (by omega)
    have w3 : wrap64 ((i : Int) + 1) = ((i + 1 : Nat) : Int) := wrap64_id (by omega) (by omega)
    rw [w1, w2, w3, rd_take g0, rd_take g1, u1, u2]
    clear w1 w2 w3 u1 u2
    by_cases hik : (i : Int) < (kk : Int)
    · rw [if_pos hik]
      have e1 : ((l0.zip l1).take i ++ [(rd l0 (i : Int), rd l1 (i : Int))]).take kk = ((l0.zip l1).take i).take kk ++ [(rd l0 (i : Int), rd l1 (i : Int))] := by
        rw [List.take_of_length_le (l := (l0.zip l1).take i ++ [(rd l0 (i : Int), rd l1 (i : Int))]) (i := kk) (by rw [List.length_append, hlen, List.length_singleton]; omega), List.take_of_length_le (l := (l0.zip l1).take i) (i := kk) (by omega)]
      have e2 : ((l0.zip l1).take i ++ [(rd l0 (i : Int), rd l1 (i : Int))]).drop kk = ((l0.zip l1).take i).drop kk := by
        rw [List.drop_eq_nil_of_le («as» := (l0.zip l1).take i ++ [(rd l0 (i : Int), rd l1 (i : Int))]) (i := kk) (by rw [List.length_append, hlen, List.length_singleton]; omega), List.drop_eq_nil_of_le («as» := (l0.zip l1).take i) (i := kk) (by omega)]
      rw [e1, e2, S2_snoc] at this
      exact this
    · rw [if_neg hik]
      have e1 : ((l0.zip l1).take i ++ [(rd l0 (i : Int), rd l1 (i : Int))]).take kk = ((l0.zip l1).take i).take kk := by
        rw [List.take_append_of_le_length (by omega)]
      have e2 : ((l0.zip l1).take i ++ [(rd l0 (i : Int), rd l1 (i : Int))]).drop kk = ((l0.zip l1).take i).drop kk ++ [(rd l0 (i : Int), rd l1 (i : Int))] := by
        rw [List.drop_append_of_le_length (by omega)]
      rw [e1, e2, S2_snoc] at this
      exact this

theorem RatioParts : sizarlaw05_RatioParts.Pure := by
  intro l0 l1 a2 _ _ hv _ _ hw ha
  refine ⟨l0.length + 2, ?_⟩
  unfold sizarlaw05_RatioParts.f sizarlaw05_saneC.f
  simp only [Option.bind_some, if_true]
  by_cases h0 : (l0.length : Int) > 40
  · rw [if_pos h0]; rfl
  · rw [if_neg h0]
    by_cases h1 : (l1.length : Int) < (l0.length : Int)
    · rw [decide_eq_true h1]; rfl
    · rw [decide_eq_false h1]
      simp only [sizarlaw05_RatioParts.j0, if_neg Bool.false_ne_true]
      have b := bounds_u8 ha
      have w1 : wrap64 ((l0.length : Int) + 1) = ((l0.length + 1 : Nat) : Int) := wrap64_id (by omega) (by omega)
      have w2 : wrap64 a2 = a2 := wrap64_id (by omega) (by omega)
      rw [w1, w2, if_neg (by omega)]
      obtain ⟨a, rfl⟩ : ∃ a : Nat, a2 = (a : Int) := ⟨a2.toNat, by omega⟩
      have e : Int.tmod (a : Int) ((l0.length + 1 : Nat) : Int) = ((a % (l0.length + 1) : Nat) : Int) := rfl
      rw [e]
      have hlt : a % (l0.length + 1) < l0.length + 1 := Nat.mod_lt _ (by omega)
      have := parts_loop (l0 := l0) (l1 := l1) (by omega) (by omega) (fun p hp => by
        have h2 := bounds_i8 (hv _ (List.of_mem_zip hp).1)
        have h3 := bounds_u8 (hw _ (List.of_mem_zip hp).2)
        unfold smallP; omega) (a % (l0.length + 1)) (by omega) l0.length 0 (l0.length + 1) (by omega) (by omega)
      simpa only [List.take_zero, List.take_nil, List.drop_nil, S2, List.map_nil, List.sum_nil, Int.natCast_zero] using this
end Go.Proofs.Ytgoicalffgehoaa.Pure
