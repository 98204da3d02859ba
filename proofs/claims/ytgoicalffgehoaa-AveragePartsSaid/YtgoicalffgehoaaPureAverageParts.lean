/- The plain law of AverageParts. No condition. -/
import Derived.Test.YtgoicalffgehoaaP28
import Derived.Test.YtgoicalffgehoaaCAvs
namespace Go.Proofs.Ytgoicalffgehoaa.P
open Go.RowKit Go.Proofs.YtgoicalffgehoaaW.PrintWords Go.Proofs.Ytgoicalffgehoaa

theorem chk_iff (l : List S39) : chkA l = if allV l then 0 else 150 := rfl

theorem parts_out (k : Nat) (l0 l1 : List S39) : sizarlaw15_AverageParts.j0 (k + 1) l0 l1 true = some true := by
  simp only [sizarlaw15_AverageParts.j0, if_true]

theorem parts_j0 {l0 l1 : List S39} (h0 : l0.length ≤ 40) (h1 : l1.length ≤ 40) : sizarlaw15_AverageParts.j0 4 l0 l1 false = some true := by
  simp only [sizarlaw15_AverageParts.j0, if_neg Bool.false_ne_true]
  unfold average_Sums.f
  simp only [Option.bind_some, List.nil_append]
  rw [if_pos (by simp; omega)]
  try simp only [Option.bind_some]
  rw [if_pos (by omega)]
  have hv := allV_append l1 l0
  have hlen : (l1 ++ l0).length = l1.length + l0.length := List.length_append
  rcases ha : allV l0 with _ | _
  · have hn : allV (l1 ++ l0) = false := by rw [hv, ha, Bool.and_false]
    obtain ⟨s1, s2⟩ := sums_not hn
    rw [chk_nv ha, if_neg (by omega), chk_nv hn, s1, s2]
    simp only [sizarlaw15_AverageParts.j1, if_true]
    rfl
  · rw [chk_v ha, if_pos rfl]
    rcases hb : allV l1 with _ | _
    · have hn : allV (l1 ++ l0) = false := by rw [hv, hb, Bool.false_and]
      obtain ⟨s1, s2⟩ := sums_not hn
      rw [chk_nv hb, chk_nv hn, s1, s2, show ((150 : Int) != 0) = true by decide]
      simp only [sizarlaw15_AverageParts.j1, if_true]
      rfl
    · have hn : allV (l1 ++ l0) = true := by rw [hv, ha, hb]; rfl
      obtain ⟨a1, a2, a3, a4, a5, a6⟩ := sums_plain ha (by omega)
      obtain ⟨b1, b2, b3, b4, b5, b6⟩ := sums_plain hb (by omega)
      obtain ⟨c1, c2, c3, c4, c5, c6⟩ := sums_plain hn (by omega)
      obtain ⟨d1, d2, d3⟩ := earn_plain ha (by omega)
      obtain ⟨e1, e2, e3⟩ := earn_plain hb (by omega)
      obtain ⟨f1, f2, f3⟩ := earn_plain hn (by omega)
      rw [prA_append] at c1 c2 f1 f2 f3
      rw [S2_append] at c1 f3
      rw [S1_append] at c2
      rw [E2_append] at f1 f2 f3
      rw [chk_v hb, chk_v hn, show ((0 : Int) != 0) = false by decide, a1, a2, b1, b2, c1, c2]
      have hE0 : average_Earned.f l0 = some (E2 (prA l0), 0) := by unfold average_Earned.f; rw [d1, chk_v ha]
      have hE1 : average_Earned.f l1 = some (E2 (prA l1), 0) := by unfold average_Earned.f; rw [e1, chk_v hb]
      have hE2 : average_Earned.f (l1 ++ l0) = some (E2 (prA l1) + E2 (prA l0), 0) := by unfold average_Earned.f; rw [f1, chk_v hn]
      have w1 : wrap64 (S2 (prA l0) + S2 (prA l1)) = S2 (prA l1) + S2 (prA l0) := by rw [wrap64_id (by omega) (by omega)]; omega
      have w2 : wrap64 (S1 (prA l0) + S1 (prA l1)) = S1 (prA l1) + S1 (prA l0) := by rw [wrap64_id (by omega) (by omega)]; omega
      have w3 : wrap64 (E2 (prA l0) + E2 (prA l1)) = E2 (prA l1) + E2 (prA l0) := by rw [wrap64_id (by omega) (by omega)]; omega
      simp only [sizarlaw15_AverageParts.j1, if_neg Bool.false_ne_true]
      rw [hE0, hE1]
      simp only [Option.bind_some, List.nil_append, List.length_nil]
      rw [if_pos (by clear w1 w2 w3; omega)]
      try simp only [Option.bind_some]
      rw [if_pos (by clear w1 w2 w3; omega), hE2]
      simp only [Option.bind_some, if_true]
      rw [w1, w2, w3, if_pos rfl, if_pos rfl, if_pos rfl, decide_eq_true f3]

theorem pure_AverageParts (l0 l1 : List S39) : ∃ k, sizarlaw15_AverageParts.f k l0 l1 = some true := by
  refine ⟨4, ?_⟩
  unfold sizarlaw15_AverageParts.f sizarlaw15_saneC.f sizarref15_Few.f
  simp only [Option.bind_some, if_true]
  by_cases h0 : (l0.length : Int) ≤ 40
  · rw [decide_eq_true h0, if_pos rfl]
    by_cases h1 : (l1.length : Int) ≤ 40
    · rw [decide_eq_true h1]
      exact parts_j0 (by omega) (by omega)
    · rw [decide_eq_false h1]
      exact parts_out _ _ _
  · rw [decide_eq_false h0, if_neg Bool.false_ne_true]
    exact parts_out _ _ _
end Go.Proofs.Ytgoicalffgehoaa.P
