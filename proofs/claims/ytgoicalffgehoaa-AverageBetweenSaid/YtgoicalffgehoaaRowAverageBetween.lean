/- The law sizarlaw15.AverageBetween holds for every input (a list of attempts, an attempt): it answers true and leaves its arguments as they were. No condition. -/
import Derived.Test.YtgoicalffgehoaaRows
import Derived.Test.YtgoicalffgehoaaPureAverageBetween
import Derived.Test.YtgoicalffgehoaaEOpen
import Derived.WalkKit
import Derived.ProofKit
import Derived.OpenShut
import Derived.ShutString
import Derived.ChangeOld
import Derived.Below
import Derived.SizedLaws
import Derived.Test.YtgoicalffgehoaaWSized
namespace Go.Proofs.Ytgoicalffgehoaa.averageBetween
open Go.ChangeShapes Go.WideShapes Go.ChangeAt Go.RowKit Go.Joins Go.Proofs.YtgoicalffgehoaaW.PrintWords Go.Proofs.Ytgoicalffgehoaa.P
theorem own : ownKnob Try.prog.godebug = none := by kernel_rfl
theorem laidOut : laidOutB Try.prog = true := by kernel_rfl
set_option maxRecDepth 100000 in
theorem lifted (os : Os) (started : os.Started) (H : Type) (enc : TypeId × Value → H) :
    ReturnsInHanded {} Try.checked os 6 .any (Rows.averageBetweenSpec.pre6 enc Try.prog Try.f6 Rows.averageBetweenRow.domain false) (Rows.averageBetweenSpec.post enc Try.prog Try.f6 false true false false) := by
  refine returnsInHanded_of_change_sized (C := Try.checked) own started (by kernel_rfl) Try.func6
    (ChangeSpec.witness6 (enc := enc) (C := Try.checked) false ⟨#[], #[.slice none 0 0, .agg #[.int .i64 0, .int .i64 0, .int .i64 0, .int .i64 0, .int .i64 0]], []⟩ 8 (by kernel_rfl) (by kernel_rfl) (by kernel_rfl) (by kernel_rfl)) ?_
  intro W base args ds gs before hval0 hW _ _ _
  have hval : ∀ (j : Nat) t v, Try.f6.params[j]? = some t → args[j]? = some v → Value.okWide Try.prog W .any base t v := hval0
  have hW' := hW
  obtain ⟨p, q, hA0, hV, rfl, _, _⟩ := hW
  have hA : DataW.TrodAll enc Try.prog W 0 (fun _ => true) true Try.f6.params.toList args.toList ds p := hA0
  rw [Try.params6] at hA hval
  obtain ⟨v0, vs0, d0, ds0, p0, q0, hargs, rfl, rfl, h0, r0⟩ := trodAll_cons hA
  obtain ⟨v1, vs1, d1, ds1, p1, q1, rfl, rfl, rfl, h1, r1⟩ := trodAll_cons r0
  obtain ⟨rfl, rfl, rfl⟩ := trodAll_nil r1
  obtain rfl : args = #[v0, v1] := by cases args; simp_all
  obtain ⟨rfl, rfl⟩ := trodVars_none hV
  have k0 := h0
  have lt0 : ∀ x ∈ p0, x.block < W.heap.size := by obtain ⟨m, hm⟩ := k0; exact DataW.trod_lt m _ _ _ hm
  obtain ⟨a0, len0, cap0, rfl⟩ := okWide_slice Try.underlying37 (hval 0 37 v0 rfl rfl)
  obtain ⟨l0, rfl, hr0, hc0⟩ : ∃ l : List S39, l.length = len0 ∧ Kd.C k39 W a0 l.length l ∧ l.length ≤ cap0 := by
    obtain ⟨fuel, hf⟩ := h0
    exact open_ats (by simpa [Value.cells] using hf)
  have k1 := h1
  have lt1 : ∀ x ∈ p1, x.block < W.heap.size := by obtain ⟨m, hm⟩ := k1; exact DataW.trod_lt m _ _ _ hm
  obtain ⟨c1_0, c1_1, c1_2, c1_3, c1_4, y1_0, y1_1, y1_2, y1_3, y1_4, m1, rfl, _, _, t1_0, t1_1, t1_2, t1_3, t1_4⟩ := open_agg5 Try.underlying39 (by kernel_rfl) (show Try.prog.cellsOf 39 = 5 by kernel_rfl) (hval 1 39 v1 rfl rfl) h1
  obtain ⟨a1_0, rfl, w1_0⟩ := open_int64 t1_0
  have b1_0 := in64_wf w1_0
  obtain ⟨a1_1, rfl, w1_1⟩ := open_int64 t1_1
  have b1_1 := in64_wf w1_1
  obtain ⟨a1_2, rfl, w1_2⟩ := open_int64 t1_2
  have b1_2 := in64_wf w1_2
  obtain ⟨a1_3, rfl, w1_3⟩ := open_int64 t1_3
  have b1_3 := in64_wf w1_3
  obtain ⟨a1_4, rfl, w1_4⟩ := open_int64 t1_4
  have b1_4 := in64_wf w1_4
  clear hA0 hval0
  obtain ⟨k, hk⟩ := pure_AverageBetween l0 a1_0 a1_1 a1_2 a1_3 a1_4 b1_0 b1_1 b1_2 b1_3 b1_4
  refine (sizarlaw15_AverageBetween.calls k _ _ l0 a1_0 a1_1 a1_2 a1_3 a1_4 true W hr0 hc0 ⟨rfl⟩ hk).mono fun e W' ⟨he, bel⟩ => ?_
  subst he
  exact ⟨_, rfl, _, _, _, [], _, [], hW', trodAll_mk1 (shut_bool Try.underlying4 _), (trodAll_cons_mk (Below.trod laidOut (by kernel_rfl) (of_decide_eq_true (by kernel_rfl)) k0 bel lt0) (trodAll_cons_mk (Below.trod laidOut (by kernel_rfl) (of_decide_eq_true (by kernel_rfl)) k1 bel lt1) trodAll_mk0)), rfl, bel.frame _, fun h => by cases h⟩
theorem over : Rows.averageBetweenRow.holds Try.pinned (OpenSpec.ofChange Rows.averageBetweenSpec) :=
  OpenClaim.holds_of_wide 6 Try.f6 rfl rfl rfl rfl rfl rfl rfl ⟨rfl, rfl, rfl, rfl, rfl⟩ rfl rfl rfl rfl rfl (by kernel_rfl) Try.func6 (by kernel_rfl)
    (of_decide_eq_true (by kernel_rfl)) (by unfold Func.isWrapper; first | (rw [if_pos (by decide +kernel)]; kernel_rfl) | (rw [if_neg (by decide +kernel)]; exact ⟨rfl, rfl⟩))
    (fun os started H enc _ => lifted os started H enc)
end Go.Proofs.Ytgoicalffgehoaa.averageBetween
namespace Go.Proofs.Ytgoicalffgehoaa
/-- The row, under a short name, for the claim. -/
theorem averageBetween_holds : Rows.AverageBetweenSaid := averageBetween.over
#print axioms averageBetween_holds
end Go.Proofs.Ytgoicalffgehoaa
