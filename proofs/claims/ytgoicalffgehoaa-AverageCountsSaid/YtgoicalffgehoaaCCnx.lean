/- What counts, as a list of places: exactly one place of each course with kind 0 or 1, all places with kind 2, and what counts is counted again. Conditions: valid attempts, at most 1000, kinds that agree. -/
import Derived.Test.YtgoicalffgehoaaCCnp
import Derived.Test.YtgoicalffgehoaaCAvs
namespace Go.Proofs.Ytgoicalffgehoaa.P
open Go.RowKit Go.Proofs.YtgoicalffgehoaaW.PrintWords Go.Proofs.Ytgoicalffgehoaa

def kp (l : List S39) (rs : List Int) (i : Nat) : Bool := keepsA (cntA l rs l.length (co l i)) i
/-- The places that count. -/
def idx (l : List S39) (rs : List Int) : List Nat := (List.range l.length).filter (kp l rs)
def ksA (l : List S39) (rs : List Int) : List Int := (idx l rs).map fun j : Nat => rd rs (j : Int)
def tI (l : List S39) (rs : List Int) (i : Nat) : Nat := (idx l rs).getD i 0

section
variable {l : List S39} {rs : List Int}

theorem sel_map : ∀ k, selA l rs k = ((List.range k).filter (kp l rs)).map fun j : Nat => rd_T39 l (j : Int)
  | 0 => rfl
  | k + 1 => by
    have ih := sel_map k
    have e : selA l rs (k + 1) = if kp l rs k = true then selA l rs k ++ [rd_T39 l (k : Int)] else selA l rs k := rfl
    rw [e, List.range_succ, List.filter_append, List.map_append, ← ih, List.filter_cons]
    rcases h : kp l rs k with _ | _
    · rw [if_neg Bool.false_ne_true, if_neg Bool.false_ne_true]
      simp
    · rw [if_pos rfl, if_pos rfl]
      simp
theorem sel_idx : selA l rs l.length = (idx l rs).map fun j : Nat => rd_T39 l (j : Int) := sel_map _
theorem sel_len : (selA l rs l.length).length = (idx l rs).length := by rw [sel_idx, List.length_map]
theorem ks_len : (ksA l rs).length = (selA l rs l.length).length := by rw [sel_len]; unfold ksA; rw [List.length_map]
theorem tI_mem {i : Nat} (h : i < (idx l rs).length) : tI l rs i ∈ idx l rs := by
  unfold tI
  rw [List.getD_eq_getElem?_getD, List.getElem?_eq_getElem h]
  exact List.getElem_mem h
theorem tI_lt {i : Nat} (h : i < (idx l rs).length) : tI l rs i < l.length := by
  have := tI_mem h
  unfold idx at this
  rw [List.mem_filter, List.mem_range] at this
  exact this.1
theorem tI_kp {i : Nat} (h : i < (idx l rs).length) : kp l rs (tI l rs i) = true := by
  have := tI_mem h
  unfold idx at this
  rw [List.mem_filter] at this
  exact this.2
theorem tI_inj {i j : Nat} (hi : i < (idx l rs).length) (hj : j < (idx l rs).length) (h : tI l rs i = tI l rs j) : i = j := by
  have hn : (idx l rs).Pairwise (· < ·) := List.Pairwise.filter _ List.pairwise_lt_range
  unfold tI at h
  rw [List.getD_eq_getElem?_getD, List.getD_eq_getElem?_getD, List.getElem?_eq_getElem hi, List.getElem?_eq_getElem hj] at h
  simp only [Option.getD_some] at h
  have hp := List.pairwise_iff_getElem.1 hn
  rcases Nat.lt_trichotomy i j with h1 | h1 | h1
  · have := hp i j hi hj h1; omega
  · exact h1
  · have := hp j i hj hi h1; omega
theorem sel_at {i : Nat} (h : i < (idx l rs).length) : rd_T39 (selA l rs l.length) (i : Int) = rd_T39 l ((tI l rs i : Nat) : Int) := by
  rw [sel_idx]
  unfold tI
  rw [List.getD_eq_getElem?_getD, List.getElem?_eq_getElem h]
  simp only [rd_T39, Int.toNat_natCast, List.getD_eq_getElem?_getD, List.getElem?_map, List.getElem?_eq_getElem h, Option.map_some, Option.getD_some]
theorem ks_at {i : Nat} (h : i < (idx l rs).length) : rd (ksA l rs) (i : Int) = rd rs ((tI l rs i : Nat) : Int) := by
  unfold ksA tI
  rw [List.getD_eq_getElem?_getD (l := idx l rs), List.getElem?_eq_getElem h]
  simp only [rd, Int.toNat_natCast, List.getD_eq_getElem?_getD, List.getElem?_map, List.getElem?_eq_getElem h, Option.map_some, Option.getD_some]

variable (hg : goodA l rs l.length = true)
include hg

theorem kind_in {i : Nat} (hi : i < l.length) : 0 ≤ rd rs (i : Int) ∧ rd rs (i : Int) ≤ 2 :=
  ((good_succ (goodA_mono l rs (by omega) hg)).1 (goodA_mono l rs (k := i + 1) (by omega) hg)).1
theorem kind_same {a b : Nat} (ha : a < l.length) (hb : b < l.length) (h : co l a = co l b) : rd rs (a : Int) = rd rs (b : Int) := good_all l.length hg a b ha hb h
theorem kp_iff {i : Nat} (hi : i < l.length) : kp l rs i = true ↔ ∀ k, k < l.length → beats l rs i k = false := keeps_iff hg hi
theorem kp_two {i : Nat} (hi : i < l.length) (h : rd rs (i : Int) = 2) : kp l rs i = true := by
  rw [kp_iff hg hi]
  intro k hk
  unfold beats
  rw [decide_eq_true h]
  cases decide (k ≠ i) <;> rfl
theorem not_bet {i k : Nat} (hi : i < l.length) (hk : k < l.length) (hkp : kp l rs i = true) (h2 : rd rs (i : Int) ≠ 2) (hne : k ≠ i) (hc : co l k = co l i) : ¬ bet l (rd rs (i : Int)) k i := fun hb => by
  have := (kp_iff hg hi).1 hkp k hk
  unfold beats at this
  rw [decide_eq_true hne, decide_eq_false h2, decide_eq_true hc, decide_eq_true hb] at this
  cases this
theorem kp_one {a b : Nat} (ha : a < l.length) (hb : b < l.length) (ka : kp l rs a = true) (kb : kp l rs b = true) (hc : co l a = co l b) (h2 : rd rs (a : Int) ≠ 2) : a = b := by
  by_cases h : a = b
  · exact h
  · have h1 := not_bet hg ha hb ka h2 (fun e => h e.symm) hc.symm
    have e := kind_same hg ha hb hc
    have h3 := not_bet hg hb ha kb (by rw [← e]; exact h2) h hc
    rw [← e] at h3
    exact absurd (bet_total (fun e => h e.symm) h1) h3
theorem kp_ex {i : Nat} (hi : i < l.length) (h2 : rd rs (i : Int) ≠ 2) : ∃ t, t < l.length ∧ kp l rs t = true ∧ co l t = co l i := by
  have hr := kind_in hg hi
  rcases cnt_best (r := rd rs (i : Int)) (by omega) (co l i) l.length (fun j hj hc => kind_same hg hj hi hc) with ⟨n1, _⟩ | ⟨t, t1, t2, t3, _⟩
  · exact absurd rfl (n1 i hi)
  · refine ⟨t, t1, ?_, t3⟩
    unfold kp
    rw [t3, t2]
    exact decide_eq_true rfl

theorem again_good : goodA (selA l rs l.length) (ksA l rs) (selA l rs l.length).length = true := by
  suffices h : ∀ k, k ≤ (selA l rs l.length).length → goodA (selA l rs l.length) (ksA l rs) k = true from h _ (Nat.le_refl _)
  intro k
  induction k with
  | zero => intro _; rfl
  | succ k ih =>
    intro hk
    have hk' : k < (idx l rs).length := by rw [sel_len] at hk; omega
    rw [good_succ (ih (by omega)), ks_at hk']
    refine ⟨kind_in hg (tI_lt hk'), fun j hj hc => ?_⟩
    have hj' : j < (idx l rs).length := by omega
    rw [ks_at hj']
    unfold co at hc
    rw [sel_at hj', sel_at hk'] at hc
    exact kind_same hg (tI_lt hk') (tI_lt hj') hc.symm

theorem again_sel : selA (selA l rs l.length) (ksA l rs) (selA l rs l.length).length = selA l rs l.length := by
  have hga := again_good hg
  rw [sel_map (l := selA l rs l.length) (rs := ksA l rs)]
  have hall : ∀ i ∈ List.range (selA l rs l.length).length, kp (selA l rs l.length) (ksA l rs) i = true := by
    intro i hi
    rw [List.mem_range] at hi
    have hi' : i < (idx l rs).length := by rw [sel_len] at hi; exact hi
    rw [kp_iff hga hi]
    intro k hk
    have hk' : k < (idx l rs).length := by rw [sel_len] at hk; exact hk
    unfold beats
    by_cases hki : k = i
    · rw [decide_eq_false (fun h => h hki)]; rfl
    · by_cases h2 : rd (ksA l rs) (i : Int) = 2
      · rw [decide_eq_true h2]
        cases decide (k ≠ i) <;> rfl
      · by_cases hc : co (selA l rs l.length) k = co (selA l rs l.length) i
        · exfalso
          rw [ks_at hi'] at h2
          unfold co at hc
          rw [sel_at hk', sel_at hi'] at hc
          exact hki (tI_inj hk' hi' (kp_one hg (tI_lt hi') (tI_lt hk') (tI_kp hi') (tI_kp hk') hc.symm h2).symm)
        · rw [decide_eq_false hc, Bool.false_and, Bool.and_false, Bool.and_false]
  rw [List.filter_eq_self.2 hall]
  apply List.ext_getElem
  · simp
  · intro i h1 h2
    simp only [List.getElem_map, List.getElem_range]
    simp [rd_T39, h2]

omit hg in
theorem sel_valid (hv : allV l = true) : allV (selA l rs l.length) = true := by
  rw [allV_iff]
  intro x hx
  rw [sel_idx, List.mem_map] at hx
  obtain ⟨j, hj, rfl⟩ := hx
  unfold idx at hj
  rw [List.mem_filter, List.mem_range] at hj
  refine allV_iff.1 hv _ ?_
  simp only [rd_T39, Int.toNat_natCast, List.getD_eq_getElem?_getD, List.getElem?_eq_getElem hj.1, Option.getD_some]
  exact List.getElem_mem hj.1

theorem again (hv : allV l = true) (hm : l.length ≤ 1000) : average_Counted.f (selA l rs l.length) (ksA l rs) = some (selA l rs l.length, 0) := by
  unfold average_Counted.f
  have := selA_length l rs l.length
  rw [if_pos (by omega), if_pos (sel_valid hv), if_pos ks_len, if_pos (again_good hg), again_sel hg]

/-! Numbers of attempts of a course. -/
omit hg in
theorem count_one {q : Nat → Bool} {t : Nat} : ∀ {n : Nat}, t < n → (∀ j, j < n → (q j = true ↔ j = t)) → (List.range n).countP q = 1
  | 0, h, _ => by omega
  | n + 1, h, hq => by
    rw [List.range_succ, List.countP_append]
    by_cases e : t = n
    · have h0 : (List.range n).countP q = 0 := by
        rw [List.countP_eq_zero]
        intro j hj hh
        rw [List.mem_range] at hj
        have := (hq j (by omega)).1 hh
        omega
      have h1 : q n = true := (hq n (by omega)).2 e.symm
      rw [h0, List.countP_cons, h1]
      rfl
    · have h0 := count_one (q := q) (n := n) (by omega) (fun j hj => hq j (by omega))
      have h1 : q n = false := by
        rcases hh : q n with _ | _
        · rfl
        · exact absurd ((hq n (by omega)).1 hh).symm e
      rw [h0, List.countP_cons, h1]
      rfl

omit hg in
theorem list_map (l : List S39) : l = (List.range l.length).map fun j : Nat => rd_T39 l (j : Int) := by
  apply List.ext_getElem
  · simp
  · intro i h1 h2
    simp only [List.getElem_map, List.getElem_range]
    simp [rd_T39, h1]

def inC (c : Int) (x : S39) : Bool := decide (x.f0 = c)
omit hg in
theorem count_sel (c : Int) : (selA l rs l.length).countP (inC c) = (List.range l.length).countP (fun j : Nat => inC c (rd_T39 l (j : Int)) && kp l rs j) := by
  rw [sel_idx, List.countP_map]
  unfold idx
  rw [List.countP_filter]
  rfl
omit hg in
theorem count_all (c : Int) : l.countP (inC c) = (List.range l.length).countP (fun j : Nat => inC c (rd_T39 l (j : Int))) := by
  conv => lhs; rw [list_map l]
  rw [List.countP_map]
  rfl

theorem count_two {i : Nat} (hi : i < l.length) (h2 : rd rs (i : Int) = 2) : (selA l rs l.length).countP (inC (co l i)) = l.countP (inC (co l i)) := by
  rw [count_sel, count_all]
  refine List.countP_congr fun j hj => ?_
  rw [List.mem_range] at hj
  rw [Bool.and_eq_true]
  refine ⟨fun h => h.1, fun h => ⟨h, ?_⟩⟩
  have hc : co l j = co l i := of_decide_eq_true h
  exact kp_two hg hj ((kind_same hg hj hi hc).trans h2)

theorem count_best {i : Nat} (hi : i < l.length) (h2 : rd rs (i : Int) ≠ 2) : (selA l rs l.length).countP (inC (co l i)) = 1 := by
  obtain ⟨t, t1, t2, t3⟩ := kp_ex hg hi h2
  rw [count_sel]
  refine count_one t1 fun j hj => ?_
  rw [Bool.and_eq_true]
  refine ⟨fun h => ?_, fun h => ?_⟩
  · have hc : co l j = co l i := of_decide_eq_true h.1
    exact kp_one hg hj t1 h.2 t2 (hc.trans t3.symm) (by rw [kind_same hg hj hi hc]; exact h2)
  · subst h
    exact ⟨decide_eq_true t3, t2⟩
end
end Go.Proofs.Ytgoicalffgehoaa.P
