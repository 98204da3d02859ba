/- Arguments opened: a struct of five numbers by value, a slice of such structs as a list. No condition. -/
import Derived.Lib.SmallJoins
import Derived.Deep.Slices
import Derived.Deep.Fields
import Derived.ChangeSame
import Derived.OpenShut
import Derived.Test.YtgoicalffgehoaaERat
namespace Go.Proofs.Ytgoicalffgehoaa.P
open Go.Joins Go.ChangeShapes Go.WideShapes Go.RowKit Go.Deep Go.Proofs.YtgoicalffgehoaaW.PrintWords
section
variable {H : Type} {enc : TypeId × Value → H} {P : Program} {w : World} {base : Nat} {spare : Nat → Bool} {held : Bool}
theorem open_slice_fields {t e : TypeId} {fs : Array Field} {fuel : Nat} {cs : List Value} {x : DataW H × List MemPlace} (ht : P.underlying t = some (.slice e)) (he : P.underlying e = some (.struct fs))
    (hone : oneCellFields P fs = true) (hC : P.cellsOf e = fs.size) (h : DataW.trod enc P w base spare held fuel t cs = some x) :
    (cs = [.slice none 0 0] ∧ x = (.nil, [])) ∨
    ∃ (a : Addr) (len cap m : Nat) (D : Nat → DataW H) (Pl : Nat → List MemPlace), cs = [.slice (some a) len cap] ∧ base ≤ a.block ∧ len ≤ cap ∧ cap ≤ maxLen ∧ m = (if spare a.block then cap else len) ∧
      x = (.slice ((List.range len).map D) ((List.range (m - len)).map fun j => D (len + j)), MemPlace.row a (m * fs.size) ++ (List.range m).flatMap Pl) ∧
      ∀ i, i < m → ∃ (ys : List (DataW H × List MemPlace)) (n : Nat), D i = .agg (ys.map (·.1)) ∧ Pl i = ys.flatMap (·.2) ∧ ys.length = fs.size ∧
        ∀ (j : Nat) (f : Field), fs[j]? = some f → ∃ (v : Value) (y : DataW H × List MemPlace), w.cell? (a.add (i * fs.size + j)) = some v ∧ ys[j]? = some y ∧ DataW.trod enc P w base spare held n f.type [v] = some y := by
  rcases open_slice ht h with h0 | ⟨a, len, cap, m, n, D, Pl, hcs, hb, hl, hm, hmm, hx, hi⟩
  · exact .inl h0
  · refine .inr ⟨a, len, cap, m, D, Pl, hcs, hb, hl, hm, hmm, by rw [hC] at hx; exact hx, fun i him => ?_⟩
    obtain ⟨cs', hc, ht'⟩ := hi i him
    rw [hC] at hc
    obtain ⟨ys, n', hn', hy, hlen, hyl, hf⟩ := DataW.trod_struct he ht'
    obtain ⟨_, hcl, hat⟩ := World.cells?_some hc
    simp only [Prod.mk.injEq] at hy
    refine ⟨ys, n', hy.1, hy.2, hyl, fun j f hj => ?_⟩
    obtain ⟨ho, hk⟩ := hone_of hone j f hj
    have hjl : j < fs.size := (Array.getElem?_eq_some_iff.1 hj).1
    have hcell := hat j hjl
    have hv : cs'[j]? = some (cs'[j]'(by omega)) := List.getElem?_eq_getElem (by omega)
    have h1 := hf j f hj
    rw [ho, hk] at h1
    have hone' : (cs'.drop j).take 1 = [cs'[j]'(by omega)] := by
      rw [List.drop_eq_getElem_cons (by omega)]
      rfl
    rw [hone'] at h1
    have hys : ys[j]? = some (ys[j]'(by omega)) := List.getElem?_eq_getElem (by omega)
    refine ⟨_, _, ?_, hys, h1.trans hys⟩
    rw [← Go.Deep.add_add, hcell, hv]
end

section
variable {H : Type} {enc : TypeId × Value → H} {P : Program} {w : World} {base : Nat} {spare : Nat → Bool} {held : Bool}
theorem open_agg5 {r : Reach} {b0 : Nat} {t : TypeId} {f0 f1 f2 f3 f4 : Field} {v : Value} {d : DataW H} {p : List MemPlace} (hs : P.underlying t = some (.struct #[f0, f1, f2, f3, f4])) (hone : oneCellFields P #[f0, f1, f2, f3, f4] = true) (hC : P.cellsOf t = 5)
    (hv : Value.okWide P w r b0 t v) (h : DataW.Trod enc P w base spare held t v d p) :
    ∃ (v0 v1 v2 v3 v4 : Value) (y0 y1 y2 y3 y4 : DataW H × List MemPlace) (n : Nat), v = .agg #[v0, v1, v2, v3, v4] ∧ d = .agg [y0.1, y1.1, y2.1, y3.1, y4.1] ∧ p = y0.2 ++ (y1.2 ++ (y2.2 ++ (y3.2 ++ y4.2))) ∧
      DataW.trod enc P w base spare held n f0.type [v0] = some y0 ∧ DataW.trod enc P w base spare held n f1.type [v1] = some y1 ∧ DataW.trod enc P w base spare held n f2.type [v2] = some y2 ∧ DataW.trod enc P w base spare held n f3.type [v3] = some y3 ∧ DataW.trod enc P w base spare held n f4.type [v4] = some y4 := by
  obtain ⟨cs, rfl, hsz⟩ := okWide_struct hs hv
  obtain ⟨l⟩ := cs
  match l, hsz.trans hC with
  | [c0, c1, c2, c3, c4], _ =>
    obtain ⟨fuel, hf⟩ := h
    obtain ⟨xs, n, _, hx, _, hlen, hg⟩ := DataW.trod_struct hs hf
    obtain ⟨o0, k0⟩ := hone_of hone 0 f0 rfl
    obtain ⟨o1, k1⟩ := hone_of hone 1 f1 rfl
    obtain ⟨o2, k2⟩ := hone_of hone 2 f2 rfl
    obtain ⟨o3, k3⟩ := hone_of hone 3 f3 rfl
    obtain ⟨o4, k4⟩ := hone_of hone 4 f4 rfl
    match xs, hlen with
    | [y0, y1, y2, y3, y4], _ =>
      simp only [Prod.mk.injEq] at hx
      exact ⟨c0, c1, c2, c3, c4, y0, y1, y2, y3, y4, n, rfl, by simpa using hx.1, by simpa using hx.2, by simpa [Value.cells, o0, k0] using hg 0 f0 rfl, by simpa [Value.cells, o1, k1] using hg 1 f1 rfl, by simpa [Value.cells, o2, k2] using hg 2 f2 rfl, by simpa [Value.cells, o3, k3] using hg 3 f3 rfl, by simpa [Value.cells, o4, k4] using hg 4 f4 rfl⟩

end

theorem in64_wf {a : Int} (h : (Lit.int .i64 a).wf = true) : in64 a := by
  have := bounds_i64 h
  unfold in64; omega

section
variable {H : Type} {enc : TypeId × Value → H} {w : World}
theorem open_int64 {n : Nat} {v : Value} {y : DataW H × List MemPlace} {sp : Nat → Bool} {b : Nat} {held : Bool} (h : DataW.trod enc Try.prog w b sp held n 3 [v] = some y) : ∃ a : Int, v = .int .i64 a ∧ (Lit.int .i64 a).wf = true := by
  obtain ⟨a, e0, _, wa⟩ := DataW.trod_int Try.underlying3 h
  simp at e0
  exact ⟨a, e0, wa⟩

theorem ats_cells {a : Addr} {m : Nat} (h : ∀ i, i < m → ∃ f0 f1 f2 f3 f4 : Int, w.cell? (a.add (i * 5 + 0)) = some (.int .i64 f0) ∧ w.cell? (a.add (i * 5 + 1)) = some (.int .i64 f1) ∧ w.cell? (a.add (i * 5 + 2)) = some (.int .i64 f2) ∧ w.cell? (a.add (i * 5 + 3)) = some (.int .i64 f3) ∧ w.cell? (a.add (i * 5 + 4)) = some (.int .i64 f4)) (hm : m ≤ 9223372036854775807) :
    ∃ l : List S39, l.length = m ∧ Kd.C k39 w (some a) l.length l := by
  have h' : ∀ i : Nat, ∃ x : S39, i < m → w.cell? (a.add (i * 5 + 0)) = some (.int .i64 x.f0) ∧ w.cell? (a.add (i * 5 + 1)) = some (.int .i64 x.f1) ∧ w.cell? (a.add (i * 5 + 2)) = some (.int .i64 x.f2) ∧ w.cell? (a.add (i * 5 + 3)) = some (.int .i64 x.f3) ∧ w.cell? (a.add (i * 5 + 4)) = some (.int .i64 x.f4) := fun i => by
    by_cases hi : i < m
    · obtain ⟨f0, f1, f2, f3, f4, c⟩ := h i hi
      exact ⟨⟨f0, f1, f2, f3, f4⟩, fun _ => c⟩
    · exact ⟨z39, fun hh => absurd hh hi⟩
  obtain ⟨g, hg⟩ := Classical.axiomOfChoice h'
  have hl : ((List.range m).map g).length = m := by simp
  refine ⟨(List.range m).map g, hl, rfl, by omega, fun _ => ⟨a, rfl, fun j p hj => ?_⟩⟩
  have hjm : j < m := by
    have := (List.getElem?_eq_some_iff.1 hj).1
    omega
  have hp : p = g j := by
    rw [List.getElem?_map, List.getElem?_range hjm] at hj
    simpa using hj.symm
  subst hp
  obtain ⟨c0, c1, c2, c3, c4⟩ := hg j hjm
  refine ⟨_, rfl, k39_mk w (g j), fun i u hu => ?_⟩
  match i, hu with
  | 0, hu => simp at hu; subst hu; exact c0
  | 1, hu => simp at hu; subst hu; exact c1
  | 2, hu => simp at hu; subst hu; exact c2
  | 3, hu => simp at hu; subst hu; exact c3
  | 4, hu => simp at hu; subst hu; exact c4
  | i + 5, hu => simp at hu

theorem open_ats {base : Nat} {spare : Nat → Bool} {held : Bool} {fuel : Nat} {a : Option Addr} {len cap : Nat} {x : DataW H × List MemPlace} (h : DataW.trod enc Try.prog w base spare held fuel 37 [.slice a len cap] = some x) :
    ∃ l : List S39, l.length = len ∧ Kd.C k39 w a l.length l ∧ l.length ≤ cap := by
  rcases open_slice_fields (P := Try.prog) Try.underlying37 Try.underlying39 (by kernel_rfl) (by kernel_rfl) h with ⟨hcs, _⟩ | ⟨ad, l, c, m, D, Pl, hcs, _, hl, hcm, hm, _, hf⟩
  · simp at hcs
    obtain ⟨rfl, rfl, rfl⟩ := hcs
    exact ⟨[], rfl, Kd.C_nil _ _, Nat.le_refl _⟩
  · simp at hcs
    obtain ⟨rfl, rfl, rfl⟩ := hcs
    have hlm : len ≤ m := by subst hm; split <;> omega
    unfold maxLen at hcm
    obtain ⟨zs, hz, hC⟩ := ats_cells (w := w) (a := ad) (m := len) (fun i hi => by
      obtain ⟨ys, n, _, _, _, hq⟩ := hf i (by omega)
      obtain ⟨v0, y0, c0, _, t0⟩ := hq 0 _ rfl
      obtain ⟨v1, y1, c1, _, t1⟩ := hq 1 _ rfl
      obtain ⟨v2, y2, c2, _, t2⟩ := hq 2 _ rfl
      obtain ⟨v3, y3, c3, _, t3⟩ := hq 3 _ rfl
      obtain ⟨v4, y4, c4, _, t4⟩ := hq 4 _ rfl
      obtain ⟨f0, rfl, _⟩ := open_int64 t0
      obtain ⟨f1, rfl, _⟩ := open_int64 t1
      obtain ⟨f2, rfl, _⟩ := open_int64 t2
      obtain ⟨f3, rfl, _⟩ := open_int64 t3
      obtain ⟨f4, rfl, _⟩ := open_int64 t4
      exact ⟨f0, f1, f2, f3, f4, c0, c1, c2, c3, c4⟩) (by omega)
    exact ⟨zs, hz, hC, by omega⟩
end
end Go.Proofs.Ytgoicalffgehoaa.P
