/- A map of ints as a function, and the words of average.Counted: plain. Conditions: as each theorem states them. -/
import Derived.Test.YtgoicalffgehoaaEKnd
namespace Go.Proofs.Ytgoicalffgehoaa.P
open Go.RowKit Go.Shelf Go.Proofs.YtgoicalffgehoaaW.PrintWords
open Go.Proofs.Ytgoicalffgehoaa

def MapIs (W : World) (b n : Nat) (g : Int → Option Int) : Prop :=
  ∃ D : DataW Unit, W.ownsMap Try.prog 3 (plainElem Try.prog 3) b n D ∧ Maps.IsMap D ∧ (∀ x, Maps.has D (.int .i64 x) = (g x).isSome) ∧ (∀ x v, g x = some v → D.atKey (.int .i64 x) (.lit (.int .i64 0)) = .lit (.int .i64 v))

def updM (g : Int → Option Int) (x v : Int) : Int → Option Int := fun y => if y = x then some v else g y

theorem MapIs.made (w : World) : MapIs (w.alloc (.map #[] 0)) w.heap.size 0 (fun _ => none) :=
  ⟨_, World.ownsMap_made _ _ _ _, Maps.isMap_empty, fun _ => rfl, fun _ _ h => by cases h⟩

theorem MapIs.is_map {W : World} {b n : Nat} {g} (h : MapIs W b n g) : ∃ es c, W.heap[b]? = some (.map es c) := by
  obtain ⟨D, ⟨es, c, hb, _⟩, _⟩ := h
  exact ⟨es, c, hb⟩

theorem MapIs.move {W W' : World} {b n : Nat} {g} (h : MapIs W b n g) (e : W'.heap[b]? = W.heap[b]?) : MapIs W' b n g := by
  obtain ⟨D, ⟨es, c, hb, r⟩, r2⟩ := h
  exact ⟨D, ⟨es, c, e.trans hb, r⟩, r2⟩

theorem MapIs.below {W W' : World} {b n : Nat} {g} (h : MapIs W b n g) (hb : Below W.heap.size W W') : MapIs W' b n g := by
  obtain ⟨es, c, e⟩ := h.is_map
  exact h.move ((blk_below e hb).trans e.symm)

theorem MapIs.grown {W W' : World} {b n : Nat} {g} {row : Option Nat} (h : MapIs W b n g) (hg : W.grownBy W' row) (hne : some b ≠ row) : MapIs W' b n g := by
  obtain ⟨D, h1, r⟩ := h
  exact ⟨D, h1.kept hg hne, r⟩

theorem MapIs.put {W' : World} {b n : Nat} {g} {x v : Int} {D : DataW Unit} (hD : Maps.IsMap D) (h1 : ∀ x, Maps.has D (.int .i64 x) = (g x).isSome) (h2 : ∀ x v, g x = some v → D.atKey (.int .i64 x) (.lit (.int .i64 0)) = .lit (.int .i64 v))
    (ho : W'.ownsMap Try.prog 3 (plainElem Try.prog 3) b (n + 1) (D.put (.int .i64 x) (.lit (.int .i64 v)))) : MapIs W' b (n + 1) (updM g x v) := by
  refine ⟨_, ho, hD.put _ _, fun y => ?_, fun y u hy => ?_⟩
  · unfold updM
    by_cases e : y = x
    · subst e
      rw [if_pos rfl, Maps.has_put_same hD (by trivial)]; rfl
    · rw [if_neg e, Maps.has_put_other (fun he => e (by injection he))]
      exact h1 y
  · unfold updM at hy
    by_cases e : y = x
    · subst e
      rw [if_pos rfl] at hy
      injection hy with hy
      subst hy
      exact Maps.atKey_put_same hD (by trivial) _ _
    · rw [if_neg e] at hy
      rw [Maps.atKey_put_other (fun he => e (by injection he))]
      exact h2 y u hy

def replA (r : Int) (a b : S39) : Bool := if r = 0 then better a b else later a b
def ofA (l0 : List S39) (l1 : List Int) : Nat → Int → Option Int
  | 0 => fun _ => none
  | k + 1 => updM (ofA l0 l1 k) (rd_T39 l0 (k : Int)).f0 (rd l1 (k : Int))
/-- Whether attempt k comes to stand for its course, where g stood. -/
def takes (l0 : List S39) (r : Int) (a : S39) (g : Option Int) : Bool :=
  if r = 2 then false else match g with
    | none => true
    | some t => replA r a (rd_T39 l0 t)
def cntA (l0 : List S39) (l1 : List Int) : Nat → Int → Option Int
  | 0 => fun _ => none
  | k + 1 => if takes l0 (rd l1 (k : Int)) (rd_T39 l0 (k : Int)) (cntA l0 l1 k (rd_T39 l0 (k : Int)).f0) then updM (cntA l0 l1 k) (rd_T39 l0 (k : Int)).f0 (k : Int) else cntA l0 l1 k
def fitsR (r : Int) (g : Option Int) : Bool := decide (0 ≤ r ∧ r ≤ 2) && (match g with
  | none => true
  | some v => decide (v = r))
def goodA (l0 : List S39) (l1 : List Int) : Nat → Bool
  | 0 => true
  | k + 1 => goodA l0 l1 k && fitsR (rd l1 (k : Int)) (ofA l0 l1 k (rd_T39 l0 (k : Int)).f0)
def keepsA (g : Option Int) (k : Nat) : Bool := match g with
  | none => true
  | some t => decide (t = (k : Int))
def selA (l0 : List S39) (l1 : List Int) : Nat → List S39
  | 0 => []
  | k + 1 => if keepsA (cntA l0 l1 l0.length (rd_T39 l0 (k : Int)).f0) k then selA l0 l1 k ++ [rd_T39 l0 (k : Int)] else selA l0 l1 k

theorem selA_length (l0 : List S39) (l1 : List Int) : ∀ k, (selA l0 l1 k).length ≤ k
  | 0 => by simp [selA]
  | k + 1 => by
    have := selA_length l0 l1 k
    unfold selA
    split
    · rw [List.length_append, List.length_singleton]; omega
    · omega

theorem cntA_lt (l0 : List S39) (l1 : List Int) : ∀ (k : Nat) (x v : Int), cntA l0 l1 k x = some v → 0 ≤ v ∧ v < k
  | 0, x, v, h => by cases h
  | k + 1, x, v, h => by
    unfold cntA at h
    split at h
    · unfold updM at h
      split at h
      · injection h with h; omega
      · have := cntA_lt l0 l1 k x v h; omega
    · have := cntA_lt l0 l1 k x v h; omega

theorem goodA_mono (l0 : List S39) (l1 : List Int) : ∀ {k n : Nat}, k ≤ n → goodA l0 l1 n = true → goodA l0 l1 k = true := by
  intro k n h
  induction n with
  | zero => intro h2; obtain rfl : k = 0 := by omega
            exact h2
  | succ n ih =>
    intro h2
    by_cases e : k = n + 1
    · subst e; exact h2
    · unfold goodA at h2
      rw [Bool.and_eq_true] at h2
      exact ih (by omega) h2.1

def average_Counted.f (l0 : List S39) (l1 : List Int) : Option (List S39 × Int) :=
  if l0.length < 3518437208883 then
    (if allV l0 then (if l1.length = l0.length then (if goodA l0 l1 l0.length then some (selA l0 l1 l0.length, 0) else some ([], 1)) else some ([], 1)) else some ([], 150))
  else none
end Go.Proofs.Ytgoicalffgehoaa.P
