/- Loops that search, by lists alone. -/
import Derived.Test.YthiaggolmbephaaMRead
import Derived.Test.YthiaggolmbephaaMPure
namespace Go.Proofs.Ythiaggolmbephaa.MAt0
open Go.RowKit Go.Proofs.YthiaggolmbephaaW.PrintWords Go.Proofs.YthiaggolmbephaaW.PrintLast Go.Proofs.Ythiaggolmbephaa.MPure

/-- A loop that answers the first place at which p holds, or -1. -/
theorem loop_find {α : Type} {L : Nat → Int → Option Int} (l : List α) (z : α) (p : α → Bool) (hend : Ev (fun k => L k (l.length : Int)) (-1))
    (hyes : ∀ i : Nat, i < l.length → p (l.getD i z) = true → Ev (fun k => L k (i : Int)) (i : Int)) (hno : ∀ i : Nat, i < l.length → p (l.getD i z) = false → ∀ r, Ev (fun k => L k ((i + 1 : Nat) : Int)) r → Ev (fun k => L k (i : Int)) r) :
    Ev (fun k => L k 0) (idxOf p l) := by
  have key : ∀ d i : Nat, i + d = l.length → (∀ j, j < i → p (l.getD j z) = false) → Ev (fun k => L k (i : Int)) (idxOf p l) := by
    intro d
    induction d with
    | zero =>
      intro i hi hb
      obtain rfl : i = l.length := by omega
      rw [idxOf_miss z hb]
      exact hend
    | succ d ih =>
      intro i hi hb
      cases hp : p (l.getD i z) with
      | true =>
        rw [idxOf_hit z (by omega) hp hb]
        exact hyes i (by omega) hp
      | false =>
        refine hno i (by omega) hp _ (ih (i + 1) (by omega) (fun j hj => ?_))
        by_cases e : j = i
        · subst e; exact hp
        · exact hb j (by omega)
  exact key l.length 0 (by omega) (fun j hj => absurd hj (Nat.not_lt_zero _))
theorem idxOf_congr {α : Type} {p q : α → Bool} {l : List α} (h : ∀ x, x ∈ l → p x = q x) : idxOf p l = idxOf q l := by
  have : l.findIdx? p = l.findIdx? q := by
    induction l with
    | nil => rfl
    | cons x l ih =>
      rw [List.findIdx?_cons, List.findIdx?_cons, h x List.mem_cons_self, ih (fun y hy => h y (List.mem_cons_of_mem _ hy))]
  unfold idxOf
  rw [this]
theorem idxOf_range {α : Type} (p : α → Bool) (l : List α) : -1 ≤ idxOf p l ∧ idxOf p l < (l.length : Int) := by
  unfold idxOf
  cases h : l.findIdx? p with
  | none => exact ⟨by decide, by show (-1 : Int) < _; omega⟩
  | some i =>
    have := (List.findIdx?_eq_some_iff_getElem.1 h).1
    exact ⟨by show (-1 : Int) ≤ (i : Int); omega, by show (i : Int) < _; omega⟩

end Go.Proofs.Ythiaggolmbephaa.MAt0
