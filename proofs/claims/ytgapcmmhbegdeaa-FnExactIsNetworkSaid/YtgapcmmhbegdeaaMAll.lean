/- Plain laws of the functions that the claim's functions call: what they compute, with no program in sight. No condition. -/
import Derived.Test.YtgapcmmhbegdeaaWAll
import Derived.Lib.Bytealg
import Derived.Test.YtgapcmmhbegdeaaG1
import Derived.Test.YtgapcmmhbegdeaaG36
import Derived.Test.YtgapcmmhbegdeaaG37
import Derived.Test.YtgapcmmhbegdeaaG38
import Derived.Test.YtgapcmmhbegdeaaG39
import Derived.Test.YtgapcmmhbegdeaaG41
import Derived.Test.YtgapcmmhbegdeaaG94
section
/- Plain lemmas on rounds, lists and numbers, for the laws' pure statements: no program in sight. -/
namespace Go.Proofs.Ytgapcmmhbegdeaa.MPure
open Go.RowKit Go.Proofs.YtgapcmmhbegdeaaW.PrintWords Go.Proofs.YtgapcmmhbegdeaaW.PrintLast

theorem Ev.pos {α : Type} {c : Prop} [Decidable c] {f g : Nat → Option α} {r : α} (h : c) (k : Ev f r) : Ev (fun n => if c then f n else g n) r := by
  simpa only [if_pos h] using k
theorem Ev.neg {α : Type} {c : Prop} [Decidable c] {f g : Nat → Option α} {r : α} (h : ¬ c) (k : Ev g r) : Ev (fun n => if c then f n else g n) r := by
  simpa only [if_neg h] using k
theorem Ev.some {α : Type} {a r : α} (h : a = r) : Ev (fun _ => Option.some a) r := h ▸ Ev.now a
theorem Ev.have {α β : Type} {a : Option α} {x : α} {f : Nat → α → Option β} {r : β} (h : a = .some x) (k : Ev (fun n => f n x) r) : Ev (fun n => a.bind (f n)) r := by
  subst h
  exact k
theorem Ev.eq {α : Type} {g : Nat → Option α} {a r : α} (k : Ev g a) (h : a = r) : Ev g r := h ▸ k
theorem wrap_in {n : Int} (h : -9223372036854775808 ≤ n) (h' : n ≤ 9223372036854775807) : wrap64 n = n := by unfold wrap64; omega
theorem wrap_succ {i : Nat} (h : i ≤ 9223372036854775806) : wrap64 ((i : Int) + 1) = ((i + 1 : Nat) : Int) := by unfold wrap64; omega
theorem wrap_pred {i : Nat} (h0 : 0 < i) (h : i ≤ 9223372036854775806) : wrap64 ((i : Int) - 1) = ((i - 1 : Nat) : Int) := by unfold wrap64; omega
/-- A loop that stops with 'false' at the first place at which p does not hold, and answers e behind the last one. -/
theorem loop_all {L : Nat → Int → Option Bool} (n : Nat) (p : Nat → Bool) (e : Bool) (hend : Ev (fun k => L k (n : Int)) e)
    (hyes : ∀ i : Nat, i < n → p i = true → ∀ r, Ev (fun k => L k ((i + 1 : Nat) : Int)) r → Ev (fun k => L k (i : Int)) r) (hno : ∀ i : Nat, i < n → p i = false → Ev (fun k => L k (i : Int)) false) :
    ∀ d i : Nat, i + d = n → Ev (fun k => L k (i : Int)) ((List.range' i d).all p && e)
  | 0, i, h => by
    have : i = n := by omega
    subst this
    simpa using hend
  | d + 1, i, h => by
    have hi : i < n := by omega
    cases hp : p i with
    | true =>
      have ih := loop_all n p e hend hyes hno d (i + 1) (by omega)
      have := hyes i hi hp _ ih
      simpa [List.range'_succ, hp] using this
    | false =>
      have := hno i hi hp
      simpa [List.range'_succ, hp] using this
/-- The same from its begin. -/
theorem loop_all0 {L : Nat → Int → Option Bool} (n : Nat) (p : Nat → Bool) (e : Bool) (hend : Ev (fun k => L k (n : Int)) e)
    (hyes : ∀ i : Nat, i < n → p i = true → ∀ r, Ev (fun k => L k ((i + 1 : Nat) : Int)) r → Ev (fun k => L k (i : Int)) r) (hno : ∀ i : Nat, i < n → p i = false → Ev (fun k => L k (i : Int)) false) :
    Ev (fun k => L k 0) ((List.range n).all p && e) := by
  have h := loop_all n p e hend hyes hno n 0 (by omega)
  rw [← List.range_eq_range'] at h
  exact h

/-- A list that is filled from its begin. -/
theorem set_fill {α : Type} {xs ys : List α} (h : ys.length = xs.length) {i : Nat} (hi : i < xs.length) : (xs.take i ++ ys.drop i).set i xs[i] = xs.take (i + 1) ++ ys.drop (i + 1) := by
  rw [List.set_append, if_neg (by simp; omega)]
  have : i - (List.take i xs).length = 0 := by simp; omega
  rw [this, List.drop_eq_getElem_cons (show i < ys.length by omega), List.set_cons_zero, List.take_succ_eq_append_getElem hi, List.append_assoc]
  rfl
theorem fill_all {α : Type} {xs ys : List α} (h : ys.length = xs.length) {i : Nat} (hi : xs.length ≤ i) : xs.take i ++ ys.drop i = xs := by
  rw [List.take_of_length_le hi, List.drop_of_length_le (by omega), List.append_nil]
theorem fill_length {α : Type} {xs ys : List α} (h : ys.length = xs.length) (i : Nat) : (xs.take i ++ ys.drop i).length = xs.length := by
  simp; omega
end Go.Proofs.Ytgapcmmhbegdeaa.MPure
end
section
/- Nets of relations: rows of rows of numbers, what the laws do with them, and which of them are networks. -/
namespace Go.Proofs.Ytgapcmmhbegdeaa.MNet
open Go.RowKit Go.Proofs.Ytgapcmmhbegdeaa.G Go.Proofs.YtgapcmmhbegdeaaW.PrintWords Go.Proofs.YtgapcmmhbegdeaaW.PrintLast Go.Proofs.Ytgapcmmhbegdeaa.MPure

theorem get_mem {α : Type} (l : List (List α)) (i : Nat) (h : i < l.length) : l.getD i [] ∈ l := by
  rw [List.getD_eq_getElem?_getD, List.getElem?_eq_getElem h]
  exact List.getElem_mem h
theorem loop_no {L : Nat → Int → Option Bool} (n : Nat) (p : Nat → Bool)
    (hyes : ∀ i : Nat, i < n → p i = true → ∀ r, Ev (fun k => L k ((i + 1 : Nat) : Int)) r → Ev (fun k => L k (i : Int)) r) (hno : ∀ i : Nat, i < n → p i = false → Ev (fun k => L k (i : Int)) false) :
    ∀ d i : Nat, i + d = n → (∃ j, i ≤ j ∧ j < n ∧ p j = false) → Ev (fun k => L k (i : Int)) false
  | 0, i, h, ⟨j, h1, h2, _⟩ => absurd h2 (by omega)
  | d + 1, i, h, ⟨j, h1, h2, h3⟩ => by
    cases hp : p i with
    | false => exact hno i (by omega) hp
    | true =>
      refine hyes i (by omega) hp _ (loop_no n p hyes hno d (i + 1) (by omega) ⟨j, ?_, h2, h3⟩)
      rcases Nat.lt_or_ge i j with h4 | h4
      · exact h4
      · have : i = j := by omega
        subst this
        rw [hp] at h3
        cases h3
/-- A loop whose end needs that all held. -/
theorem loop_if {L : Nat → Int → Option Bool} (n : Nat) (p : Nat → Bool) (e : Bool) (hend : (∀ i, i < n → p i = true) → Ev (fun k => L k (n : Int)) e)
    (hyes : ∀ i : Nat, i < n → p i = true → ∀ r, Ev (fun k => L k ((i + 1 : Nat) : Int)) r → Ev (fun k => L k (i : Int)) r) (hno : ∀ i : Nat, i < n → p i = false → Ev (fun k => L k (i : Int)) false) :
    Ev (fun k => L k 0) ((List.range n).all p && e) := by
  by_cases h : ∀ i, i < n → p i = true
  · exact loop_all0 n p e (hend h) hyes hno
  · have h2 : ∃ j, 0 ≤ j ∧ j < n ∧ p j = false := by
      apply Classical.byContradiction
      intro h3
      refine h (fun i hi => ?_)
      cases hp : p i with
      | true => rfl
      | false => exact absurd ⟨i, Nat.zero_le i, hi, hp⟩ h3
    have h3 := loop_no (L := L) n p hyes hno n 0 (by omega) h2
    obtain ⟨j, _, hj, hp⟩ := h2
    have h4 : (List.range n).all p = false := by
      rw [Bool.eq_false_iff]
      intro h5
      have := List.all_eq_true.1 h5 j (List.mem_range.2 hj)
      rw [hp] at this
      cases this
    rw [h4]
    exact h3

/-! ### rows of numbers -/
theorem in12 (x : Int) : spec_l1In.f x 0 12 = some (decide (0 ≤ x ∧ x ≤ 12)) := by
  unfold spec_l1In.f
  by_cases h : x ≥ 0
  · rw [if_pos h]; congr 1; simp; omega
  · rw [if_neg h]; congr 1; simp; omega
theorem within12 (x : Int) : impl_within.f x 0 12 = some (decide (0 ≤ x ∧ x ≤ 12)) := by
  unfold impl_within.f
  by_cases h : x ≥ 0
  · rw [if_pos h]; congr 1; simp; omega
  · rw [if_neg h]; congr 1; simp; omega
def okP (l : List Int) (i : Nat) : Bool := decide (0 ≤ l.getD i 0 ∧ l.getD i 0 ≤ 12) && (decide (i = 0) || decide (l.getD (i - 1) 0 < l.getD i 0))
def okR (l : List Int) : Bool := (List.range l.length).all (okP l)
theorem okP_two {l : List Int} {i : Nat} (h : okP l i = true) : (0 ≤ l.getD i 0 ∧ l.getD i 0 ≤ 12) ∧ (i = 0 ∨ l.getD (i - 1) 0 < l.getD i 0) := by
  unfold okP at h
  simpa using h
theorem okR_get {l : List Int} (h : okR l = true) (i : Nat) (hi : i < l.length) : (0 ≤ l.getD i 0 ∧ l.getD i 0 ≤ 12) ∧ (i = 0 ∨ l.getD (i - 1) 0 < l.getD i 0) :=
  okP_two (List.all_eq_true.1 h i (List.mem_range.2 hi))
theorem spSet_ (l : List Int) (hl : l.length ≤ 140737488351232) : Ev (fun k => spec_spSet.f k l) (okR l) := by
  unfold spec_spSet.f spec_l1Rising.f
  have h := loop_all0 (L := fun k i => spec_l1Rising.l0 k l 0 12 l (l.length : Int) i) l.length (okP l) true
    (Ev.step (fun _ => spec_l1Rising.l0.eq_2 ..) (Ev.neg (by omega) (Ev.some rfl)))
    (fun i hi hp r ih => by
      obtain ⟨h1, h2⟩ := okP_two hp
      rw [← wrap_succ (by omega)] at ih
      refine Ev.step (fun _ => spec_l1Rising.l0.eq_2 ..) (Ev.pos (by omega) (Ev.pos (by omega) (Ev.pos (by omega) (Ev.have (in12 (l.getD i 0)) (Ev.pos (decide_eq_true h1) ?_)))))
      by_cases h0 : i = 0
      · exact Ev.neg (by omega) ih
      · have e := wrap_pred (i := i) (by omega) (by omega)
        rw [e]
        exact Ev.pos (by omega) (Ev.pos (by omega) (Ev.pos (by omega) (Ev.neg (by show ¬ l.getD (i - 1) 0 ≥ l.getD i 0; omega) ih))))
    (fun i hi hp => by
      refine Ev.step (fun _ => spec_l1Rising.l0.eq_2 ..) (Ev.pos (by omega) (Ev.pos (by omega) (Ev.pos (by omega) (Ev.have (in12 (l.getD i 0)) ?_))))
      by_cases h1 : 0 ≤ l.getD i 0 ∧ l.getD i 0 ≤ 12
      · unfold okP at hp
        rw [decide_eq_true h1, Bool.true_and, Bool.or_eq_false_iff] at hp
        obtain ⟨h2, h3⟩ := hp
        have h2 := of_decide_eq_false h2
        have h3 := of_decide_eq_false h3
        have e := wrap_pred (i := i) (by omega) (by omega)
        rw [e]
        exact Ev.pos (decide_eq_true h1) (Ev.pos (by omega) (Ev.pos (by omega) (Ev.pos (by omega) (Ev.pos (by show l.getD (i - 1) 0 ≥ l.getD i 0; omega) (Ev.some rfl)))))
      · exact Ev.neg (by rw [decide_eq_false h1]; decide) (Ev.some rfl))
  exact Ev.bind (Ev.eq h (by rw [Bool.and_true]; rfl)) (Ev.some rfl)
theorem areRelations_ (l : List Int) (hl : l.length ≤ 140737488351232) : Ev (fun k => impl_areRelations.f k l) (okR l) := by
  unfold impl_areRelations.f
  have h := loop_all0 (L := fun k i => impl_areRelations.l0 k l l (l.length : Int) i) l.length (okP l) true
    (Ev.step (fun _ => impl_areRelations.l0.eq_2 ..) (Ev.neg (by omega) (Ev.some rfl)))
    (fun i hi hp r ih => by
      obtain ⟨h1, h2⟩ := okP_two hp
      rw [← wrap_succ (by omega)] at ih
      refine Ev.step (fun _ => impl_areRelations.l0.eq_2 ..) (Ev.pos (by omega) (Ev.pos (by omega) (Ev.pos (by omega) (Ev.have (within12 (l.getD i 0)) (Ev.pos (decide_eq_true h1) ?_)))))
      by_cases h0 : i = 0
      · exact Ev.neg (by omega) ih
      · have e := wrap_pred (i := i) (by omega) (by omega)
        rw [e]
        exact Ev.pos (by omega) (Ev.pos (by omega) (Ev.pos (by omega) (Ev.neg (by show ¬ l.getD i 0 ≤ l.getD (i - 1) 0; omega) ih))))
    (fun i hi hp => by
      refine Ev.step (fun _ => impl_areRelations.l0.eq_2 ..) (Ev.pos (by omega) (Ev.pos (by omega) (Ev.pos (by omega) (Ev.have (within12 (l.getD i 0)) ?_))))
      by_cases h1 : 0 ≤ l.getD i 0 ∧ l.getD i 0 ≤ 12
      · unfold okP at hp
        rw [decide_eq_true h1, Bool.true_and, Bool.or_eq_false_iff] at hp
        obtain ⟨h2, h3⟩ := hp
        have h2 := of_decide_eq_false h2
        have h3 := of_decide_eq_false h3
        have e := wrap_pred (i := i) (by omega) (by omega)
        rw [e]
        exact Ev.pos (decide_eq_true h1) (Ev.pos (by omega) (Ev.pos (by omega) (Ev.pos (by omega) (Ev.pos (by show l.getD i 0 ≤ l.getD (i - 1) 0; omega) (Ev.some rfl)))))
      · exact Ev.neg (by rw [decide_eq_false h1]; decide) (Ev.some rfl))
  exact Ev.eq h (by rw [Bool.and_true]; rfl)
def inv (l : List Int) : List Int := (l.map (fun x => 12 - x)).reverse
theorem drop_get (l : List Int) (i : Nat) (h : i < l.length) : l.drop i = l.getD i 0 :: l.drop (i + 1) := by
  rw [List.drop_eq_getElem_cons h, List.getD_eq_getElem?_getD, List.getElem?_eq_getElem h]
  rfl
theorem inverses_ (l : List Int) (hl : l.length ≤ 17592186043904) (hok : okR l = true) : Ev (fun k => impl_inverses.f k l) (inv l) := by
  have key : ∀ j : Nat, j ≤ l.length → Ev (fun k => impl_inverses.l0 k l ((l.drop j).map (fun x => 12 - x)).reverse ((j : Int) - 1)) (inv l) := by
    intro j
    induction j with
    | zero =>
      intro _
      exact Ev.step (fun _ => impl_inverses.l0.eq_2 ..) (Ev.neg (by omega) (Ev.some (by rw [List.drop_zero]; rfl)))
    | succ j ih =>
      intro hj
      have ih := ih (by omega)
      have hb := (okR_get hok j (by omega)).1
      rw [show ((j + 1 : Nat) : Int) - 1 = (j : Int) by omega]
      rw [drop_get l j (by omega), List.map_cons, List.reverse_cons] at ih
      have e1 : wrap64 (12 - rd l (j : Int)) = 12 - l.getD j 0 := wrap_in (by show -9223372036854775808 ≤ 12 - l.getD j 0; omega) (by show 12 - l.getD j 0 ≤ 9223372036854775807; omega)
      have e2 : wrap64 ((j : Int) - 1) = (j : Int) - 1 := wrap_in (by omega) (by omega)
      rw [← e1, ← e2] at ih
      exact Ev.step (fun _ => impl_inverses.l0.eq_2 ..) (Ev.pos (by omega) (Ev.pos (by omega) (Ev.pos (by omega) (Ev.pos (by simp; omega) ih))))
  have h := key l.length (Nat.le_refl _)
  rw [List.drop_of_length_le (Nat.le_refl _)] at h
  unfold impl_inverses.f
  rw [wrap_in (by omega) (by omega)]
  exact h
theorem put_front (x : List Int) (v : Int) (hx : x.length < 17592186044415) (h : ∀ y, x.head? = some y → v < y) : Ev (fun k => spec_l1Put.f k x v) (v :: x) := by
  refine ⟨1, fun k hk => ?_⟩
  obtain ⟨k, rfl⟩ : ∃ m, k = m + 1 := ⟨k - 1, by omega⟩
  unfold spec_l1Put.f
  cases x with
  | nil => simp [spec_l1Put.l0]
  | cons y x =>
    have h1 := h y rfl
    have e : rd (y :: x) 0 = y := rfl
    show spec_l1Put.l0 (k + 1) (y :: x) v 0 = some (v :: y :: x)
    rw [spec_l1Put.l0.eq_2, if_pos (by simp only [List.length_cons]; omega), if_pos (Int.le_refl 0), e, if_neg (by omega), if_neg (by omega)]
    have hx2 : x.length + 1 < 17592186044415 := hx
    simp
    omega
theorem spInverse_ (l : List Int) (hl : l.length ≤ 17592186043904) (hok : okR l = true) : Ev (fun k => spec_spInverse.f k l) (inv l) := by
  have key : ∀ d j : Nat, j + d = l.length → Ev (fun k => spec_spInverse.l0 k ((l.take j).map (fun x => 12 - x)).reverse l (l.length : Int) (j : Int)) (inv l) := by
    intro d
    induction d with
    | zero =>
      intro j hj
      exact Ev.step (fun _ => spec_spInverse.l0.eq_2 ..) (Ev.neg (by omega) (Ev.some (by rw [List.take_of_length_le (by omega)]; rfl)))
    | succ d ih =>
      intro j hj
      have ih := ih (j + 1) (by omega)
      obtain ⟨hb, hc⟩ := okR_get hok j (by omega)
      have et : l.take (j + 1) = l.take j ++ [l.getD j 0] := by
        rw [List.take_succ_eq_append_getElem (show j < l.length by omega), List.getD_eq_getElem?_getD, List.getElem?_eq_getElem (show j < l.length by omega)]
        rfl
      have er : ((l.take (j + 1)).map (fun x => 12 - x)).reverse = (12 - l.getD j 0) :: ((l.take j).map (fun x => 12 - x)).reverse := by rw [et]; simp
      rw [er] at ih
      have e1 : wrap64 (12 - rd l (j : Int)) = 12 - l.getD j 0 := wrap_in (by show -9223372036854775808 ≤ 12 - l.getD j 0; omega) (by show 12 - l.getD j 0 ≤ 9223372036854775807; omega)
      have hp := put_front ((l.take j).map (fun x => 12 - x)).reverse (12 - l.getD j 0) (by simp; omega) (fun y hy => by
        rcases hc with hc | hc
        · subst hc
          simp at hy
        · cases j with
          | zero => simp at hy
          | succ j =>
            rw [List.take_succ_eq_append_getElem (show j < l.length by omega), List.map_append, List.reverse_append] at hy
            have h3 : l.getD j 0 = l[j]'(by omega) := by
              rw [List.getD_eq_getElem?_getD, List.getElem?_eq_getElem (show j < l.length by omega)]
              rfl
            have h4 : 12 - l[j]'(by omega) = y := by simpa using hy
            have h5 : j + 1 - 1 = j := rfl
            rw [h5, h3] at hc
            omega)
      rw [← e1] at hp ih
      rw [← wrap_succ (by omega)] at ih
      exact Ev.step (fun _ => spec_spInverse.l0.eq_2 ..) (Ev.pos (by omega) (Ev.pos (by omega) (Ev.pos (by omega) (Ev.bind hp ih))))
  unfold spec_spInverse.f
  exact key l.length 0 (by omega)
def same (x y : List Int) : Bool := decide ((x.length : Int) = (y.length : Int)) && (List.range x.length).all (fun i => decide (x.getD i 0 = y.getD i 0))
theorem l1Same_ (x y : List Int) (hx : x.length ≤ 140737488351232) : Ev (fun k => spec_l1Same.f k x y) (same x y) := by
  unfold spec_l1Same.f same
  by_cases hlen : (x.length : Int) = (y.length : Int)
  · rw [decide_eq_true hlen, Bool.true_and]
    refine Ev.pos hlen ?_
    have h := loop_all0 (L := fun k i => spec_l1Same.l0 k x y (x.length : Int) i) x.length (fun i => decide (x.getD i 0 = y.getD i 0)) true
      (Ev.step (fun _ => spec_l1Same.l0.eq_2 ..) (Ev.neg (by omega) (Ev.some rfl)))
      (fun i hi hp r ih => by
        rw [← wrap_succ (by omega)] at ih
        exact Ev.step (fun _ => spec_l1Same.l0.eq_2 ..) (Ev.pos (by omega) (Ev.pos (by omega) (Ev.pos (by omega) (Ev.pos (by omega) (Ev.pos (of_decide_eq_true hp) ih))))))
      (fun i hi hp => Ev.step (fun _ => spec_l1Same.l0.eq_2 ..) (Ev.pos (by omega) (Ev.pos (by omega) (Ev.pos (by omega) (Ev.pos (by omega) (Ev.neg (of_decide_eq_false hp) (Ev.some rfl)))))))
    exact Ev.eq h (by rw [Bool.and_true])
  · rw [decide_eq_false hlen, Bool.false_and]
    exact Ev.neg hlen (Ev.some rfl)
theorem equal_ (x y : List Int) (hx : x.length ≤ 140737488351232) : Ev (fun k => slices_Equal_int.f k x y) (same x y) := by
  unfold slices_Equal_int.f same
  by_cases hlen : (x.length : Int) = (y.length : Int)
  · rw [decide_eq_true hlen, Bool.true_and]
    refine Ev.pos hlen ?_
    have h := loop_all0 (L := fun k i => slices_Equal_int.l0 k x y (x.length : Int) i) x.length (fun i => decide (x.getD i 0 = y.getD i 0)) true
      (Ev.step (fun _ => slices_Equal_int.l0.eq_2 ..) (Ev.neg (by omega) (Ev.some rfl)))
      (fun i hi hp r ih => by
        rw [← wrap_succ (by omega)] at ih
        exact Ev.step (fun _ => slices_Equal_int.l0.eq_2 ..) (Ev.pos (by omega) (Ev.pos (by omega) (Ev.pos (by omega) (Ev.pos (by omega) (Ev.pos (of_decide_eq_true hp) ih))))))
      (fun i hi hp => Ev.step (fun _ => slices_Equal_int.l0.eq_2 ..) (Ev.pos (by omega) (Ev.pos (by omega) (Ev.pos (by omega) (Ev.pos (by omega) (Ev.neg (of_decide_eq_false hp) (Ev.some rfl)))))))
    exact Ev.eq h (by rw [Bool.and_true])
  · rw [decide_eq_false hlen, Bool.false_and]
    exact Ev.neg hlen (Ev.some rfl)

/-! ### which nets are networks -/
abbrev Net := List (List (List Int))
def at2 (l : Net) (i k : Nat) : List Int := (l.getD i []).getD k []
def cellB (l : Net) (i k : Nat) : Bool := decide (¬ ((at2 l i k).length : Int) = 0) && (okR (at2 l i k) && same (at2 l k i) (inv (at2 l i k)))
def rowsB (l : Net) : Bool := (List.range l.length).all (fun i => decide (((l.getD i []).length : Int) = (l.length : Int)))
def rowB (l : Net) (i : Nat) : Bool := (List.range l.length).all (cellB l i) && same (at2 l i i) [6]
def netB (l : Net) : Bool := decide (1 ≤ (l.length : Int) ∧ (l.length : Int) ≤ 6) && (rowsB l && (List.range l.length).all (rowB l))
/-- What a law's net bears. -/
def Given (l : Net) : Prop := (∀ a_, a_ ∈ l → ((∀ b_, b_ ∈ a_ → ((∀ c_, c_ ∈ b_ → (Lit.int .i64 c_).wf = true) ∧ b_.length * 8 ≤ 140737488351232)) ∧ a_.length * 24 ≤ 140737488351232)) ∧ l.length * 24 ≤ 140737488351232
theorem cell_le {l : Net} (h : Given l) (i k : Nat) : (at2 l i k).length ≤ 17592186043904 := by
  unfold at2
  by_cases hi : i < l.length
  · by_cases hk : k < (l.getD i []).length
    · have := ((h.1 _ (get_mem l i hi)).1 _ (get_mem _ k hk)).2
      omega
    · rw [List.getD_eq_getElem?_getD, List.getElem?_eq_none (by omega)]
      exact Nat.zero_le _
  · rw [show l.getD i [] = [] by rw [List.getD_eq_getElem?_getD, List.getElem?_eq_none (by omega)]; rfl]
    exact Nat.zero_le _
theorem rows_at {l : Net} (h : ∀ i, i < l.length → decide (((l.getD i []).length : Int) = (l.length : Int)) = true) (i : Nat) (hi : i < l.length) : ((l.getD i []).length : Int) = (l.length : Int) := of_decide_eq_true (h i hi)
theorem range'_cons (p : Nat → Bool) (i d : Nat) : (List.range' i (d + 1)).all p = (p i && (List.range' (i + 1) d).all p) := by
  rw [List.range'_succ, List.all_cons]
theorem diag (n i : Nat) (hi : i < n) (p q : Nat → Bool) : (List.range n).all (fun k => p k && (decide (¬ i = k) || q k)) = ((List.range n).all p && q i) := by
  rw [Bool.eq_iff_iff]
  simp only [List.all_eq_true, List.mem_range, Bool.and_eq_true, Bool.or_eq_true, decide_eq_true_eq]
  constructor
  · intro h
    refine ⟨fun k hk => (h k hk).1, ?_⟩
    rcases (h i hi).2 with h1 | h1
    · exact absurd rfl h1
    · exact h1
  · rintro ⟨h1, h2⟩ k hk
    refine ⟨h1 k hk, ?_⟩
    by_cases e : i = k
    · subst e; exact Or.inr h2
    · exact Or.inl e
theorem cellB_no {l : Net} {i k : Nat} (h : cellB l i k = false) (h0 : ¬ ((at2 l i k).length : Int) = 0) (h1 : okR (at2 l i k) = true) : same (at2 l k i) (inv (at2 l i k)) = false := by
  unfold cellB at h
  rw [decide_eq_true h0, h1, Bool.true_and, Bool.true_and] at h
  exact h
theorem cellB_yes {l : Net} {i k : Nat} (h : cellB l i k = true) : ¬ ((at2 l i k).length : Int) = 0 ∧ okR (at2 l i k) = true ∧ same (at2 l k i) (inv (at2 l i k)) = true := by
  unfold cellB at h
  simp only [Bool.and_eq_true, decide_eq_true_eq] at h
  exact ⟨h.1, h.2.1, h.2.2⟩
theorem spRow_ (l : Net) (hl : Given l) (hn : l.length ≤ 6) (hr : ∀ i, i < l.length → ((l.getD i []).length : Int) = (l.length : Int)) (i : Nat) (hi : i < l.length) (e : Bool) (he : Ev (fun k => spec_spNetwork.l1 k l l (l.length : Int) ((i + 1 : Nat) : Int)) e) :
    Ev (fun k => spec_spNetwork.l2 k l (i : Int) l (l.length : Int) (i : Int) (l.getD i []) ((l.getD i []).length : Int) 0) (rowB l i && e) := by
  rw [← wrap_succ (by omega)] at he
  have hri := hr i hi
  have hlen : (l.getD i []).length = l.length := by omega
  have h := loop_all0 (L := fun k j => spec_spNetwork.l2 k l (i : Int) l (l.length : Int) (i : Int) (l.getD i []) ((l.getD i []).length : Int) j) l.length (fun k => cellB l i k && (decide (¬ i = k) || same (at2 l i k) [6])) e
    (Ev.step (fun _ => spec_spNetwork.l2.eq_2 ..) (Ev.neg (by omega) he))
    (fun k hk hp r ih => by
      rw [← wrap_succ (by omega)] at ih
      simp only [Bool.and_eq_true, Bool.or_eq_true, decide_eq_true_eq] at hp
      obtain ⟨hc, h6⟩ := hp
      obtain ⟨h1, h2, h3⟩ := cellB_yes hc
      have h4 := spInverse_ (at2 l i k) (cell_le hl i k) h2
      have h5 := l1Same_ (at2 l k i) (inv (at2 l i k)) (by have := cell_le hl k i; omega)
      rw [h3] at h5
      have hrk := hr k hk
      refine Ev.step (fun _ => spec_spNetwork.l2.eq_2 ..) (Ev.pos (by omega) (Ev.pos (by omega) (Ev.pos (by omega) (Ev.neg h1 (Ev.bind (spSet_ (at2 l i k) (by have := cell_le hl i k; omega)) (Ev.pos h2 (Ev.pos (by omega) (Ev.pos (by omega) (Ev.pos (by show (i : Int) < ((l.getD k []).length : Int); omega) (Ev.bind h4 (Ev.bind h5 (Ev.pos rfl ?_))))))))))))
      by_cases hik : i = k
      · have h7 := l1Same_ (at2 l i k) [6] (by have := cell_le hl i k; omega)
        rcases h6 with h6 | h6
        · exact absurd hik h6
        · rw [h6] at h7
          exact Ev.pos (by omega) (Ev.bind h7 (Ev.pos rfl ih))
      · exact Ev.neg (by omega) ih)
    (fun k hk hp => by
      have hrk := hr k hk
      refine Ev.step (fun _ => spec_spNetwork.l2.eq_2 ..) (Ev.pos (by omega) (Ev.pos (by omega) (Ev.pos (by omega) ?_)))
      by_cases h1 : ((at2 l i k).length : Int) = 0
      · exact Ev.pos h1 (Ev.some rfl)
      · have hs := spSet_ (at2 l i k) (by have := cell_le hl i k; omega)
        refine Ev.neg h1 (Ev.bind hs ?_)
        by_cases h2 : okR (at2 l i k) = true
        · refine Ev.pos h2 (Ev.pos (by omega) (Ev.pos (by omega) (Ev.pos (by show (i : Int) < ((l.getD k []).length : Int); omega) (Ev.bind (spInverse_ (at2 l i k) (cell_le hl i k) h2) (Ev.bind (l1Same_ (at2 l k i) (inv (at2 l i k)) (by have := cell_le hl k i; omega)) ?_)))))
          by_cases h3 : same (at2 l k i) (inv (at2 l i k)) = true
          · have hc : cellB l i k = true := by unfold cellB; rw [decide_eq_true h1, h2, h3]; rfl
            rw [hc, Bool.true_and, Bool.or_eq_false_iff] at hp
            obtain ⟨h4, h5⟩ := hp
            have h4 := of_decide_eq_false h4
            have h7 := l1Same_ (at2 l i k) [6] (by have := cell_le hl i k; omega)
            rw [h5] at h7
            exact Ev.pos h3 (Ev.pos (by omega) (Ev.bind h7 (Ev.neg (by decide) (Ev.some rfl))))
          · exact Ev.neg h3 (Ev.some rfl)
        · exact Ev.neg h2 (Ev.some rfl))
  exact Ev.eq h (by rw [diag l.length i hi (cellB l i) (fun k => same (at2 l i k) [6])]; rfl)
theorem six_ (l : Net) (hl : Given l) (i : Nat) : Ev (fun k => slices_Equal_int.f k (at2 l i i) [6]) (same (at2 l i i) [6]) := equal_ _ _ (by have := cell_le hl i i; omega)
theorem implRow_ (l : Net) (hl : Given l) (hn : l.length ≤ 6) (hr : ∀ i, i < l.length → ((l.getD i []).length : Int) = (l.length : Int)) (i : Nat) (hi : i < l.length) (e : Bool) (he : Ev (fun k => impl_IsNetwork.l0 k l l (l.length : Int) ((i + 1 : Nat) : Int)) e) :
    Ev (fun k => impl_IsNetwork.l1 k l (i : Int) (l.getD i []) l (l.length : Int) (i : Int) (l.getD i []) ((l.getD i []).length : Int) 0) (rowB l i && e) := by
  rw [← wrap_succ (by omega)] at he
  have hri := hr i hi
  have hlen : (l.getD i []).length = l.length := by omega
  have h := loop_all0 (L := fun k j => impl_IsNetwork.l1 k l (i : Int) (l.getD i []) l (l.length : Int) (i : Int) (l.getD i []) ((l.getD i []).length : Int) j) l.length (cellB l i) (same (at2 l i i) [6] && e)
    (by
      refine Ev.step (fun _ => impl_IsNetwork.l1.eq_2 ..) (Ev.neg (by omega) (Ev.pos (by omega) (Ev.pos (by omega) (Ev.bind (six_ l hl i) ?_))))
      by_cases h6 : same (at2 l i i) [6] = true
      · rw [h6, Bool.true_and]
        exact Ev.pos rfl he
      · refine Ev.neg h6 (Ev.some ?_)
        rw [Bool.eq_false_iff.2 h6, Bool.false_and])
    (fun k hk hp r ih => by
      rw [← wrap_succ (by omega)] at ih
      obtain ⟨h1, h2, h3⟩ := cellB_yes hp
      have h4 := inverses_ (at2 l i k) (cell_le hl i k) h2
      have h5 := equal_ (at2 l k i) (inv (at2 l i k)) (by have := cell_le hl k i; omega)
      rw [h3] at h5
      have hrk := hr k hk
      exact Ev.step (fun _ => impl_IsNetwork.l1.eq_2 ..) (Ev.pos (by omega) (Ev.pos (by omega) (Ev.pos (by omega) (Ev.neg h1 (Ev.bind (areRelations_ (at2 l i k) (by have := cell_le hl i k; omega)) (Ev.pos h2 (Ev.pos (by omega) (Ev.pos (by omega) (Ev.pos (by show (i : Int) < ((l.getD k []).length : Int); omega) (Ev.bind h4 (Ev.bind h5 (Ev.pos rfl ih)))))))))))))
    (fun k hk hp => by
      have hrk := hr k hk
      refine Ev.step (fun _ => impl_IsNetwork.l1.eq_2 ..) (Ev.pos (by omega) (Ev.pos (by omega) (Ev.pos (by omega) ?_)))
      by_cases h1 : ((at2 l i k).length : Int) = 0
      · exact Ev.pos h1 (Ev.some rfl)
      · have hs := areRelations_ (at2 l i k) (by have := cell_le hl i k; omega)
        refine Ev.neg h1 (Ev.bind hs ?_)
        by_cases h2 : okR (at2 l i k) = true
        · have h3 := cellB_no hp h1 h2
          have h5 := equal_ (at2 l k i) (inv (at2 l i k)) (by have := cell_le hl k i; omega)
          rw [h3] at h5
          exact Ev.pos h2 (Ev.pos (by omega) (Ev.pos (by omega) (Ev.pos (by show (i : Int) < ((l.getD k []).length : Int); omega) (Ev.bind (inverses_ (at2 l i k) (cell_le hl i k) h2) (Ev.bind h5 (Ev.neg (by decide) (Ev.some rfl)))))))
        · exact Ev.neg h2 (Ev.some rfl))
  exact Ev.eq h (by unfold rowB; rw [Bool.and_assoc])
theorem spAll_ (l : Net) (hl : Given l) (hn : l.length ≤ 6) (hr : ∀ i, i < l.length → ((l.getD i []).length : Int) = (l.length : Int)) : Ev (fun k => spec_spNetwork.l1 k l l (l.length : Int) 0) ((List.range l.length).all (rowB l)) := by
  have key : ∀ d i : Nat, i + d = l.length → Ev (fun k => spec_spNetwork.l1 k l l (l.length : Int) (i : Int)) ((List.range' i d).all (rowB l)) := by
    intro d
    induction d with
    | zero => intro i hi; exact Ev.step (fun _ => spec_spNetwork.l1.eq_2 ..) (Ev.neg (by omega) (Ev.some rfl))
    | succ d ih =>
      intro i hi
      have h := spRow_ l hl hn hr i (by omega) _ (ih (i + 1) (by omega))
      rw [range'_cons]
      exact Ev.step (fun _ => spec_spNetwork.l1.eq_2 ..) (Ev.pos (by omega) (Ev.pos (by omega) (Ev.pos (by omega) h)))
  have h := key l.length 0 (by omega)
  rw [← List.range_eq_range'] at h
  exact h
theorem implAll_ (l : Net) (hl : Given l) (hn : l.length ≤ 6) (hr : ∀ i, i < l.length → ((l.getD i []).length : Int) = (l.length : Int)) : Ev (fun k => impl_IsNetwork.l0 k l l (l.length : Int) 0) ((List.range l.length).all (rowB l)) := by
  have key : ∀ d i : Nat, i + d = l.length → Ev (fun k => impl_IsNetwork.l0 k l l (l.length : Int) (i : Int)) ((List.range' i d).all (rowB l)) := by
    intro d
    induction d with
    | zero => intro i hi; exact Ev.step (fun _ => impl_IsNetwork.l0.eq_2 ..) (Ev.neg (by omega) (Ev.some rfl))
    | succ d ih =>
      intro i hi
      have h := implRow_ l hl hn hr i (by omega) _ (ih (i + 1) (by omega))
      rw [range'_cons]
      exact Ev.step (fun _ => impl_IsNetwork.l0.eq_2 ..) (Ev.pos (by omega) (Ev.pos (by omega) (Ev.pos (by omega) h)))
  have h := key l.length 0 (by omega)
  rw [← List.range_eq_range'] at h
  exact h
theorem spNetwork_ (l : Net) (hl : Given l) : Ev (fun k => spec_spNetwork.f k l) (netB l) := by
  have e : spec_l1In.f (l.length : Int) 1 6 = some (decide (1 ≤ (l.length : Int) ∧ (l.length : Int) ≤ 6)) := by
    unfold spec_l1In.f
    by_cases h : (l.length : Int) ≥ 1
    · rw [if_pos h]; congr 1; simp; omega
    · rw [if_neg h]; congr 1; simp; omega
  unfold spec_spNetwork.f netB
  refine Ev.have e ?_
  by_cases hn : 1 ≤ (l.length : Int) ∧ (l.length : Int) ≤ 6
  · rw [decide_eq_true hn, Bool.true_and]
    refine Ev.pos rfl ?_
    exact loop_if (L := fun k i => spec_spNetwork.l0 k l l (l.length : Int) i) l.length (fun i => decide (((l.getD i []).length : Int) = (l.length : Int))) _
      (fun h => Ev.step (fun _ => spec_spNetwork.l0.eq_2 ..) (Ev.neg (by omega) (spAll_ l hl (by omega) (rows_at h))))
      (fun i hi hp r ih => by
        rw [← wrap_succ (by omega)] at ih
        exact Ev.step (fun _ => spec_spNetwork.l0.eq_2 ..) (Ev.pos (by omega) (Ev.pos (by omega) (Ev.pos (by omega) (Ev.pos (of_decide_eq_true hp) ih)))))
      (fun i hi hp => Ev.step (fun _ => spec_spNetwork.l0.eq_2 ..) (Ev.pos (by omega) (Ev.pos (by omega) (Ev.pos (by omega) (Ev.neg (of_decide_eq_false hp) (Ev.some rfl))))))
  · rw [decide_eq_false hn, Bool.false_and]
    exact Ev.neg (by decide) (Ev.some rfl)
theorem any_rows (l : Net) : (!l.any (fun x => !decide (x.length = l.length))) = rowsB l := by
  unfold rowsB
  rw [Bool.eq_iff_iff, Bool.not_eq_true', List.any_eq_false, List.all_eq_true]
  constructor
  · intro h i hi
    have hi := List.mem_range.1 hi
    have h1 := h _ (get_mem l i hi)
    have h2 : (l.getD i []).length = l.length := by
      by_cases e : (l.getD i []).length = l.length
      · exact e
      · exact absurd (by rw [decide_eq_false e]; rfl) h1
    exact decide_eq_true (by omega)
  · intro h x hx
    obtain ⟨i, hi, rfl⟩ := List.getElem_of_mem hx
    have h1 := of_decide_eq_true (h i (List.mem_range.2 hi))
    rw [List.getD_eq_getElem?_getD, List.getElem?_eq_getElem hi] at h1
    have h2 : ((l[i]).length : Int) = (l.length : Int) := h1
    rw [decide_eq_true (show (l[i]).length = l.length by omega)]
    decide
theorem isNetwork_ (l : Net) (hl : Given l) : Ev (fun k => impl_IsNetwork.f k l) (netB l) := by
  have e : impl_within.f (l.length : Int) 1 6 = some (decide (1 ≤ (l.length : Int) ∧ (l.length : Int) ≤ 6)) := by
    unfold impl_within.f
    by_cases h : (l.length : Int) ≥ 1
    · rw [if_pos h]; congr 1; simp; omega
    · rw [if_neg h]; congr 1; simp; omega
  unfold impl_IsNetwork.f netB
  refine Ev.have e ?_
  by_cases hn : 1 ≤ (l.length : Int) ∧ (l.length : Int) ≤ 6
  · rw [decide_eq_true hn, Bool.true_and]
    refine Ev.pos rfl ?_
    have e2 : impl_allOf_int.f l = some (rowsB l) := by rw [← any_rows]; rfl
    refine Ev.have e2 ?_
    by_cases h : rowsB l = true
    · rw [h, Bool.true_and]
      exact Ev.step (fun _ => impl_IsNetwork.j0.eq_2 ..) (Ev.neg (by decide) (implAll_ l hl (by omega) (fun i hi => of_decide_eq_true (List.all_eq_true.1 h i (List.mem_range.2 hi)))))
    · rw [Bool.eq_false_iff.2 h, Bool.false_and]
      exact Ev.step (fun _ => impl_IsNetwork.j0.eq_2 ..) (Ev.pos rfl (Ev.some rfl))
  · rw [decide_eq_false hn, Bool.false_and]
    refine Ev.neg (by decide) ?_
    exact Ev.step (fun _ => impl_IsNetwork.j0.eq_2 ..) (Ev.pos rfl (Ev.some rfl))
end Go.Proofs.Ytgapcmmhbegdeaa.MNet
end
