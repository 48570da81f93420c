/- AddPerson of the program returns what that of the reference returns, for all lists of people and all persons, and in memory of its own; no condition beyond what every row's reading gives. -/
import Derived.Test.YtmllkdgdkagkkaaG0
import Derived.Test.YtmllkdgdkagkkaaG23
import Derived.Test.YtmllkdgdkagkkaaG26
import Derived.Test.YtmllkdgdkagkkaaG66
import Derived.Test.YtmllkdgdkagkkaaG67
import Derived.Test.YtmllkdgdkagkkaaG68
import Derived.Test.YtmllkdgdkagkkaaG69
import Derived.Test.YtmllkdgdkagkkaaMAll
namespace Go.Proofs.Ytmllkdgdkagkkaa.Pure
open Go.RowKit Go.Proofs.Ytmllkdgdkagkkaa.G Go.Proofs.YtmllkdgdkagkkaaW.PrintWords Go.Proofs.YtmllkdgdkagkkaaW.PrintLast Go.Proofs.Ytmllkdgdkagkkaa.MPure Go.Proofs.Ytmllkdgdkagkkaa.MWord Go.Proofs.Ytmllkdgdkagkkaa.MPerson Go.Proofs.Ytmllkdgdkagkkaa.MMarkPP

/-! ### texts in order -/
theorem less_trans : ∀ a b c : List UInt8, Op.bytesLess a b = true → Op.bytesLess b c = true → Op.bytesLess a c = true
  | _, _, [], _, h => by simp [Op.bytesLess] at h
  | a, [], c :: cs, h, _ => by simp [Op.bytesLess] at h
  | [], b :: bs, c :: cs, _, _ => rfl
  | a :: xs, b :: ys, c :: zs, h1, h2 => by
    simp only [Op.bytesLess, Bool.or_eq_true, Bool.and_eq_true, decide_eq_true_eq, beq_iff_eq] at h1 h2 ⊢
    rcases h1 with h1 | ⟨rfl, h1⟩
    · rcases h2 with h2 | ⟨rfl, _⟩
      · exact Or.inl (UInt8.lt_trans h1 h2)
      · exact Or.inl h1
    · rcases h2 with h2 | ⟨rfl, h2⟩
      · exact Or.inl h2
      · exact Or.inr ⟨rfl, less_trans xs ys zs h1 h2⟩
theorem cmp_neg : ∀ a b : List UInt8, decide (Lib.compareBytes a b < 0) = Op.bytesLess a b
  | [], [] => rfl
  | [], _ :: _ => rfl
  | _ :: _, [] => rfl
  | a :: xs, b :: ys => by
    have ih := cmp_neg xs ys
    unfold Lib.compareBytes Op.bytesLess
    by_cases h1 : a < b
    · rw [if_pos h1, decide_eq_true h1]; rfl
    · rw [if_neg h1, decide_eq_false h1, Bool.false_or]
      by_cases h2 : b < a
      · have h3 : (a == b) = false := beq_eq_false_iff_ne.2 (fun e => by subst e; exact h1 h2)
        rw [if_pos h2, h3]; rfl
      · have h3 : a = b := UInt8.le_antisymm (UInt8.not_lt.1 h2) (UInt8.not_lt.1 h1)
        subst h3
        rw [if_neg h2, ih]
        simp
/-- Whether a person's name stands before another one's. -/
def bef (x y : PI) : Bool := Op.bytesLess x.f0.toList y.f0.toList
theorem bef_trans {x y z : PI} (h1 : bef x y = true) (h2 : bef y z = true) : bef x z = true := less_trans _ _ _ h1 h2
theorem bef_asymm {x y : PI} (h : bef x y = true) : bef y x = false := by
  have ht := less_total x.f0.toList y.f0.toList
  unfold bef at h ⊢
  rw [h, Bool.true_or] at ht
  cases hq : Op.bytesLess y.f0.toList x.f0.toList with
  | false => rfl
  | true => rw [hq] at ht; cases ht
theorem lit_ (x y : PI) : impl_AddPersonLit1.f x.f0 x.f1 x.f2 x.f3 y.f0 y.f1 y.f2 y.f3 = some (Lib.compareBytes x.f0.data.toList y.f0.data.toList) := rfl
theorem lit_neg (x y : PI) : (Lib.compareBytes x.f0.data.toList y.f0.data.toList < 0) ↔ bef x y = true := by
  have h := cmp_neg x.f0.data.toList y.f0.data.toList
  unfold bef
  rw [ByteArray.toList_eq, ByteArray.toList_eq, ← h, decide_eq_true_eq]
/-! ### people -/
theorem atP_get {l : List PI} {i : Nat} (h : i < l.length) : atP l i = l[i] := by
  unfold atP
  rw [List.getD_eq_getElem?_getD, List.getElem?_eq_getElem h]
  rfl
theorem people_at {l : List PI} (h : peopleB l = true) {i : Nat} (hi : i < l.length) : personB (atP l i).f0 (atP l i).f1 (atP l i).f2 (atP l i).f3 = true ∧ (i = 0 ∨ bef (atP l (i - 1)) (atP l i) = true) := by
  unfold peopleB at h
  simp only [Bool.and_eq_true, List.all_eq_true, List.mem_range] at h
  have := h.1 i hi
  unfold peopleP at this
  simp only [Bool.and_eq_true, Bool.or_eq_true, decide_eq_true_eq] at this
  exact this
theorem people_len {l : List PI} (h : peopleB l = true) : l.length ≤ 10 := by
  unfold peopleB at h
  simp only [Bool.and_eq_true, decide_eq_true_eq] at h
  omega
theorem people_lt {l : List PI} (h : peopleB l = true) : ∀ d i : Nat, i + d + 1 < l.length → bef (atP l i) (atP l (i + d + 1)) = true := by
  intro d
  induction d with
  | zero =>
    intro i hi
    have := (people_at h hi).2
    rcases this with h0 | h0
    · omega
    · exact h0
  | succ d ih =>
    intro i hi
    have h1 := ih i (by omega)
    have h2 := (people_at h hi).2
    rcases h2 with h0 | h0
    · omega
    · exact bef_trans h1 h0
theorem people_before {l : List PI} (h : peopleB l = true) {i j : Nat} (hij : i < j) (hj : j < l.length) : bef (atP l i) (atP l j) = true := by
  have := people_lt h (j - i - 1) i (by omega)
  rwa [show i + (j - i - 1) + 1 = j by omega] at this
/-- A person put in at a place. -/
def ins (l : List PI) (j : Nat) (p : PI) : List PI := l.take j ++ p :: l.drop j
theorem ins_length (l : List PI) (j : Nat) (p : PI) (h : j ≤ l.length) : (ins l j p).length = l.length + 1 := by
  unfold ins
  rw [List.length_append, List.length_cons, List.length_take, List.length_drop]
  omega
theorem ins_at (l : List PI) (j : Nat) (p : PI) (h : j ≤ l.length) (i : Nat) : atP (ins l j p) i = if i < j then atP l i else if i = j then p else atP l (i - 1) := by
  have ht : (l.take j).length = j := by rw [List.length_take]; omega
  unfold atP ins
  rw [List.getD_eq_getElem?_getD]
  by_cases c : i < j
  · rw [if_pos c, List.getElem?_append_left (by omega), List.getElem?_take, if_pos c, ← List.getD_eq_getElem?_getD]
  · rw [if_neg c, List.getElem?_append_right (by omega), ht]
    by_cases c2 : i = j
    · rw [if_pos c2, c2, Nat.sub_self]; rfl
    · rw [if_neg c2, show i - j = (i - j - 1) + 1 by omega, List.getElem?_cons_succ, List.getElem?_drop, List.getD_eq_getElem?_getD, show j + (i - j - 1) = i - 1 by omega]
theorem ins_sized (l : List PI) (hl : SizedP l) (j : Nat) (p : PI) (hp : p.f0.size ≤ 140737488351232) (hj : j ≤ l.length) (h : l.length ≤ 1000) : SizedP (ins l j p) := by
  refine ⟨by rw [ins_length l j p hj]; omega, fun x hx => ?_⟩
  unfold ins at hx
  rcases List.mem_append.1 hx with hx | hx
  · exact hl.2 x (List.mem_of_mem_take hx)
  · rcases List.mem_cons.1 hx with rfl | hx
    · exact hp
    · exact hl.2 x (List.mem_of_mem_drop hx)
/-- The reference's place: behind all that stand before. -/
def plc (p : PI) : List PI → Nat
  | [] => 0
  | x :: l => if bef x p = true then plc p l + 1 else 0
theorem plc_le (p : PI) : ∀ l : List PI, plc p l ≤ l.length
  | [] => Nat.le_refl _
  | x :: l => by
    have := plc_le p l
    simp only [plc, List.length_cons]
    split <;> omega
theorem plc_take (p : PI) : ∀ (l : List PI) (i : Nat), i ≤ l.length → (∀ j, j < i → bef (atP l j) p = true) → (i < l.length → ¬ bef (atP l i) p = true) → plc p l = i
  | [], i, h, _, _ => by simp at h; simp [plc, h]
  | x :: l, 0, _, _, h3 => by
    have : ¬ bef x p = true := h3 (by simp)
    simp [plc, this]
  | x :: l, i + 1, h1, h2, h3 => by
    have h0 : bef x p = true := h2 0 (by omega)
    have ih := plc_take p l i (by simpa using h1) (fun j hj => h2 (j + 1) (by omega)) (fun h => h3 (by simpa using h))
    simp [plc, h0, ih]
theorem plc_low (p : PI) : ∀ (l : List PI) (i : Nat), i < plc p l → bef (atP l i) p = true
  | [], i, h => by simp [plc] at h
  | x :: l, i, h => by
    simp only [plc] at h
    by_cases c : bef x p = true
    · rw [if_pos c] at h
      cases i with
      | zero => exact c
      | succ i => exact plc_low p l i (by omega)
    · rw [if_neg c] at h; omega
theorem plc_high (p : PI) : ∀ (l : List PI), plc p l < l.length → bef (atP l (plc p l)) p = false
  | [], h => by simp at h
  | x :: l, h => by
    simp only [plc] at h ⊢
    by_cases c : bef x p = true
    · rw [if_pos c] at h ⊢
      exact plc_high p l (by simpa using h)
    · rw [if_neg c]
      exact Bool.eq_false_iff.2 c
/-- The program's place: the person goes back past all that it stands before. -/
def back (l : List PI) (p : PI) : Nat → Nat
  | 0 => 0
  | j + 1 => if bef p (atP l j) = true then back l p j else j + 1
theorem back_le (l : List PI) (p : PI) : ∀ j, back l p j ≤ j
  | 0 => Nat.le_refl _
  | j + 1 => by
    have := back_le l p j
    simp only [back]
    split <;> omega
theorem back_high (l : List PI) (p : PI) : ∀ j i, back l p j ≤ i → i < j → bef p (atP l i) = true
  | 0, i, _, h => absurd h (Nat.not_lt_zero _)
  | j + 1, i, h1, h2 => by
    simp only [back] at h1
    by_cases c : bef p (atP l j) = true
    · rw [if_pos c] at h1
      by_cases e : i = j
      · rw [e]; exact c
      · exact back_high l p j i h1 (by omega)
    · rw [if_neg c] at h1; omega
theorem back_low (l : List PI) (p : PI) : ∀ j, 0 < back l p j → bef p (atP l (back l p j - 1)) = false
  | 0, h => absurd h (Nat.not_lt_zero _)
  | j + 1, h => by
    simp only [back] at h ⊢
    by_cases c : bef p (atP l j) = true
    · rw [if_pos c] at h ⊢
      exact back_low l p j h
    · rw [if_neg c, Nat.add_sub_cancel]
      exact Bool.eq_false_iff.2 c
/-- At most one of the two places gives people, and then it is both. -/
theorem both_places (l : List PI) (p : PI) (h : peopleB l = true) : back l p l.length = plc p l ∨ (peopleB (ins l (plc p l) p) = false ∧ peopleB (ins l (back l p l.length) p) = false) := by
  have k1 := plc_le p l
  have k2 := back_le l p l.length
  rcases Nat.lt_trichotomy (plc p l) (back l p l.length) with c | c | c
  · right
    have hlo := back_low l p l.length (by omega)
    have hhi := plc_high p l (by omega)
    constructor
    · rw [Bool.eq_false_iff]
      intro hb
      have h1 := (people_at hb (show plc p l + 1 < (ins l (plc p l) p).length by rw [ins_length l _ p k1]; omega)).2
      rcases h1 with h1 | h1
      · omega
      · rw [ins_at l _ p k1, ins_at l _ p k1, Nat.add_sub_cancel, if_neg (Nat.lt_irrefl _), if_pos rfl, if_neg (by omega), if_neg (by omega)] at h1
        by_cases e : plc p l = back l p l.length - 1
        · rw [← e, h1] at hlo; cases hlo
        · have h2 := people_before h (show plc p l < back l p l.length - 1 by omega) (by omega)
          rw [bef_trans h1 h2] at hlo; cases hlo
    · rw [Bool.eq_false_iff]
      intro hb
      have h1 := (people_at hb (show back l p l.length < (ins l (back l p l.length) p).length by rw [ins_length l _ p k2]; omega)).2
      rcases h1 with h1 | h1
      · omega
      · rw [ins_at l _ p k2, ins_at l _ p k2, if_pos (by omega), if_neg (Nat.lt_irrefl _), if_pos rfl] at h1
        by_cases e : plc p l = back l p l.length - 1
        · rw [← e, hhi] at h1; cases h1
        · have h2 := people_before h (show plc p l < back l p l.length - 1 by omega) (by omega)
          rw [bef_trans h2 h1] at hhi; cases hhi
  · exact Or.inl c.symm
  · exfalso
    have h1 := plc_low p l _ c
    have h2 := back_high l p l.length _ (Nat.le_refl _) (by omega)
    rw [bef_asymm h2] at h1
    cases h1
/-! ### the sort -/
theorem rdP (x : List PI) (i : Nat) : rd_T76 x (i : Int) = atP x i := rfl
theorem swap_ins (l : List PI) (p : PI) (j : Nat) (h : j < l.length) : ((ins l (j + 1) p).set (j + 1) (atP l j)).set j p = ins l j p := by
  have ht : (l.take j).length = j := by rw [List.length_take]; omega
  have e1 : ins l (j + 1) p = l.take j ++ (atP l j :: p :: l.drop (j + 1)) := by
    unfold ins
    rw [List.take_succ_eq_append_getElem h, List.append_assoc, ← atP_get h]
    rfl
  have e2 : ins l j p = l.take j ++ (p :: atP l j :: l.drop (j + 1)) := by
    unfold ins
    rw [List.drop_eq_getElem_cons h, ← atP_get h]
  rw [e1, e2, List.set_append_right _ _ (by omega), List.set_append_right _ _ (by omega), ht, Nat.sub_self, show j + 1 - j = 1 by omega]
  rfl
/-- The last person goes to its place. -/
theorem last_back (l : List PI) (p : PI) (hl : l.length ≤ 1000) : ∀ j : Nat, j ≤ l.length → Ev (fun k => slices_insertionSortCmpFunc_Person.l1 k (ins l j p) 0 ((l.length + 1 : Nat) : Int) ((l.length : Nat) : Int) (j : Int)) (ins l (back l p j) p) := by
  have hend : ∀ j, Ev (fun k => slices_insertionSortCmpFunc_Person.l0 k (ins l j p) 0 ((l.length + 1 : Nat) : Int) (wrap64 (((l.length : Nat) : Int) + 1))) (ins l j p) := fun j => by
    rw [wrap_succ (by omega)]
    exact Ev.step (fun _ => slices_insertionSortCmpFunc_Person.l0.eq_2 ..) (Ev.neg (by omega) (Ev.some rfl))
  intro j
  induction j with
  | zero =>
    intro _
    exact Ev.step (fun _ => slices_insertionSortCmpFunc_Person.l1.eq_2 ..) (Ev.neg (by omega) (hend 0))
  | succ j ih =>
    intro hj
    have hlen := ins_length l (j + 1) p hj
    have w : wrap64 (((j + 1 : Nat) : Int) - 1) = (j : Int) := by rw [wrap_pred (by omega) (by omega)]; rfl
    refine Ev.step (fun _ => slices_insertionSortCmpFunc_Person.l1.eq_2 ..) (Ev.pos (by omega) ?_)
    rw [w]
    refine Ev.pos (by omega) (Ev.pos (by omega) (Ev.pos (by omega) (Ev.pos (by omega) ?_)))
    rw [rdP, rdP, ins_at l _ p hj, ins_at l _ p hj, if_neg (Nat.lt_irrefl _), if_pos rfl, if_pos (Nat.lt_succ_self j)]
    refine Ev.have (lit_ p (atP l j)) ?_
    simp only [back]
    by_cases c : bef p (atP l j) = true
    · rw [if_pos c]
      refine Ev.pos ((lit_neg _ _).2 c) ?_
      have := ih (by omega)
      rw [← swap_ins l p j (by omega)] at this
      exact this
    · rw [if_neg c]
      exact Ev.neg (fun q => c ((lit_neg _ _).1 q)) (hend (j + 1))
theorem sorted_on (l : List PI) (p : PI) (h : peopleB l = true) : ∀ d i : Nat, i + d = l.length → 1 ≤ i → Ev (fun k => slices_insertionSortCmpFunc_Person.l0 k (ins l l.length p) 0 ((l.length + 1 : Nat) : Int) (i : Int)) (ins l (back l p l.length) p) := by
  have hl := people_len h
  have hlen := ins_length l l.length p (Nat.le_refl _)
  intro d
  induction d with
  | zero =>
    intro i hi h1
    obtain rfl : i = l.length := by omega
    exact Ev.step (fun _ => slices_insertionSortCmpFunc_Person.l0.eq_2 ..) (Ev.pos (by omega) (last_back l p (by omega) l.length (Nat.le_refl _)))
  | succ d ih =>
    intro i hi h1
    have hs := ih (i + 1) (by omega) (by omega)
    have hw1 : wrap64 ((i : Int) + 1) = ((i + 1 : Nat) : Int) := wrap_succ (by omega)
    rw [← hw1] at hs
    have w : wrap64 ((i : Int) - 1) = ((i - 1 : Nat) : Int) := wrap_pred (by omega) (by omega)
    have hb : bef (atP l i) (atP l (i - 1)) = false := bef_asymm (people_before h (show i - 1 < i by omega) (by omega))
    refine Ev.step (fun _ => slices_insertionSortCmpFunc_Person.l0.eq_2 ..) (Ev.pos (by omega) (Ev.step (fun _ => slices_insertionSortCmpFunc_Person.l1.eq_2 ..) (Ev.pos (by omega) ?_)))
    rw [w]
    refine Ev.pos (by omega) (Ev.pos (by omega) (Ev.pos (by omega) (Ev.pos (by omega) ?_)))
    rw [rdP, rdP, ins_at l _ p (Nat.le_refl _), ins_at l _ p (Nat.le_refl _), if_pos (show i < l.length by omega), if_pos (show i - 1 < l.length by omega)]
    exact Ev.have (lit_ _ _) (Ev.neg (fun q => by rw [(lit_neg _ _).1 q] at hb; cases hb) hs)
theorem Sort_ (l : List PI) (p : PI) (h : peopleB l = true) : Ev (fun k => slices_SortFunc_Person.f k (l ++ [p])) (ins l (back l p l.length) p) := by
  have hl := people_len h
  have e : l ++ [p] = ins l l.length p := by unfold ins; rw [List.take_length, List.drop_length]
  have hlen := ins_length l l.length p (Nat.le_refl _)
  rw [e]
  unfold slices_SortFunc_Person.f slices_pdqsortCmpFunc_Person.f slices_insertionSortCmpFunc_Person.f bits_Len.f
  rw [hlen]
  have hu : IntKind.u64.wrap ((l.length + 1 : Nat) : Int) = ((l.length + 1 : Nat) : Int) := by unfold IntKind.wrap; simp [IntKind.bits, IntKind.signed]; omega
  rw [hu, if_pos ⟨by omega, by omega⟩]
  refine Ev.have rfl ?_
  have hw : wrap64 (((l.length + 1 : Nat) : Int) - 0) ≤ 12 := by rw [wrap_in (by omega) (by omega)]; omega
  refine Ev.bind (a := ins l (back l p l.length) p) (Ev.pos hw ?_) (Ev.some rfl)
  rw [show wrap64 (0 + 1) = ((1 : Nat) : Int) by unfold wrap64; omega]
  by_cases c : l.length = 0
  · have hb : back l p l.length = l.length := by rw [c]; rfl
    rw [hb]
    exact Ev.step (fun _ => slices_insertionSortCmpFunc_Person.l0.eq_2 ..) (Ev.neg (by omega) (Ev.some rfl))
  · exact sorted_on l p h (l.length - 1) 1 (by omega) (Nat.le_refl _)
/-! ### the law -/
def peoR (r : List PI) : List PI × Bool := if peopleB r = true then (r, true) else ([], false)
def addR (l : List PI) (p : PI) : List PI × Bool := if peopleB l = true then peoR (ins l (plc p l) p) else ([], false)
theorem no_person (l : List PI) (j : Nat) (p : PI) (hj : j ≤ l.length) (hp : personB p.f0 p.f1 p.f2 p.f3 = false) : peopleB (ins l j p) = false := by
  rw [Bool.eq_false_iff]
  intro h
  have h1 := (people_at h (show j < (ins l j p).length by rw [ins_length l j p hj]; omega)).1
  rw [ins_at l j p hj, if_neg (Nat.lt_irrefl _), if_pos rfl, hp] at h1
  cases h1
theorem Add_i (l : List PI) (hl : SizedP l) (p : PI) (hp : p.f0.size ≤ 140737488351232) : Ev (fun k => impl_AddPerson.f k l p.f0 p.f1 p.f2 p.f3) (addR l p) := by
  have hj : ∀ z, z = ([], false) → Ev (fun k => impl_AddPerson.j0 k l true p.f0 p.f1 p.f2 p.f3) z := fun z hz => Ev.step (fun _ => impl_AddPerson.j0.eq_2 ..) (Ev.pos rfl (Ev.some hz.symm))
  have k1 := plc_le p l
  have k2 := back_le l p l.length
  unfold impl_AddPerson.f addR
  refine Ev.bind (ArePeople_ l hl) (Ev.ite (fun h1 => ?_) (fun h1 => hj _ (by rw [if_neg h1])))
  have hn := people_len h1
  rw [if_pos h1]
  refine Ev.bind (IsPerson_ p.f0 p.f1 p.f2 p.f3 hp) ?_
  cases hq : personB p.f0 p.f1 p.f2 p.f3 with
  | false => exact hj _ (by unfold peoR; rw [if_neg (by rw [no_person l _ p k1 hq]; simp)])
  | true =>
    have hc : slices_Clone_Person.f l = some l := by
      unfold slices_Clone_Person.f
      rw [if_pos (by omega)]
    have hs := Sort_ l p h1
    have ha := ArePeople_ _ (ins_sized l hl (back l p l.length) p hp k2 (by omega))
    refine Ev.step (fun _ => impl_AddPerson.j0.eq_2 ..) (Ev.neg (by simp) (Ev.have hc (Ev.have rfl (Ev.pos (by simp; omega) (Ev.bind hs (Ev.bind ha ?_))))))
    unfold peoR
    rcases both_places l p h1 with hb | ⟨b1, b2⟩
    · rw [hb]
      exact Ev.ite (fun h => Ev.some (by rw [if_pos h])) (fun h => Ev.some (by rw [if_neg h]))
    · exact Ev.neg (by rw [b2]; exact Bool.false_ne_true) (Ev.some (by rw [if_neg (by rw [b1]; exact Bool.false_ne_true)]))
theorem Add_s (l : List PI) (hl : SizedP l) (p : PI) (hp : p.f0.size ≤ 140737488351232) : Ev (fun k => spec_AddPerson.f k l p.f0 p.f1 p.f2 p.f3) (addR l p) := by
  unfold spec_AddPerson.f addR
  refine Ev.bind (naGood_ l hl) (Ev.ite (fun h1 => ?_) (fun h1 => Ev.some (by rw [if_neg h1])))
  have hn := people_len h1
  rw [if_pos h1]
  have hg := naGood_ _ (ins_sized l hl (plc p l) p hp (plc_le p l) (by omega))
  have key : ∀ d i : Nat, i + d = l.length → (∀ j, j < i → bef (atP l j) p = true) → Ev (fun k => spec_AddPerson.l0 k l (i : Int) p.f0 p.f1 p.f2 p.f3) (peoR (ins l (plc p l) p)) := by
    intro d
    induction d with
    | zero =>
      intro i hi h
      have e := plc_take p l i (by omega) h (fun h => by omega)
      have ht : (l.take ((i : Int)).toNat).length = i := by rw [List.length_take]; omega
      have hd : (l.drop ((i : Int)).toNat).length = l.length - i := by rw [List.length_drop]; omega
      rw [e] at hg ⊢
      have ei : [] ++ l.take ((i : Int)).toNat ++ [(⟨p.f0, p.f1, p.f2, p.f3⟩ : PI)] ++ l.drop ((i : Int)).toNat = ins l i p := by
        unfold ins
        rw [List.nil_append, List.append_assoc]
        rfl
      rw [← ei] at hg ⊢
      refine Ev.step (fun _ => spec_AddPerson.l0.eq_2 ..) (Ev.neg (by omega) (Ev.have rfl (Ev.pos (by omega) (Ev.pos (by omega) (Ev.have rfl (Ev.pos ?_ (Ev.have rfl (Ev.have rfl (Ev.pos ?_ (Ev.have rfl (Ev.have rfl (Ev.pos ?_ (Ev.have rfl (Ev.bind hg ?_))))))))))))))
      · simp only [List.length_nil]; omega
      · simp only [List.nil_append, List.length_cons, List.length_nil]; omega
      · simp only [List.nil_append, List.length_append, List.length_cons, List.length_nil]; omega
      · exact Ev.ite (fun h => Ev.some (by unfold peoR; rw [if_pos h])) (fun h => Ev.some (by unfold peoR; rw [if_neg h]))
    | succ d ih =>
      intro i hi h
      by_cases c : bef (atP l i) p = true
      · have h2 := ih (i + 1) (by omega) (fun j hj => by
          by_cases e : j = i
          · rw [e]; exact c
          · exact h j (by omega))
        rw [← wrap_succ (by omega)] at h2
        exact Ev.step (fun _ => spec_AddPerson.l0.eq_2 ..) (Ev.pos (by omega) (Ev.pos (by omega) (Ev.pos c h2)))
      · have e := plc_take p l i (by omega) h (fun _ => c)
        have ht : (l.take ((i : Int)).toNat).length = i := by rw [List.length_take]; omega
        have hd : (l.drop ((i : Int)).toNat).length = l.length - i := by rw [List.length_drop]; omega
        rw [e] at hg ⊢
        have ei : [] ++ l.take ((i : Int)).toNat ++ [(⟨p.f0, p.f1, p.f2, p.f3⟩ : PI)] ++ l.drop ((i : Int)).toNat = ins l i p := by
          unfold ins
          rw [List.nil_append, List.append_assoc]
          rfl
        rw [← ei] at hg ⊢
        refine Ev.step (fun _ => spec_AddPerson.l0.eq_2 ..) (Ev.pos (by omega) (Ev.pos (by omega) (Ev.neg c (Ev.have rfl (Ev.pos (by omega) (Ev.have rfl (Ev.pos ?_ (Ev.have rfl (Ev.have rfl (Ev.pos ?_ (Ev.have rfl (Ev.have rfl (Ev.pos ?_ (Ev.have rfl (Ev.bind hg ?_)))))))))))))))
        · simp only [List.length_nil]; omega
        · simp only [List.nil_append, List.length_cons, List.length_nil]; omega
        · simp only [List.nil_append, List.length_append, List.length_cons, List.length_nil]; omega
        · exact Ev.ite (fun h => Ev.some (by unfold peoR; rw [if_pos h])) (fun h => Ev.some (by unfold peoR; rw [if_neg h]))
  exact key l.length 0 (by omega) (fun j hj => absurd hj (Nat.not_lt_zero _))
theorem addR_length (l : List PI) (p : PI) : (addR l p).1.length ≤ l.length + 1 := by
  unfold addR peoR
  split
  · split
    · show (ins l (plc p l) p).length ≤ _
      rw [ins_length l _ p (plc_le p l)]; exact Nat.le_refl _
    · exact Nat.zero_le _
  · exact Nat.zero_le _
theorem FnExactAddPerson : laws_FnExactAddPerson.Pure := by
  intro l g a b c hl hg _ _ _
  obtain ⟨z, hz, hz1, hz2⟩ := szPersonS_ l hl 1048576 (by omega) (by omega)
  have ht := toPersonS_ l hl.2
  have hsz := GivenP.sized hl
  have hl2 : (l.map convP).length ≤ 4398046511104 := by rw [List.length_map]; have := hl.2; omega
  have h1 := Add_s _ hsz ⟨g, a, b, c⟩ hg
  have h2 := Add_i _ hsz ⟨g, a, b, c⟩ hg
  have hr := addR_length (l.map convP) ⟨g, a, b, c⟩
  generalize addR (l.map convP) ⟨g, a, b, c⟩ = r at h1 h2 hr
  obtain ⟨r, q⟩ := r
  have hr2 : r.length ≤ 4398046511105 := Nat.le_trans hr (by omega)
  have he := eqPersonS_ r (by omega)
  have hx := eqPersonS_ _ hsz.1
  have hmx := markPersonS_ (l.map convP) (by omega) 1 (by omega) (by omega)
  have hmr := markPersonS_ r (by omega) 1 (by omega) (by omega)
  have hh := heldPersonS_ r.length (by omega) 1 (by omega) (by omega)
  refine Ev.rounds (Ev.bind hz (Ev.ite (fun _ => Ev.some rfl) (fun hneg => ?_)))
  have hzn := szPerson_ g a b c hg z (by omega) (by omega)
  refine Ev.have hzn (Ev.ite (fun _ => Ev.some rfl) (fun _ => ?_))
  refine Ev.bind ht (Ev.have rfl (Ev.bind h1 (Ev.bind ht (Ev.have rfl (Ev.bind h2 (Ev.bind he (Ev.pos rfl ?_)))))))
  refine Ev.step (fun _ => laws_FnExactAddPerson.j0.eq_2 ..) (Ev.neg (by simp) (Ev.bind ht (Ev.bind hx (Ev.pos rfl (Ev.bind hmx (Ev.neg (by simp; omega) (Ev.bind he (Ev.pos rfl ?_))))))))
  refine Ev.step (fun _ => laws_FnExactAddPerson.j1.eq_2 ..) (Ev.neg (by simp) (Ev.bind hmr (Ev.bind hh (Ev.neg (by omega) (Ev.pos rfl (Ev.bind ht (Ev.have rfl (Ev.bind h2 (Ev.bind he (Ev.pos rfl ?_))))))))))
  exact Ev.step (fun _ => laws_FnExactAddPerson.j2.eq_2 ..) (Ev.neg (by simp) (Ev.bind hh (Ev.neg (by omega) (Ev.pos rfl (Ev.some rfl)))))
end Go.Proofs.Ytmllkdgdkagkkaa.Pure
