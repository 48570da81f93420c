/- Who has to change: the reference's list, put together pair by pair, is the program's. -/
import Derived.Test.YtphjmmaeolbggaaG0
import Derived.Test.YtphjmmaeolbggaaG16
import Derived.Test.YtphjmmaeolbggaaG47
import Derived.Test.YtphjmmaeolbggaaMPerson
namespace Go.Proofs.Ytphjmmaeolbggaa.MChanges
open Go.RowKit Go.Proofs.Ytphjmmaeolbggaa.G Go.Proofs.YtphjmmaeolbggaaW.PrintWords Go.Proofs.YtphjmmaeolbggaaW.PrintLast Go.Proofs.Ytphjmmaeolbggaa.MPure Go.Proofs.Ytphjmmaeolbggaa.MWord Go.Proofs.Ytphjmmaeolbggaa.MPerson

theorem people_length {l : List PI} (h : peopleB l = true) : l.length ≤ 10 := by
  unfold peopleB at h
  simp only [Bool.and_eq_true, decide_eq_true_eq] at h
  omega
def cnd (l : List PI) (i k : Nat) : Bool := decide (k ≠ i ∧ ((atP l i).f1 = (atP l k).f1 ∧ (atP l i).f2 = (atP l k).f2) ∧ ((atP l k).f3 < (atP l i).f3 ∨ (atP l k).f3 = (atP l i).f3 ∧ k < i))
theorem atP_get {l : List PI} {i : Nat} (h : i < l.length) : atP l i = l[i] := by
  unfold atP
  rw [List.getD_eq_getElem?_getD, List.getElem?_eq_getElem h]
  rfl
theorem hit_eq (l : List PI) (i : Nat) (hi : i < l.length) : (List.range l.length).any (cnd l i) = impl_changes.hit l i := by
  rw [Bool.eq_iff_iff]
  unfold impl_changes.hit
  simp only [List.any_eq_true, List.mem_range, Bool.or_eq_true]
  constructor
  · rintro ⟨k, hk, hc⟩
    simp only [cnd, decide_eq_true_eq] at hc
    obtain ⟨c1, ⟨c2, c3⟩, c4⟩ := hc
    rcases Nat.lt_or_gt_of_ne c1 with h | h
    · left
      refine ⟨atP l k, ?_, ?_⟩
      · rw [List.mem_iff_getElem]
        exact ⟨k, by rw [List.length_take]; omega, by rw [List.getElem_take, atP_get hk]⟩
      · unfold impl_changes.older
        show (decide ((atP l k).f1 = (atP l i).f1 ∧ (atP l k).f2 = (atP l i).f2) && decide ((atP l k).f3 ≤ (atP l i).f3)) = true
        rw [Bool.and_eq_true, decide_eq_true_eq, decide_eq_true_eq]
        exact ⟨⟨c2.symm, c3.symm⟩, by omega⟩
    · right
      refine ⟨atP l k, ?_, ?_⟩
      · rw [List.mem_iff_getElem]
        exact ⟨k - (i + 1), by rw [List.length_drop]; omega, by rw [List.getElem_drop, atP_get hk]; congr 1; omega⟩
      · unfold impl_changes.later
        show (decide ((atP l k).f1 = (atP l i).f1 ∧ (atP l k).f2 = (atP l i).f2) && decide ((atP l k).f3 < (atP l i).f3)) = true
        rw [Bool.and_eq_true, decide_eq_true_eq, decide_eq_true_eq]
        exact ⟨⟨c2.symm, c3.symm⟩, by omega⟩
  · rintro (⟨x, hx, hc⟩ | ⟨x, hx, hc⟩)
    · obtain ⟨k, hk, rfl⟩ := List.mem_iff_getElem.1 hx
      rw [List.length_take] at hk
      rw [List.getElem_take] at hc
      have hk2 : k < l.length := by omega
      rw [← atP_get hk2] at hc
      have hc' : (decide ((atP l k).f1 = (atP l i).f1 ∧ (atP l k).f2 = (atP l i).f2) && decide ((atP l k).f3 ≤ (atP l i).f3)) = true := hc
      rw [Bool.and_eq_true, decide_eq_true_eq, decide_eq_true_eq] at hc'
      refine ⟨k, hk2, ?_⟩
      simp only [cnd, decide_eq_true_eq]
      exact ⟨by omega, ⟨hc'.1.1.symm, hc'.1.2.symm⟩, by omega⟩
    · obtain ⟨k, hk, rfl⟩ := List.mem_iff_getElem.1 hx
      rw [List.length_drop] at hk
      rw [List.getElem_drop] at hc
      have hk2 : i + 1 + k < l.length := by omega
      rw [← atP_get hk2] at hc
      have hc' : (decide ((atP l (i + 1 + k)).f1 = (atP l i).f1 ∧ (atP l (i + 1 + k)).f2 = (atP l i).f2) && decide ((atP l (i + 1 + k)).f3 < (atP l i).f3)) = true := hc
      rw [Bool.and_eq_true, decide_eq_true_eq, decide_eq_true_eq] at hc'
      refine ⟨i + 1 + k, hk2, ?_⟩
      simp only [cnd, decide_eq_true_eq]
      exact ⟨by omega, ⟨hc'.1.1.symm, hc'.1.2.symm⟩, by omega⟩
theorem upto_lt (l : List PI) : ∀ (n : Nat) (a : Int), a ∈ impl_changes.upto l n → 0 ≤ a ∧ a < (n : Int)
  | 0, a, h => by simp [impl_changes.upto] at h
  | n + 1, a, h => by
    rw [impl_changes.upto] at h
    split at h
    · rcases List.mem_append.1 h with h | h
      · have := upto_lt l n a h; omega
      · rw [List.mem_singleton.1 h]; omega
    · have := upto_lt l n a h; omega
/-- A number is put behind lesser ones; where it stands last, nothing happens. -/
theorem l1Put_ (L M : List Int) (a : Int) (hL : ∀ x, x ∈ L → x < a) (hM : M = [] ∨ M = [a]) (hl : L.length ≤ 1000000) : Ev (fun k => spec_l1Put.f k (L ++ M) a) (L ++ [a]) := by
  have key : ∀ d i : Nat, i + d = L.length → Ev (fun k => spec_l1Put.l0 k (L ++ M) a (i : Int)) (L ++ [a]) := by
    intro d
    induction d with
    | zero =>
      intro i hi
      obtain rfl : i = L.length := by omega
      rcases hM with rfl | rfl
      · rw [List.append_nil]
        have ht : (L.take ((L.length : Int)).toNat).length = L.length := by rw [List.length_take]; omega
        have hd : (L.drop ((L.length : Int)).toNat).length = 0 := by rw [List.length_drop]; omega
        refine Ev.step (fun _ => spec_l1Put.l0.eq_2 ..) (Ev.neg (by omega) (Ev.have rfl (Ev.pos (by omega) (Ev.pos (by omega) (Ev.have rfl (Ev.pos ?_ (Ev.have rfl (Ev.pos ?_ (Ev.have rfl (Ev.have rfl (Ev.pos ?_ (Ev.some ?_))))))))))))
        · simp only [List.length_nil]; omega
        · simp only [List.nil_append]; omega
        · simp only [List.nil_append, List.length_append, List.length_cons, List.length_nil]; omega
        · have e1 : L.take ((L.length : Int)).toNat = L := List.take_of_length_le (by omega)
          have e2 : L.drop ((L.length : Int)).toNat = [] := List.drop_eq_nil_of_le (by omega)
          rw [e1, e2, List.append_nil, List.nil_append]
      · have hr : rd (L ++ [a]) (L.length : Int) = a := by
          show (L ++ [a]).getD L.length 0 = a
          simp [List.getD_eq_getElem?_getD]
        have hlen : (L ++ [a]).length = L.length + 1 := by simp
        refine Ev.step (fun _ => spec_l1Put.l0.eq_2 ..) (Ev.pos (by rw [hlen]; omega) (Ev.pos (by omega) ?_))
        rw [hr]
        exact Ev.neg (by omega) (Ev.pos rfl (Ev.some rfl))
    | succ d ih =>
      intro i hi
      have h := ih (i + 1) (by omega)
      rw [← wrap_succ (by omega)] at h
      have hr : rd (L ++ M) (i : Int) = L[i]'(by omega) := by
        show (L ++ M).getD i 0 = _
        rw [List.getD_eq_getElem?_getD, List.getElem?_append_left (by omega), List.getElem?_eq_getElem (by omega)]
        rfl
      have hlt := hL (L[i]'(by omega)) (List.getElem_mem _)
      refine Ev.step (fun _ => spec_l1Put.l0.eq_2 ..) (Ev.pos (by rw [List.length_append]; omega) (Ev.pos (by omega) ?_))
      rw [hr]
      exact Ev.pos hlt h
  exact key L.length 0 (by omega)
def st (l : List PI) (i : Nat) (b : Bool) : List Int := impl_changes.upto l i ++ (if b then [(i : Int)] else [])
theorem put_st (l : List PI) (i : Nat) (hi : i ≤ 1000) (b : Bool) : Ev (fun k => spec_l1Put.f k (st l i b) (i : Int)) (st l i true) := by
  have h := l1Put_ (impl_changes.upto l i) (if b then [(i : Int)] else []) (i : Int) (fun x hx => (upto_lt l i x hx).2) (by cases b <;> simp) (by have := impl_changes.upto_length l i; omega)
  exact h
theorem naClash_ (x y : PI) : spec_naClash.f x.f0 x.f1 x.f2 x.f3 y.f0 y.f1 y.f2 y.f3 = some (decide (x.f1 = y.f1 ∧ x.f2 = y.f2)) := by
  unfold spec_naClash.f
  by_cases h : x.f1 = y.f1
  · rw [if_pos h]; simp [h, Bool.beq_eq_decide_eq]
  · rw [if_neg h]; simp [h]
theorem cinner (l : List PI) (hl : l.length ≤ 1000) (i : Nat) (hi : i < l.length) (R : List Int) (hn : Ev (fun k => spec_naChanges.l0 k l (impl_changes.upto l (i + 1)) l (l.length : Int) ((i + 1 : Nat) : Int)) R) : ∀ d k : Nat, k + d = l.length → ∀ b : Bool, b = (List.range k).any (cnd l i) →
    Ev (fun n => spec_naChanges.l1 n l (st l i b) (i : Int) l (l.length : Int) (i : Int) l (l.length : Int) (k : Int) (rd_T69 l (i : Int)).f0 (rd_T69 l (i : Int)).f1 (rd_T69 l (i : Int)).f2 (rd_T69 l (i : Int)).f3) R := by
  intro d
  induction d with
  | zero =>
    intro k hk b hb
    obtain rfl : k = l.length := by omega
    rw [hit_eq l i hi] at hb
    have e : st l i b = impl_changes.upto l (i + 1) := by
      unfold st
      rw [impl_changes.upto, hb]
      cases impl_changes.hit l i <;> simp
    rw [e, ← wrap_succ (by omega)] at *
    exact Ev.step (fun _ => spec_naChanges.l1.eq_2 ..) (Ev.neg (by omega) hn)
  | succ d ih =>
    intro k hk b hb
    have hrange : (List.range (k + 1)).any (cnd l i) = (b || cnd l i k) := by rw [List.range_succ, List.any_append, ← hb]; simp
    have hput := put_st l i (by omega) b
    have hs := naClash_ (rd_T69 l (i : Int)) (rd_T69 l (k : Int))
    have yes : cnd l i k = true → Ev (fun n => spec_naChanges.l1 n l (st l i true) (i : Int) l (l.length : Int) (i : Int) l (l.length : Int) (wrap64 ((k : Int) + 1)) (rd_T69 l (i : Int)).f0 (rd_T69 l (i : Int)).f1 (rd_T69 l (i : Int)).f2 (rd_T69 l (i : Int)).f3) R := by
      intro hc
      rw [wrap_succ (by omega)]
      exact ih (k + 1) (by omega) true (by rw [hrange, hc, Bool.or_true])
    have no : cnd l i k = false → Ev (fun n => spec_naChanges.l1 n l (st l i b) (i : Int) l (l.length : Int) (i : Int) l (l.length : Int) (wrap64 ((k : Int) + 1)) (rd_T69 l (i : Int)).f0 (rd_T69 l (i : Int)).f1 (rd_T69 l (i : Int)).f2 (rd_T69 l (i : Int)).f3) R := by
      intro hc
      rw [wrap_succ (by omega)]
      exact ih (k + 1) (by omega) b (by rw [hrange, hc, Bool.or_false])
    refine Ev.step (fun _ => spec_naChanges.l1.eq_2 ..) (Ev.pos (by omega) (Ev.pos (by omega) (Ev.pos (by omega) (Ev.ite (fun e => no ?_) (fun e => Ev.have hs (Ev.ite (fun e1 => Ev.ite (fun e2 => Ev.bind hput (yes ?_)) (fun e2 => Ev.ite (fun e3 => Ev.ite (fun e4 => Ev.bind hput (yes ?_)) (fun e4 => no ?_)) (fun e3 => no ?_))) (fun e1 => no ?_)))))))
    · exact decide_eq_false (fun h => h.1 (by omega))
    · exact decide_eq_true ⟨by omega, of_decide_eq_true e1, Or.inl e2⟩
    · exact decide_eq_true ⟨by omega, of_decide_eq_true e1, Or.inr ⟨e3, by omega⟩⟩
    · exact decide_eq_false (fun h => h.2.2.elim e2 (fun h => e4 (by omega)))
    · exact decide_eq_false (fun h => h.2.2.elim e2 (fun h => e3 h.1))
    · exact decide_eq_false (fun h => e1 (decide_eq_true h.2.1))
theorem naChanges_ (l : List PI) (hl : l.length ≤ 1000) : Ev (fun k => spec_naChanges.f k l) (impl_changes.upto l l.length) := by
  have key : ∀ d i : Nat, i + d = l.length → Ev (fun k => spec_naChanges.l0 k l (impl_changes.upto l i) l (l.length : Int) (i : Int)) (impl_changes.upto l l.length) := by
    intro d
    induction d with
    | zero =>
      intro i hi
      obtain rfl : i = l.length := by omega
      exact Ev.step (fun _ => spec_naChanges.l0.eq_2 ..) (Ev.neg (by omega) (Ev.some rfl))
    | succ d ih =>
      intro i hi
      have h := cinner l hl i (by omega) _ (ih (i + 1) (by omega)) l.length 0 (by omega) false rfl
      have e : st l i false = impl_changes.upto l i := by unfold st; simp
      rw [e] at h
      exact Ev.step (fun _ => spec_naChanges.l0.eq_2 ..) (Ev.pos (by omega) (Ev.pos (by omega) (Ev.pos (by omega) h)))
  exact key l.length 0 (by omega)
end Go.Proofs.Ytphjmmaeolbggaa.MChanges
