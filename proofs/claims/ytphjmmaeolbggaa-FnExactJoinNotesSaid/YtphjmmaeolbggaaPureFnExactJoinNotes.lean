/- JoinNotes of the program returns what that of the reference returns, for all lists of notes and all indices, and in memory of its own; no condition beyond what every row's reading gives. -/
import Derived.Test.YtphjmmaeolbggaaG0
import Derived.Test.YtphjmmaeolbggaaG22
import Derived.Test.YtphjmmaeolbggaaG33
import Derived.Test.YtphjmmaeolbggaaG53
import Derived.Test.YtphjmmaeolbggaaG54
import Derived.Test.YtphjmmaeolbggaaMNote
import Derived.Test.YtphjmmaeolbggaaMMarkN
namespace Go.Proofs.Ytphjmmaeolbggaa.Pure
open Go.RowKit Go.Proofs.Ytphjmmaeolbggaa.G Go.Proofs.YtphjmmaeolbggaaW.PrintWords Go.Proofs.YtphjmmaeolbggaaW.PrintLast Go.Proofs.Ytphjmmaeolbggaa.MPure Go.Proofs.Ytphjmmaeolbggaa.MWord Go.Proofs.Ytphjmmaeolbggaa.MNote Go.Proofs.Ytphjmmaeolbggaa.MMarkN

theorem tier_length {l : List NI} (h : tierB l = true) : l.length ≤ 40 := by
  unfold tierB at h
  simp only [Bool.and_eq_true, decide_eq_true_eq] at h
  omega
theorem set_mid {α : Type} (a x : α) (q : List α) : ∀ p : List α, (p ++ a :: q).set p.length x = p ++ x :: q
  | [] => rfl
  | y :: p => by
    show y :: (p ++ a :: q).set p.length x = _
    rw [set_mid a x q p]
    rfl
theorem get_mid {α : Type} (a z : α) (q : List α) : ∀ p : List α, (p ++ a :: q).getD p.length z = a
  | [] => rfl
  | _ :: p => get_mid a z q p
theorem split_at (l : List NI) (n : Nat) (h : n + 1 < l.length) : l.take (n + 1) ++ l.drop (n + 1 + 1) = l.take n ++ l.getD n z81 :: l.drop (n + 2) := by
  rw [List.take_succ_eq_append_getElem (by omega), List.append_assoc, List.singleton_append, List.getD_eq_getElem?_getD, List.getElem?_eq_getElem (by omega)]
  rfl
def joiOk (l : List NI) (i : Int) : Prop := tierB l = true ∧ (0 ≤ i ∧ i ≤ wrap64 ((l.length : Int) - 2)) ∧ (rd_T81 l i).f1 = (rd_T81 l (i + 1)).f0 ∧ (rd_T81 l i).f2.toList = (rd_T81 l (i + 1)).f2.toList
noncomputable def joiR (l : List NI) (i : Int) : List NI × Bool := open Classical in if joiOk l i then (l.take i.toNat ++ (⟨(rd_T81 l i).f0, (rd_T81 l (i + 1)).f1, (rd_T81 l i).f2⟩ : NI) :: l.drop (i.toNat + 2), true) else ([], false)
theorem Join_s (l : List NI) (hl : Sized l) (i : Int) : Ev (fun k => spec_JoinNotes.f k l i) (joiR l i) := by
  unfold spec_JoinNotes.f joiR
  refine Ev.bind (tiGood_ l hl) (Ev.ite (fun h1 => ?_) (fun h1 => Ev.some (by rw [if_neg (fun h => h1 h.1)])))
  have hn := tier_length h1
  refine Ev.have (l1In_ i 0 (wrap64 ((l.length : Int) - 2))) (Ev.ite (fun h2 => ?_) (fun h2 => Ev.some (by rw [if_neg (fun h => h2 (decide_eq_true h.2.1))])))
  have h2' := of_decide_eq_true h2
  have hi : i + 1 < (l.length : Int) := by have := h2'.2; unfold wrap64 at this; omega
  have hw1 : wrap64 (i + 1) = i + 1 := by unfold wrap64; omega
  have hw2 : wrap64 (i + 2) = i + 2 := by unfold wrap64; omega
  rw [hw1, hw2]
  refine Ev.pos h2'.1 (Ev.pos (by omega) (Ev.pos (by omega) (Ev.pos hi (Ev.ite (fun h3 => Ev.ite (fun h4 => ?_) (fun h4 => Ev.some (by rw [if_neg (fun h => h4 h.2.2.2)]))) (fun h3 => Ev.some (by rw [if_neg (fun h => h3 h.2.2.1)]))))))
  rw [if_pos ⟨h1, h2', h3, h4⟩]
  simp only [Option.bind_some, List.nil_append, List.length_nil, List.length_append, List.length_cons, List.length_take, List.length_drop]
  refine Ev.pos (by omega) (Ev.pos (by omega) (Ev.pos (by omega) (Ev.pos (by omega) (Ev.pos (by omega) (Ev.pos (by omega) (Ev.some ?_))))))
  rw [show (i + 2).toNat = i.toNat + 2 by omega, List.append_assoc, List.singleton_append]
theorem Join_i (l : List NI) (hl : Sized l) (i : Int) : Ev (fun k => impl_JoinNotes.f k l i) (joiR l i) := by
  have hj : Ev (fun k => impl_JoinNotes.j0 k l i true) ([], false) := Ev.step (fun _ => impl_JoinNotes.j0.eq_2 ..) (Ev.pos rfl (Ev.some rfl))
  unfold impl_JoinNotes.f joiR
  refine Ev.bind (IsTier_ l hl) (Ev.ite (fun h1 => ?_) (fun h1 => by rw [if_neg (fun h => h1 h.1)]; exact hj))
  have hn := tier_length h1
  refine Ev.have (within_ i 0 (wrap64 ((l.length : Int) - 2))) (Ev.ite (fun h2 => ?_) (fun h2 => by rw [if_neg (fun h => h2 (decide_eq_true h.2.1))]; exact hj))
  have h2' := of_decide_eq_true h2
  have hi : i + 1 < (l.length : Int) := by have := h2'.2; unfold wrap64 at this; omega
  have hw1 : wrap64 (i + 1) = i + 1 := by unfold wrap64; omega
  have hw2 : wrap64 (i + 2) = i + 2 := by unfold wrap64; omega
  rw [hw1]
  refine Ev.pos h2'.1 (Ev.pos (by omega) (Ev.pos (by omega) (Ev.pos hi (Ev.ite (fun h3 => ?_) (fun h3 => by rw [if_neg (fun h => h3 h.2.2.1)]; exact hj)))))
  by_cases h4 : (rd_T81 l i).f2.toList = (rd_T81 l (i + 1)).f2.toList
  case neg =>
    rw [if_neg (fun h => h4 h.2.2.2), show ((rd_T81 l i).f2.toList != (rd_T81 l (i + 1)).f2.toList) = true by simp [h4]]
    exact hj
  rw [if_pos ⟨h1, h2', h3, h4⟩, show ((rd_T81 l i).f2.toList != (rd_T81 l (i + 1)).f2.toList) = false by simp [h4]]
  have hc : slices_Clone_Note.f l = some l := by
    unfold slices_Clone_Note.f
    rw [if_pos (by omega)]
  have ht : (l.take i.toNat).length = i.toNat := by rw [List.length_take]; omega
  have hd : slices_Delete_Note.f l (i + 1) (i + 2) = some (l.take i.toNat ++ rd_T81 l i :: l.drop (i.toNat + 2)) := by
    unfold slices_Delete_Note.f
    rw [if_pos ⟨by omega, hi, by omega⟩, show (i + 1).toNat = i.toNat + 1 by omega, split_at l i.toNat (by omega)]
    rfl
  have hg : rd_T81 (l.take i.toNat ++ rd_T81 l i :: l.drop (i.toNat + 2)) i = rd_T81 l i := by
    have h := get_mid (rd_T81 l i) z81 (l.drop (i.toNat + 2)) (l.take i.toNat)
    rw [ht] at h
    exact h
  have hs := set_mid (rd_T81 l i) (⟨(rd_T81 l i).f0, (rd_T81 l (i + 1)).f1, (rd_T81 l i).f2⟩ : NI) (l.drop (i.toNat + 2)) (l.take i.toNat)
  rw [ht] at hs
  refine Ev.step (fun _ => impl_JoinNotes.j0.eq_2 ..) (Ev.neg (by simp) ?_)
  rw [hw1, hw2]
  refine Ev.have hc (Ev.have hd (Ev.pos (by omega) (Ev.pos hi (Ev.pos h2'.1 (Ev.pos ?_ (Ev.some ?_))))))
  · rw [List.length_append, List.length_cons, ht]; omega
  · rw [hg, hs]
theorem joiR_length (l : List NI) (i : Int) : (joiR l i).1.length ≤ l.length + 1 := by
  unfold joiR
  split
  · show (l.take i.toNat ++ _ :: l.drop (i.toNat + 2)).length ≤ _
    rw [List.length_append, List.length_cons, List.length_take, List.length_drop]; omega
  · exact Nat.zero_le _
theorem FnExactJoinNotes : laws_FnExactJoinNotes.Pure := by
  intro l i hl _
  obtain ⟨z0, ⟨K0, hz0⟩, _, _⟩ := szNoteS_ l hl 1048576 (by omega) (by omega)
  obtain ⟨K2, ht0⟩ := toNoteS_ l hl.2
  have hs0 := Given.sized hl
  have hl2 : (l.map conv).length ≤ 4398046511103 := by rw [List.length_map]; have := hl.2; omega
  obtain ⟨K4, g3⟩ := Join_s _ hs0 i
  obtain ⟨K5, g4⟩ := Join_i _ hs0 i
  have hr := joiR_length (l.map conv) i
  generalize joiR (l.map conv) i = r at g3 g4 hr
  obtain ⟨r, q⟩ := r
  have hr2 : r.length ≤ 4398046511104 := Nat.le_trans hr (by omega)
  obtain ⟨K6, he⟩ := eqNoteS_ r (by omega)
  obtain ⟨K7, hx⟩ := eqNoteS_ _ hs0.1
  obtain ⟨K8, hmx⟩ := markNoteS_ (l.map conv) (by omega) 1 (by omega) (by omega)
  obtain ⟨K9, hmr⟩ := markNoteS_ r (by omega) 1 (by omega) (by omega)
  obtain ⟨K10, hh⟩ := heldNoteS_ r.length (by omega) 1 (by omega) (by omega)
  refine ⟨K0 + K2 + K4 + K5 + K6 + K7 + K8 + K9 + K10, z0, hz0 _ (by omega), fun _ => ?_⟩
  exact ⟨_, r, q, _, _, _, _, ht0 _ (by omega), g3 _ (by omega), g4 _ (by omega), he _ (by omega), hx _ (by omega), hmx _ (by omega), by omega, hmr _ (by omega), hh _ (by omega), by omega⟩
end Go.Proofs.Ytphjmmaeolbggaa.Pure
