/- RenamePerson of the program returns what that of the reference returns, for all lists of persons and all numbers, and in memory of its own; no condition beyond what every row's reading gives. -/
import Derived.Test.YtphjmmaeolbggaaG0
import Derived.Test.YtphjmmaeolbggaaG12
import Derived.Test.YtphjmmaeolbggaaG13
import Derived.Test.YtphjmmaeolbggaaG45
import Derived.Test.YtphjmmaeolbggaaG46
import Derived.Test.YtphjmmaeolbggaaMMarkPP
namespace Go.Proofs.Ytphjmmaeolbggaa.Pure
open Go.RowKit Go.Proofs.Ytphjmmaeolbggaa.G Go.Proofs.YtphjmmaeolbggaaW.PrintWords Go.Proofs.YtphjmmaeolbggaaW.PrintLast Go.Proofs.Ytphjmmaeolbggaa.MPure Go.Proofs.Ytphjmmaeolbggaa.MWord Go.Proofs.Ytphjmmaeolbggaa.MPerson Go.Proofs.Ytphjmmaeolbggaa.MMarkPP

theorem people_length {l : List PI} (h : peopleB l = true) : l.length ≤ 10 := by
  unfold peopleB at h
  simp only [Bool.and_eq_true, decide_eq_true_eq] at h
  omega
def renOk (l : List PI) (i a b c : Int) : Prop := peopleB l = true ∧ (0 ≤ i ∧ i ≤ wrap64 ((l.length : Int) - 1)) ∧ (0 ≤ a ∧ a ≤ 25) ∧ (0 ≤ b ∧ b ≤ 9) ∧ (1800 ≤ c ∧ c ≤ 2200)
noncomputable def renR (l : List PI) (i a b c : Int) : List PI × Bool := open Classical in if renOk l i a b c then (if c < (rd_T69 l i).f3 ∨ l.any (impl_RenamePerson.p a b) = true then ([], false) else (l.set i.toNat ⟨(rd_T69 l i).f0, a, b, c⟩, true)) else ([], false)
theorem Rename_i (l : List PI) (hl : SizedP l) (i a b c : Int) : Ev (fun k => impl_RenamePerson.f k l i a b c) (renR l i a b c) := by
  unfold impl_RenamePerson.f renR renOk
  have h0 := ArePeople_ l hl
  refine Ev.bind h0 (Ev.ite (fun h => ?_) (fun h => Ev.some (by rw [if_neg h])))
  rw [if_pos h]
  have hn := people_length h.1
  exact Ev.ite (fun h2 => Ev.some (by rw [if_pos h2])) (fun h2 => Ev.pos (by omega) (Ev.some (by rw [if_neg h2])))
theorem ren_loop (l : List PI) (hl : l.length ≤ 10) (i a b c : Int) (h0 : 0 ≤ i) (h1 : i < (l.length : Int)) : ∀ d j : Nat, j + d = l.length → Ev (fun k => spec_RenamePerson.l0 k l i a b c l (l.length : Int) (j : Int)) (if (l.drop j).any (impl_RenamePerson.p a b) = true then ([], false) else (l.set i.toNat ⟨(rd_T69 l i).f0, a, b, c⟩, true)) := by
  intro d
  induction d with
  | zero =>
    intro j hj
    rw [List.drop_eq_nil_of_le (by omega)]
    refine Ev.step (fun _ => spec_RenamePerson.l0.eq_2 ..) (Ev.neg (by omega) ?_)
    have hw : spec_naWith.f l i a b c = some (l.set i.toNat ⟨(rd_T69 l i).f0, a, b, c⟩) := by
      unfold spec_naWith.f
      simp only [Option.bind_some, List.nil_append, List.length_nil]
      rw [if_pos (by omega), if_pos h0, if_pos h1, if_pos h1]
    exact Ev.have hw (Ev.some (by simp))
  | succ d ih =>
    intro j hj
    have h := ih (j + 1) (by omega)
    have e : rd_T69 l (j : Int) = l[j]'(by omega) := by
      show l.getD j z69 = _
      rw [List.getD_eq_getElem?_getD, List.getElem?_eq_getElem (by omega)]
      rfl
    rw [← wrap_succ (by omega)] at h
    rw [List.drop_eq_getElem_cons (show j < l.length by omega), List.any_cons, ← e]
    refine Ev.step (fun _ => spec_RenamePerson.l0.eq_2 ..) (Ev.pos (by omega) (Ev.pos (by omega) (Ev.pos (by omega) (Ev.ite (fun g1 => Ev.ite (fun g2 => Ev.some ?_) (fun g2 => ?_)) (fun g1 => ?_)))))
    · have hp : impl_RenamePerson.p a b (rd_T69 l (j : Int)) = true := decide_eq_true ⟨g1, g2⟩
      rw [hp, Bool.true_or, if_pos rfl]
    · have hp : impl_RenamePerson.p a b (rd_T69 l (j : Int)) = false := decide_eq_false (fun h => g2 h.2)
      rw [hp, Bool.false_or]
      exact h
    · have hp : impl_RenamePerson.p a b (rd_T69 l (j : Int)) = false := decide_eq_false (fun h => g1 h.1)
      rw [hp, Bool.false_or]
      exact h
theorem Rename_s (l : List PI) (hl : SizedP l) (i a b c : Int) : Ev (fun k => spec_RenamePerson.f k l i a b c) (renR l i a b c) := by
  have hj : ∀ q : Bool, q = true → Ev (fun k => spec_RenamePerson.j0 k l i a b c q) ([], false) := fun q hq => Ev.step (fun _ => spec_RenamePerson.j0.eq_2 ..) (Ev.pos hq (Ev.some rfl))
  unfold spec_RenamePerson.f renR renOk
  have g1 := naGood_ l hl
  have g2 := l1In_ i 0 (wrap64 ((l.length : Int) - 1))
  have g3 := naLetter_ a
  have g4 := naPlace_ b
  have g5 := naYear_ c
  by_cases h1 : peopleB l = true
  case neg => rw [if_neg (fun h => h1 h.1)]; exact Ev.bind g1 (Ev.neg h1 (hj _ rfl))
  by_cases h2 : 0 ≤ i ∧ i ≤ wrap64 ((l.length : Int) - 1)
  case neg => rw [decide_eq_false h2] at g2; rw [if_neg (fun h => h2 h.2.1)]; exact Ev.bind g1 (Ev.pos h1 (Ev.have g2 (Ev.neg (by simp) (hj _ rfl))))
  rw [decide_eq_true h2] at g2
  by_cases h3 : 0 ≤ a ∧ a ≤ 25
  case neg => rw [show letterB a = false from decide_eq_false h3] at g3; rw [if_neg (fun h => h3 h.2.2.1)]; exact Ev.bind g1 (Ev.pos h1 (Ev.have g2 (Ev.pos rfl (Ev.have g3 (Ev.neg (by simp) (hj _ rfl))))))
  rw [show letterB a = true from decide_eq_true h3] at g3
  by_cases h4 : 0 ≤ b ∧ b ≤ 9
  case neg => rw [show placeB b = false from decide_eq_false h4] at g4; rw [if_neg (fun h => h4 h.2.2.2.1)]; exact Ev.bind g1 (Ev.pos h1 (Ev.have g2 (Ev.pos rfl (Ev.have g3 (Ev.pos rfl (Ev.have g4 (Ev.neg (by simp) (hj _ rfl))))))))
  rw [show placeB b = true from decide_eq_true h4] at g4
  by_cases h5 : 1800 ≤ c ∧ c ≤ 2200
  case neg => rw [show yearB c = false from decide_eq_false h5] at g5; rw [if_neg (fun h => h5 h.2.2.2.2)]; exact Ev.bind g1 (Ev.pos h1 (Ev.have g2 (Ev.pos rfl (Ev.have g3 (Ev.pos rfl (Ev.have g4 (Ev.pos rfl (Ev.have g5 (Ev.neg (by simp) (hj _ rfl))))))))))
  rw [show yearB c = true from decide_eq_true h5] at g5
  rw [if_pos ⟨h1, h2, h3, h4, h5⟩]
  have hn := people_length h1
  have hi : i < (l.length : Int) := by have := h2.2; unfold wrap64 at this; omega
  refine Ev.bind g1 (Ev.pos h1 (Ev.have g2 (Ev.pos rfl (Ev.have g3 (Ev.pos rfl (Ev.have g4 (Ev.pos rfl (Ev.have g5 (Ev.pos rfl (Ev.pos h2.1 (Ev.pos hi ?_)))))))))))
  refine Ev.step (fun _ => spec_RenamePerson.j0.eq_2 ..) (Ev.ite (fun q1 => Ev.some ?_) (fun q1 => Ev.pos h2.1 (Ev.pos hi ?_)))
  · rw [decide_eq_true_eq] at q1
    rw [if_pos (Or.inl q1)]
  · have q2 : ¬ c < (rd_T69 l i).f3 := by simpa using q1
    have hmem : rd_T69 l i ∈ l := by
      show l.getD i.toNat z69 ∈ l
      rw [List.getD_eq_getElem?_getD, List.getElem?_eq_getElem (by have := h2.1; omega)]
      exact List.getElem_mem _
    have hfin : Ev (fun k => spec_RenamePerson.l0 k l i a b c l (l.length : Int) 0) (if c < (rd_T69 l i).f3 ∨ l.any (impl_RenamePerson.p a b) = true then ([], false) else (l.set i.toNat ⟨(rd_T69 l i).f0, a, b, c⟩, true)) := by
      have := ren_loop l hn i a b c h2.1 hi l.length 0 (by omega)
      simpa [q2] using this
    refine Ev.ite (fun e1 => ?_) (fun e1 => ?_)
    · by_cases e2 : (rd_T69 l i).f2 = b
      · have hany : l.any (impl_RenamePerson.p a b) = true := List.any_eq_true.2 ⟨_, hmem, decide_eq_true ⟨e1, e2⟩⟩
        rw [if_pos (Or.inr hany)]
        exact Ev.step (fun _ => spec_RenamePerson.j1.eq_2 ..) (Ev.pos (by simp [e2]) (Ev.some rfl))
      · exact Ev.step (fun _ => spec_RenamePerson.j1.eq_2 ..) (Ev.neg (by simp [e2]) hfin)
    · exact Ev.step (fun _ => spec_RenamePerson.j1.eq_2 ..) (Ev.neg (by simp) hfin)
theorem renR_length (l : List PI) (i a b c : Int) : (renR l i a b c).1.length ≤ l.length := by
  unfold renR
  split
  · split
    · exact Nat.zero_le _
    · rw [List.length_set]; exact Nat.le_refl _
  · exact Nat.zero_le _
theorem FnExactRenamePerson : laws_FnExactRenamePerson.Pure := by
  intro l i a b c hl _ _ _ _
  obtain ⟨z0, ⟨K0, hz0⟩, _, _⟩ := szPersonS_ l hl 1048576 (by omega) (by omega)
  obtain ⟨K2, ht0⟩ := toPersonS_ l hl.2
  have hs0 := GivenP.sized hl
  have hl2 : (l.map convP).length ≤ 4398046511104 := by rw [List.length_map]; have := hl.2; omega
  obtain ⟨K4, g3⟩ := Rename_s _ hs0 i a b c
  obtain ⟨K5, g4⟩ := Rename_i _ hs0 i a b c
  have hr := renR_length (l.map convP) i a b c
  generalize renR (l.map convP) i a b c = r at g3 g4 hr
  obtain ⟨r, q⟩ := r
  have hr2 : r.length ≤ 4398046511104 := Nat.le_trans hr hl2
  obtain ⟨K6, he⟩ := eqPersonS_ r (by omega)
  obtain ⟨K7, hx⟩ := eqPersonS_ _ hs0.1
  obtain ⟨K8, hmx⟩ := markPersonS_ (l.map convP) (by omega) 1 (by omega) (by omega)
  obtain ⟨K9, hmr⟩ := markPersonS_ r (by omega) 1 (by omega) (by omega)
  obtain ⟨K10, hh⟩ := heldPersonS_ r.length (by omega) 1 (by omega) (by omega)
  refine ⟨K0 + K2 + K4 + K5 + K6 + K7 + K8 + K9 + K10, z0, hz0 _ (by omega), fun _ => ?_⟩
  exact ⟨_, r, q, _, _, _, _, ht0 _ (by omega), g3 _ (by omega), g4 _ (by omega), he _ (by omega), hx _ (by omega), hmx _ (by omega), by omega, hmr _ (by omega), hh _ (by omega), by omega⟩
end Go.Proofs.Ytphjmmaeolbggaa.Pure
