/- SolveClashes of the program returns what that of the reference returns, for all lists of persons and all years, and in memory of its own; no condition beyond what every row's reading gives. -/
import Derived.Test.YtphjmmaeolbggaaG0
import Derived.Test.YtphjmmaeolbggaaG12
import Derived.Test.YtphjmmaeolbggaaG18
import Derived.Test.YtphjmmaeolbggaaG19
import Derived.Test.YtphjmmaeolbggaaG47
import Derived.Test.YtphjmmaeolbggaaG49
import Derived.Test.YtphjmmaeolbggaaMChanges
import Derived.Test.YtphjmmaeolbggaaMFree
import Derived.Test.YtphjmmaeolbggaaMMarkPP
namespace Go.Proofs.Ytphjmmaeolbggaa.Pure
open Go.RowKit Go.Proofs.Ytphjmmaeolbggaa.G Go.Proofs.YtphjmmaeolbggaaW.PrintWords Go.Proofs.YtphjmmaeolbggaaW.PrintLast Go.Proofs.Ytphjmmaeolbggaa.MPure Go.Proofs.Ytphjmmaeolbggaa.MWord Go.Proofs.Ytphjmmaeolbggaa.MPerson Go.Proofs.Ytphjmmaeolbggaa.MMarkPP Go.Proofs.Ytphjmmaeolbggaa.MChanges Go.Proofs.Ytphjmmaeolbggaa.MFree

noncomputable def solR (l : List PI) (y : Int) : List PI × Int × Bool := open Classical in if peopleB l = true ∧ (1800 ≤ y ∧ y ≤ 2200) ∧ l.any (impl_SolveClashes.late y) = false then impl_SolveClashes.fin l ((impl_changes.upto l l.length).length : Int) (impl_SolveClashes.step l y (impl_changes.upto l l.length) l) else ([], 0, false)
theorem Solve_i (l : List PI) (hl : SizedP l) (y : Int) : Ev (fun k => impl_SolveClashes.f k l y) (solR l y) := by
  unfold impl_SolveClashes.f solR
  refine Ev.bind (ArePeople_ l hl) (Ev.ite (fun h => ?_) (fun h => Ev.some (by rw [if_neg h])))
  rw [if_pos h]
  have hn := people_length h.1
  exact Ev.pos (by omega) (Ev.some rfl)
theorem sol_loop (l : List PI) (hl : l.length ≤ 10) (y : Int) (L : List Int) (hL : ∀ a, a ∈ L → 0 ≤ a ∧ a < (l.length : Int)) (hn : L.length ≤ 10) : ∀ d j : Nat, j + d = L.length → ∀ out : List PI, out.length = l.length → (∀ i : Int, (rd_T69 out i).f1 = (rd_T69 l i).f1) → Ev (fun k => spec_SolveClashes.l1 k l y out L L (L.length : Int) (j : Int)) (impl_SolveClashes.fin l (L.length : Int) (impl_SolveClashes.step l y (L.drop j) out)) := by
  intro d
  induction d with
  | zero =>
    intro j hj out _ _
    rw [List.drop_eq_nil_of_le (by omega)]
    exact Ev.step (fun _ => spec_SolveClashes.l1.eq_2 ..) (Ev.neg (by omega) (Ev.some rfl))
  | succ d ih =>
    intro j hj out ho hf
    have hrd : rd L (j : Int) = L[j]'(by omega) := by
      show L.getD j _ = _
      rw [List.getD_eq_getElem?_getD, List.getElem?_eq_getElem (by omega)]
      rfl
    have hb := hL _ (List.getElem_mem (show j < L.length by omega))
    rw [← hrd] at hb
    rw [List.drop_eq_getElem_cons (show j < L.length by omega), ← hrd, impl_SolveClashes.step]
    refine Ev.step (fun _ => spec_SolveClashes.l1.eq_2 ..) (Ev.pos (by omega) (Ev.pos (by omega) (Ev.pos (by omega) (Ev.pos hb.1 (Ev.pos hb.2 (Ev.bind (naFree_ out (by omega) _) (Ev.ite (fun h => Ev.some ?_) (fun h => ?_))))))))
    · rw [if_pos h]; rfl
    · rw [if_neg h]
      have hw : spec_naWith.f out (rd L (j : Int)) (rd_T69 l (rd L (j : Int))).f1 (impl_freePlace.from out (rd_T69 l (rd L (j : Int))).f1 10) y = some (out.set (rd L (j : Int)).toNat ⟨(rd_T69 out (rd L (j : Int))).f0, (rd_T69 out (rd L (j : Int))).f1, impl_freePlace.from out (rd_T69 l (rd L (j : Int))).f1 10, y⟩) := by
        unfold spec_naWith.f
        simp only [Option.bind_some, List.nil_append, List.length_nil]
        rw [if_pos (by omega), if_pos hb.1, if_pos (by omega), if_pos (by omega), hf]
      have h2 := ih (j + 1) (by omega) (out.set (rd L (j : Int)).toNat ⟨(rd_T69 out (rd L (j : Int))).f0, (rd_T69 out (rd L (j : Int))).f1, impl_freePlace.from out (rd_T69 l (rd L (j : Int))).f1 10, y⟩) (by rw [List.length_set]; exact ho) (fun i => by
        rw [← hf i]
        show (List.getD _ i.toNat z69).f1 = (List.getD _ i.toNat z69).f1
        by_cases e : (rd L (j : Int)).toNat = i.toNat
        · rw [← e, List.getD_eq_getElem?_getD, List.getElem?_set_self (by omega)]
          rfl
        · rw [List.getD_eq_getElem?_getD, List.getD_eq_getElem?_getD, List.getElem?_set_ne e])
      rw [← wrap_succ (by omega)] at h2
      exact Ev.have hw h2
theorem late_loop (l : List PI) (hl : l.length ≤ 10) (y : Int) : ∀ d j : Nat, j + d = l.length → Ev (fun k => spec_SolveClashes.l0 k l y l (l.length : Int) (j : Int)) (if (l.drop j).any (impl_SolveClashes.late y) = true then ([], 0, false) else impl_SolveClashes.fin l ((impl_changes.upto l l.length).length : Int) (impl_SolveClashes.step l y (impl_changes.upto l l.length) l)) := by
  intro d
  induction d with
  | zero =>
    intro j hj
    rw [List.drop_eq_nil_of_le (by omega)]
    have hlen := impl_changes.upto_length l l.length
    have h := sol_loop l hl y _ (impl_SolveClashes.upto_lt l l.length) (by omega) (impl_changes.upto l l.length).length 0 (by omega) l rfl (fun _ => rfl)
    refine Ev.step (fun _ => spec_SolveClashes.l0.eq_2 ..) (Ev.neg (by omega) ?_)
    simp only [Option.bind_some, List.nil_append, List.length_nil, List.any_nil, Bool.false_eq_true, if_false]
    exact Ev.pos (by omega) (Ev.bind (naChanges_ l (by omega)) h)
  | succ d ih =>
    intro j hj
    have h := ih (j + 1) (by omega)
    have e : rd_T69 l (j : Int) = l[j]'(by omega) := by
      show l.getD j z69 = _
      rw [List.getD_eq_getElem?_getD, List.getElem?_eq_getElem (by omega)]
      rfl
    rw [← wrap_succ (by omega)] at h
    rw [List.drop_eq_getElem_cons (show j < l.length by omega), List.any_cons, ← e]
    refine Ev.step (fun _ => spec_SolveClashes.l0.eq_2 ..) (Ev.pos (by omega) (Ev.pos (by omega) (Ev.pos (by omega) (Ev.ite (fun g1 => Ev.some ?_) (fun g1 => ?_)))))
    · have hp : impl_SolveClashes.late y (rd_T69 l (j : Int)) = true := decide_eq_true g1
      rw [hp, Bool.true_or, if_pos rfl]
    · have hp : impl_SolveClashes.late y (rd_T69 l (j : Int)) = false := decide_eq_false g1
      rw [hp, Bool.false_or]
      exact h
theorem Solve_s (l : List PI) (hl : SizedP l) (y : Int) : Ev (fun k => spec_SolveClashes.f k l y) (solR l y) := by
  have hj : ∀ q : Bool, q = true → Ev (fun k => spec_SolveClashes.j0 k l y q) ([], 0, false) := fun q hq => Ev.step (fun _ => spec_SolveClashes.j0.eq_2 ..) (Ev.pos hq (Ev.some rfl))
  unfold spec_SolveClashes.f solR
  have g1 := naGood_ l hl
  have g5 := naYear_ y
  by_cases h1 : peopleB l = true
  case neg => rw [if_neg (fun h => h1 h.1)]; exact Ev.bind g1 (Ev.neg h1 (hj _ rfl))
  by_cases h5 : 1800 ≤ y ∧ y ≤ 2200
  case neg => rw [show yearB y = false from decide_eq_false h5] at g5; rw [if_neg (fun h => h5 h.2.1)]; exact Ev.bind g1 (Ev.pos h1 (Ev.have g5 (hj _ rfl)))
  rw [show yearB y = true from decide_eq_true h5] at g5
  have hn := people_length h1
  have h := late_loop l hn y l.length 0 (by omega)
  rw [List.drop_zero] at h
  refine Ev.bind g1 (Ev.pos h1 (Ev.have g5 (Ev.step (fun _ => spec_SolveClashes.j0.eq_2 ..) (Ev.neg (by simp) ?_))))
  by_cases h6 : l.any (impl_SolveClashes.late y) = true
  · rw [if_neg (fun h => by rw [h6] at h; exact absurd h.2.2 (by simp))]
    rw [if_pos h6] at h
    exact h
  · rw [if_pos ⟨h1, h5, by simpa using h6⟩]
    rw [if_neg h6] at h
    exact h
theorem step_length (l : List PI) (y : Int) : ∀ (L : List Int) (out r : List PI), impl_SolveClashes.step l y L out = some r → r.length = out.length
  | [], out, r, h => by rw [impl_SolveClashes.step] at h; rw [Option.some.inj h]
  | i :: is, out, r, h => by
    rw [impl_SolveClashes.step] at h
    split at h
    · exact absurd h (by simp)
    · rw [step_length l y is _ r h, List.length_set]
theorem solR_length (l : List PI) (y : Int) : (solR l y).1.length ≤ l.length := by
  unfold solR
  split
  · cases e : impl_SolveClashes.step l y (impl_changes.upto l l.length) l with
    | none => exact Nat.zero_le _
    | some r => exact Nat.le_of_eq (step_length l y _ _ _ e)
  · exact Nat.zero_le _
theorem FnExactSolveClashes : laws_FnExactSolveClashes.Pure := by
  intro l y hl _
  obtain ⟨z0, ⟨K0, hz0⟩, _, _⟩ := szPersonS_ l hl 1048576 (by omega) (by omega)
  obtain ⟨K2, ht0⟩ := toPersonS_ l hl.2
  have hs0 := GivenP.sized hl
  have hl2 : (l.map convP).length ≤ 4398046511104 := by rw [List.length_map]; have := hl.2; omega
  obtain ⟨K4, g3⟩ := Solve_s _ hs0 y
  obtain ⟨K5, g4⟩ := Solve_i _ hs0 y
  have hr := solR_length (l.map convP) y
  generalize solR (l.map convP) y = r at g3 g4 hr
  obtain ⟨r, q, q2⟩ := r
  have hr2 : r.length ≤ 4398046511104 := Nat.le_trans hr hl2
  obtain ⟨K6, he⟩ := eqPersonS_ r (by omega)
  obtain ⟨K7, hx⟩ := eqPersonS_ _ hs0.1
  obtain ⟨K8, hmx⟩ := markPersonS_ (l.map convP) (by omega) 1 (by omega) (by omega)
  obtain ⟨K9, hmr⟩ := markPersonS_ r (by omega) 1 (by omega) (by omega)
  obtain ⟨K10, hh⟩ := heldPersonS_ r.length (by omega) 1 (by omega) (by omega)
  refine ⟨K0 + K2 + K4 + K5 + K6 + K7 + K8 + K9 + K10, z0, hz0 _ (by omega), fun _ => ?_⟩
  exact ⟨_, r, q, q2, _, _, _, _, ht0 _ (by omega), g3 _ (by omega), g4 _ (by omega), he _ (by omega), hx _ (by omega), hmx _ (by omega), by omega, hmr _ (by omega), hh _ (by omega), by omega⟩
end Go.Proofs.Ytphjmmaeolbggaa.Pure
