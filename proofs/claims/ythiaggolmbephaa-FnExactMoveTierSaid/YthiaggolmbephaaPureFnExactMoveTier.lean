/- MoveTier of the program returns what that of the reference returns, for every list of notes and every number, and in memory of its own; no condition beyond what every row's reading gives. -/
import Derived.Test.YthiaggolmbephaaG14
import Derived.Test.YthiaggolmbephaaG18
import Derived.Test.YthiaggolmbephaaMNote
import Derived.Test.YthiaggolmbephaaMMarkN
namespace Go.Proofs.Ythiaggolmbephaa.Pure
open Go.RowKit Go.Proofs.Ythiaggolmbephaa.G Go.Proofs.YthiaggolmbephaaW.PrintWords Go.Proofs.YthiaggolmbephaaW.PrintLast Go.Proofs.Ythiaggolmbephaa.MPure Go.Proofs.Ythiaggolmbephaa.MWord Go.Proofs.Ythiaggolmbephaa.MNote Go.Proofs.Ythiaggolmbephaa.MMarkN

def mv1 (a : Int) (x : NI) : NI := ⟨wrap64 (x.f0 + a), wrap64 (x.f1 + a), x.f2⟩
def mvL (a : Int) (l : List NI) : List NI := l.map (mv1 a)
def mvEnd (l : List NI) : List NI × Bool := if tierB l = true then (l, true) else ([], false)
def mvR (l : List NI) (a : Int) : List NI × Bool := if tierB l = true ∧ (-99999 ≤ a ∧ a ≤ 99999) then mvEnd (mvL a l) else ([], false)
theorem mvL_take (a : Int) (l : List NI) (i : Nat) (h : i < l.length) : mvL a (l.take (i + 1)) = mvL a (l.take i) ++ [mv1 a (atN l i)] := by
  have e : atN l i = l[i] := by
    unfold atN
    rw [List.getD_eq_getElem?_getD, List.getElem?_eq_getElem h]
    rfl
  unfold mvL
  rw [e, List.take_succ_eq_append_getElem h, List.map_append]
  rfl
theorem mvL_sized (a : Int) (l : List NI) (h : Sized l) : Sized (mvL a l) := by
  refine ⟨by unfold mvL; rw [List.length_map]; exact h.1, fun x hx => ?_⟩
  obtain ⟨y, hy, rfl⟩ := List.mem_map.1 hx
  exact h.2 y hy
theorem tiIf_ (l : List NI) (hl : Sized l) : Ev (fun k => spec_tiIf.f k l) (mvEnd l) := by
  unfold spec_tiIf.f mvEnd
  exact Ev.bind (tiGood_ l hl) (Ev.ite (fun h => Ev.some (by rw [if_pos h])) (fun h => Ev.some (by rw [if_neg h])))
theorem mv_i (l : List NI) (hl : Sized l) (hl2 : l.length ≤ 4398046511104) (a : Int) : Ev (fun k => impl_MoveTier.l0 k a [] l (l.length : Int) 0) (mvEnd (mvL a l)) := by
  have key : ∀ d i : Nat, i + d = l.length → Ev (fun k => impl_MoveTier.l0 k a (mvL a (l.take i)) l (l.length : Int) (i : Int)) (mvEnd (mvL a l)) := by
    intro d
    induction d with
    | zero =>
      intro i hi
      rw [List.take_of_length_le (by omega)]
      refine Ev.step (fun _ => impl_MoveTier.l0.eq_2 ..) (Ev.neg (by omega) (Ev.bind (IsTier_ _ (mvL_sized a l hl)) ?_))
      unfold mvEnd
      exact Ev.ite (fun h => Ev.some (by rw [if_pos h])) (fun h => Ev.some (by rw [if_neg h]))
    | succ d ih =>
      intro i hi
      have h := ih (i + 1) (by omega)
      have hti : (mvL a (l.take i)).length = i := by unfold mvL; rw [List.length_map, List.length_take]; omega
      rw [mvL_take a l i (by omega), ← wrap_succ (by omega)] at h
      exact Ev.step (fun _ => impl_MoveTier.l0.eq_2 ..) (Ev.pos (by omega) (Ev.pos (by omega) (Ev.pos (by omega) (Ev.pos (by omega) h))))
  exact key l.length 0 (by omega)
theorem mv_s (l : List NI) (hl : Sized l) (hl2 : l.length ≤ 4398046511104) (a : Int) : Ev (fun k => spec_MoveTier.l0 k a [] l (l.length : Int) 0) (mvEnd (mvL a l)) := by
  have key : ∀ d i : Nat, i + d = l.length → Ev (fun k => spec_MoveTier.l0 k a (mvL a (l.take i)) l (l.length : Int) (i : Int)) (mvEnd (mvL a l)) := by
    intro d
    induction d with
    | zero =>
      intro i hi
      rw [List.take_of_length_le (by omega)]
      exact Ev.step (fun _ => spec_MoveTier.l0.eq_2 ..) (Ev.neg (by omega) (Ev.bind (tiIf_ _ (mvL_sized a l hl)) (Ev.some rfl)))
    | succ d ih =>
      intro i hi
      have h := ih (i + 1) (by omega)
      have hti : (mvL a (l.take i)).length = i := by unfold mvL; rw [List.length_map, List.length_take]; omega
      rw [mvL_take a l i (by omega), ← wrap_succ (by omega)] at h
      exact Ev.step (fun _ => spec_MoveTier.l0.eq_2 ..) (Ev.pos (by omega) (Ev.pos (by omega) (Ev.pos (by omega) (Ev.pos (by omega) h))))
  exact key l.length 0 (by omega)
theorem MoveTier_s (l : List NI) (hl : Sized l) (hl2 : l.length ≤ 4398046511104) (a : Int) : Ev (fun k => spec_MoveTier.f k l a) (mvR l a) := by
  unfold spec_MoveTier.f mvR
  refine Ev.bind (tiGood_ l hl) (Ev.ite (fun h1 => Ev.have (l1In_ _ _ _) (Ev.step (fun _ => spec_MoveTier.j0.eq_2 ..) (Ev.ite (fun h2 => Ev.some ?_) (fun h2 => Ev.eq (mv_s l hl hl2 a) ?_)))) (fun h1 => Ev.step (fun _ => spec_MoveTier.j0.eq_2 ..) (Ev.pos rfl (Ev.some ?_))))
  · rw [if_neg]
    simp only [Bool.not_eq_true', decide_eq_false_iff_not] at h2
    exact fun h => h2 h.2
  · rw [if_pos]
    simp only [Bool.not_eq_true', decide_eq_false_iff_not, Classical.not_not] at h2
    exact ⟨h1, h2⟩
  · rw [if_neg (fun h => h1 h.1)]
theorem MoveTier_i (l : List NI) (hl : Sized l) (hl2 : l.length ≤ 4398046511104) (a : Int) : Ev (fun k => impl_MoveTier.f k l a) (mvR l a) := by
  unfold impl_MoveTier.f mvR
  refine Ev.bind (IsTier_ l hl) (Ev.ite (fun h1 => Ev.have (within_ _ _ _) (Ev.step (fun _ => impl_MoveTier.j0.eq_2 ..) (Ev.ite (fun h2 => Ev.some ?_) (fun h2 => Ev.eq (mv_i l hl hl2 a) ?_)))) (fun h1 => Ev.step (fun _ => impl_MoveTier.j0.eq_2 ..) (Ev.pos rfl (Ev.some ?_))))
  · rw [if_neg]
    simp only [Bool.not_eq_true', decide_eq_false_iff_not] at h2
    exact fun h => h2 h.2
  · rw [if_pos]
    simp only [Bool.not_eq_true', decide_eq_false_iff_not, Classical.not_not] at h2
    exact ⟨h1, h2⟩
  · rw [if_neg (fun h => h1 h.1)]
theorem mvR_length (l : List NI) (a : Int) : (mvR l a).1.length ≤ l.length := by
  unfold mvR mvEnd mvL
  split
  · split
    · simp
    · exact Nat.zero_le _
  · exact Nat.zero_le _
theorem FnExactMoveTier : laws_FnExactMoveTier.Pure := by
  intro l a hl _
  obtain ⟨z, hz, _, _⟩ := szNoteS_ l hl 1048576 (by omega) (by omega)
  have ht := toNoteS_ l hl.2
  have hsz := Given.sized hl
  have hl2 : (l.map conv).length ≤ 4398046511104 := by rw [List.length_map]; have := hl.2; omega
  have h1 := MoveTier_s _ hsz hl2 a
  have h2 := MoveTier_i _ hsz hl2 a
  have hr := mvR_length (l.map conv) a
  generalize mvR (l.map conv) a = r at h1 h2 hr
  obtain ⟨r, q⟩ := r
  have hr2 : r.length ≤ 4398046511104 := Nat.le_trans hr hl2
  have he := eqNoteS_ r (by omega)
  have hx := eqNoteS_ _ hsz.1
  have hmx := markNoteS_ (l.map conv) (by omega) 1 (by omega) (by omega)
  have hmr := markNoteS_ r (by omega) 1 (by omega) (by omega)
  have hh := heldNoteS_ r.length (by omega) 1 (by omega) (by omega)
  refine Ev.rounds (Ev.bind hz (Ev.ite (fun _ => Ev.some rfl) (fun _ => ?_)))
  refine Ev.bind ht (Ev.bind h1 (Ev.bind ht (Ev.bind h2 (Ev.bind he (Ev.pos rfl ?_)))))
  refine Ev.step (fun _ => laws_FnExactMoveTier.j0.eq_2 ..) (Ev.neg (by simp) (Ev.bind ht (Ev.bind hx (Ev.pos rfl (Ev.bind hmx (Ev.neg (by simp; omega) (Ev.bind he (Ev.pos rfl ?_))))))))
  refine Ev.step (fun _ => laws_FnExactMoveTier.j1.eq_2 ..) (Ev.neg (by simp) (Ev.bind hmr (Ev.bind hh (Ev.neg (by omega) (Ev.pos rfl (Ev.bind ht (Ev.bind h2 (Ev.bind he (Ev.pos rfl ?_)))))))))
  exact Ev.step (fun _ => laws_FnExactMoveTier.j2.eq_2 ..) (Ev.neg (by simp) (Ev.bind hh (Ev.neg (by omega) (Ev.pos rfl (Ev.some rfl)))))
end Go.Proofs.Ythiaggolmbephaa.Pure
