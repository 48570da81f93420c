/- CutTier of the program returns what that of the reference returns, for every list of notes and all frames, and in memory of its own; no condition beyond what every row's reading gives. -/
import Derived.Test.YthiaggolmbephaaG19
import Derived.Test.YthiaggolmbephaaG20
import Derived.Test.YthiaggolmbephaaMCut
import Derived.Test.YthiaggolmbephaaMMarkN
namespace Go.Proofs.Ythiaggolmbephaa.Pure
open Go.RowKit Go.Proofs.Ythiaggolmbephaa.G Go.Proofs.YthiaggolmbephaaW.PrintWords Go.Proofs.YthiaggolmbephaaW.PrintLast Go.Proofs.Ythiaggolmbephaa.MPure Go.Proofs.Ythiaggolmbephaa.MWord Go.Proofs.Ythiaggolmbephaa.MNote Go.Proofs.Ythiaggolmbephaa.MCut Go.Proofs.Ythiaggolmbephaa.MMarkN

def cutR (l : List NI) (a b : Int) : List NI × Bool := if tierB l = true ∧ rangeB a b = true then (cutL a b l, true) else ([], false)
theorem CutTier_s (l : List NI) (hl : Sized l) (hl2 : l.length ≤ 4398046511104) (a b : Int) : Ev (fun k => spec_CutTier.f k l a b) (cutR l a b) := by
  unfold spec_CutTier.f cutR
  refine Ev.bind (tiSpan_ l hl a b) (Ev.ite (fun h => ?_) (fun h => Ev.some ?_))
  · simp only [Bool.and_eq_true] at h
    exact Ev.bind (cut_s l hl2 a b) (Ev.some (by rw [if_pos h]))
  · simp only [Bool.and_eq_true] at h
    rw [if_neg h]
theorem CutTier_i (l : List NI) (hl : Sized l) (hl2 : l.length ≤ 4398046511104) (a b : Int) : Ev (fun k => impl_CutTier.f k l a b) (cutR l a b) := by
  unfold impl_CutTier.f cutR
  refine Ev.bind (IsTier_ l hl) (Ev.ite (fun h1 => ?_) (fun h1 => Ev.some (by simp [h1])))
  refine Ev.have (isRange_ a b) (Ev.ite (fun h2 => ?_) (fun h2 => Ev.some (by simp [h2])))
  exact Ev.bind (cut_i l hl2 a b) (Ev.some (by rw [if_pos ⟨h1, h2⟩]))
theorem cutR_length (l : List NI) (a b : Int) : (cutR l a b).1.length ≤ l.length := by
  unfold cutR
  split
  · exact cutL_length a b l
  · exact Nat.zero_le _
theorem FnExactCutTier : laws_FnExactCutTier.Pure := by
  intro l a b hl _ _
  obtain ⟨z, hz, _, _⟩ := szNoteS_ l hl 1048576 (by omega) (by omega)
  have ht := toNoteS_ l hl.2
  have hsz := Given.sized hl
  have hl2 : (l.map conv).length ≤ 4398046511104 := by rw [List.length_map]; have := hl.2; omega
  have h1 := CutTier_s _ hsz hl2 a b
  have h2 := CutTier_i _ hsz hl2 a b
  have hr := cutR_length (l.map conv) a b
  generalize cutR (l.map conv) a b = r at h1 h2 hr
  obtain ⟨r, q⟩ := r
  have hr2 : r.length ≤ 4398046511104 := Nat.le_trans hr hl2
  have he := eqNoteS_ r (by omega)
  have hx := eqNoteS_ _ hsz.1
  have hmx := markNoteS_ (l.map conv) (by omega) 1 (by omega) (by omega)
  have hmr := markNoteS_ r (by omega) 1 (by omega) (by omega)
  have hh := heldNoteS_ r.length (by omega) 1 (by omega) (by omega)
  refine Ev.rounds (Ev.bind hz (Ev.ite (fun _ => Ev.some rfl) (fun _ => ?_)))
  refine Ev.bind ht (Ev.bind h1 (Ev.bind ht (Ev.bind h2 (Ev.bind he (Ev.pos rfl ?_)))))
  refine Ev.step (fun _ => laws_FnExactCutTier.j0.eq_2 ..) (Ev.neg (by simp) (Ev.bind ht (Ev.bind hx (Ev.pos rfl (Ev.bind hmx (Ev.neg (by simp; omega) (Ev.bind he (Ev.pos rfl ?_))))))))
  refine Ev.step (fun _ => laws_FnExactCutTier.j1.eq_2 ..) (Ev.neg (by simp) (Ev.bind hmr (Ev.bind hh (Ev.neg (by omega) (Ev.pos rfl (Ev.bind ht (Ev.bind h2 (Ev.bind he (Ev.pos rfl ?_)))))))))
  exact Ev.step (fun _ => laws_FnExactCutTier.j2.eq_2 ..) (Ev.neg (by simp) (Ev.bind hh (Ev.neg (by omega) (Ev.pos rfl (Ev.some rfl)))))
end Go.Proofs.Ythiaggolmbephaa.Pure
