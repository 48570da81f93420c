/- CoveredFrames of the program returns what that of the reference returns, for every list of notes and all frames; no condition beyond what every row's reading gives. -/
import Derived.Test.YthiaggolmbephaaG0
import Derived.Test.YthiaggolmbephaaG6
import Derived.Test.YthiaggolmbephaaMCut
namespace Go.Proofs.Ythiaggolmbephaa.Pure
open Go.RowKit Go.Proofs.Ythiaggolmbephaa.G Go.Proofs.YthiaggolmbephaaW.PrintWords Go.Proofs.YthiaggolmbephaaW.PrintLast Go.Proofs.Ythiaggolmbephaa.MPure Go.Proofs.Ythiaggolmbephaa.MWord Go.Proofs.Ythiaggolmbephaa.MNote Go.Proofs.Ythiaggolmbephaa.MCut

theorem covered_loops (c : List NI) (hc : c.length ≤ 140737488351232) : ∀ d i : Nat, i + d = c.length → ∀ s : Int, ∃ r : Int × Bool, Ev (fun k => spec_CoveredFrames.l0 k s c (c.length : Int) (i : Int)) r ∧ Ev (fun k => impl_CoveredFrames.l0 k s c (c.length : Int) (i : Int)) r := by
  intro d
  induction d with
  | zero =>
    intro i hi s
    exact ⟨(s, true), Ev.step (fun _ => spec_CoveredFrames.l0.eq_2 ..) (Ev.neg (by omega) (Ev.some rfl)), Ev.step (fun _ => impl_CoveredFrames.l0.eq_2 ..) (Ev.neg (by omega) (Ev.some rfl))⟩
  | succ d ih =>
    intro i hi s
    obtain ⟨r, h1, h2⟩ := ih (i + 1) (by omega) (wrap64 (s + wrap64 ((rd_T76 c (i : Int)).f1 - (rd_T76 c (i : Int)).f0)))
    rw [← wrap_succ (by omega)] at h1 h2
    exact ⟨r, Ev.step (fun _ => spec_CoveredFrames.l0.eq_2 ..) (Ev.pos (by omega) (Ev.pos (by omega) (Ev.pos (by omega) h1))), Ev.step (fun _ => impl_CoveredFrames.l0.eq_2 ..) (Ev.pos (by omega) (Ev.pos (by omega) (Ev.pos (by omega) h2)))⟩
theorem Covered_both (l : List NI) (hl : Sized l) (hl2 : l.length ≤ 4398046511104) (a b : Int) : ∃ r : Int × Bool, Ev (fun k => spec_CoveredFrames.f k l a b) r ∧ Ev (fun k => impl_CoveredFrames.f k l a b) r := by
  unfold spec_CoveredFrames.f impl_CoveredFrames.f
  cases h1 : tierB l with
  | false =>
    exact ⟨(0, false), Ev.bind (Ev.eq (r := false) (tiSpan_ l hl a b) (by simp [h1])) (Ev.neg (by decide) (Ev.some rfl)), Ev.bind (Ev.eq (IsTier_ l hl) h1) (Ev.neg (by decide) (Ev.step (fun _ => impl_CoveredFrames.j0.eq_2 ..) (Ev.pos rfl (Ev.some rfl))))⟩
  | true =>
    cases h2 : rangeB a b with
    | false =>
      exact ⟨(0, false), Ev.bind (Ev.eq (r := false) (tiSpan_ l hl a b) (by simp [h1, h2])) (Ev.neg (by decide) (Ev.some rfl)), Ev.bind (Ev.eq (IsTier_ l hl) h1) (Ev.pos rfl (Ev.have ((isRange_ a b).trans (congrArg some h2)) (Ev.step (fun _ => impl_CoveredFrames.j0.eq_2 ..) (Ev.pos rfl (Ev.some rfl)))))⟩
    | true =>
      have hc := cutL_length a b l
      obtain ⟨r, hr, hq⟩ := covered_loops (cutL a b l) (by omega) (cutL a b l).length 0 (by omega) 0
      exact ⟨r, Ev.bind (Ev.eq (r := true) (tiSpan_ l hl a b) (by simp [h1, h2])) (Ev.pos rfl (Ev.bind (cut_s l hl2 a b) hr)), Ev.bind (Ev.eq (IsTier_ l hl) h1) (Ev.pos rfl (Ev.have ((isRange_ a b).trans (congrArg some h2)) (Ev.step (fun _ => impl_CoveredFrames.j0.eq_2 ..) (Ev.neg (by decide) (Ev.bind (cut_i l hl2 a b) hq)))))⟩
theorem FnExactCoveredFrames : laws_FnExactCoveredFrames.Pure := by
  intro l a b hl _ _
  obtain ⟨z, hz, _, _⟩ := szNoteS_ l hl 1048576 (by omega) (by omega)
  have ht := toNoteS_ l hl.2
  obtain ⟨r, h1, h2⟩ := Covered_both _ (Given.sized hl) (by rw [List.length_map]; have := hl.2; omega) a b
  refine Ev.rounds (Ev.bind hz (Ev.ite (fun _ => Ev.some rfl) (fun _ => ?_)))
  refine Ev.bind ht (Ev.bind h1 (Ev.bind ht (Ev.bind h2 (Ev.pos rfl ?_))))
  refine Ev.step (fun _ => laws_FnExactCoveredFrames.j0.eq_2 ..) (Ev.neg (by simp) (Ev.bind ht (Ev.bind (eqNoteS_ _ (Given.sized hl).1) (Ev.pos rfl (Ev.some rfl)))))
end Go.Proofs.Ythiaggolmbephaa.Pure
