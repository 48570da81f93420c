/- NoteAgreement of the program returns what that of the reference returns, for all lists of notes and all shifts; no condition beyond what every row's reading gives. -/
import Derived.Test.YthiaggolmbephaaG30
import Derived.Test.YthiaggolmbephaaMMatch
namespace Go.Proofs.Ythiaggolmbephaa.Pure
open Go.RowKit Go.Proofs.Ythiaggolmbephaa.G Go.Proofs.YthiaggolmbephaaW.PrintWords Go.Proofs.YthiaggolmbephaaW.PrintLast Go.Proofs.Ythiaggolmbephaa.MPure Go.Proofs.Ythiaggolmbephaa.MWord Go.Proofs.Ythiaggolmbephaa.MNote Go.Proofs.Ythiaggolmbephaa.MCut Go.Proofs.Ythiaggolmbephaa.MMatch

theorem Agreement_both (x y : List NI) (hx : Sized x) (hy : Sized y) (hx2 : x.length ≤ 4398046511104) (hy2 : y.length ≤ 4398046511104) (s : Int) : ∃ r : Int × Bool, Ev (fun k => spec_NoteAgreement.f k x y s) r ∧ Ev (fun k => impl_NoteAgreement.f k x y s) r := by
  obtain ⟨r, h1, h2, h3, h4⟩ := Matched_ x y hx hy hx2 hy2 s
  unfold spec_NoteAgreement.f impl_NoteAgreement.f
  by_cases a : askB x y s = true
  · rw [if_pos a] at h4
    simp only [askB, Bool.and_eq_true, decide_eq_true_eq] at a
    obtain ⟨⟨a1, a2⟩, a3⟩ := a
    by_cases h0 : wrap64 ((x.length : Int) + (y.length : Int)) = 0
    · exact ⟨(100, true), Ev.bind (Ev.eq (tiGood_ x hx) a1) (Ev.pos rfl (Ev.bind (Ev.eq (tiGood_ y hy) a2) (Ev.pos rfl (Ev.have (l1In_ _ _ _) (Ev.step (fun _ => spec_NoteAgreement.j0.eq_2 ..) (Ev.neg (by simp [a3]) (Ev.pos h0 (Ev.some rfl)))))))), Ev.bind h4 (Ev.pos rfl (Ev.pos h0 (Ev.some rfl)))⟩
    · exact ⟨_, Ev.bind (Ev.eq (tiGood_ x hx) a1) (Ev.pos rfl (Ev.bind (Ev.eq (tiGood_ y hy) a2) (Ev.pos rfl (Ev.have (l1In_ _ _ _) (Ev.step (fun _ => spec_NoteAgreement.j0.eq_2 ..) (Ev.neg (by simp [a3]) (Ev.neg h0 (Ev.bind h3 (Ev.some rfl))))))))), Ev.bind h4 (Ev.pos rfl (Ev.neg h0 (Ev.some rfl)))⟩
  · rw [if_neg a] at h4
    refine ⟨(0, false), ?_, Ev.bind h4 (Ev.neg (by decide) (Ev.some rfl))⟩
    refine Ev.bind (tiGood_ x hx) (Ev.ite (fun a1 => ?_) (fun a1 => Ev.step (fun _ => spec_NoteAgreement.j0.eq_2 ..) (Ev.pos rfl (Ev.some rfl))))
    refine Ev.bind (tiGood_ y hy) (Ev.ite (fun a2 => ?_) (fun a2 => Ev.step (fun _ => spec_NoteAgreement.j0.eq_2 ..) (Ev.pos rfl (Ev.some rfl))))
    refine Ev.have (l1In_ _ _ _) (Ev.step (fun _ => spec_NoteAgreement.j0.eq_2 ..) (Ev.ite (fun a3 => Ev.some rfl) (fun a3 => absurd ?_ a)))
    simp only [Bool.not_eq_true', decide_eq_false_iff_not, Classical.not_not] at a3
    simp [askB, a1, a2, a3]
theorem FnExactNoteAgreement : laws_FnExactNoteAgreement.Pure := by
  intro l m a hl hm _
  obtain ⟨z, hz, z0, z1⟩ := szNoteS_ l hl 1048576 (by omega) (by omega)
  have ht := toNoteS_ l hl.2
  have hu := toNoteS_ m hm.2
  obtain ⟨r, h1, h2⟩ := Agreement_both _ _ (Given.sized hl) (Given.sized hm) (by rw [List.length_map]; have := hl.2; omega) (by rw [List.length_map]; have := hm.2; omega) a
  refine Ev.rounds (Ev.bind hz (Ev.ite (fun _ => Ev.some rfl) (fun hn => ?_)))
  obtain ⟨z', hz', _, _⟩ := szNoteS_ m hm z (by omega) (by omega)
  refine Ev.bind hz' (Ev.ite (fun _ => Ev.some rfl) (fun _ => ?_))
  refine Ev.bind ht (Ev.bind hu (Ev.bind h1 (Ev.bind ht (Ev.bind hu (Ev.bind h2 (Ev.pos rfl ?_))))))
  exact Ev.step (fun _ => laws_FnExactNoteAgreement.j0.eq_2 ..) (Ev.neg (by simp) (Ev.bind ht (Ev.bind (eqNoteS_ _ (Given.sized hl).1) (Ev.pos rfl (Ev.bind hu (Ev.bind (eqNoteS_ _ (Given.sized hm).1) (Ev.pos rfl (Ev.some rfl))))))))
end Go.Proofs.Ythiaggolmbephaa.Pure
