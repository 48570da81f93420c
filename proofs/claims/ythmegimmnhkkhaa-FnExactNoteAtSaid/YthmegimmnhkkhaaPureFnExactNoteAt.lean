/- NoteAt of the program returns what that of the reference returns, for every list of notes and every frame; no condition beyond what every row's reading gives. -/
import Derived.Test.YthmegimmnhkkhaaG14
import Derived.Test.YthmegimmnhkkhaaG22
import Derived.Test.YthmegimmnhkkhaaMAt
namespace Go.Proofs.Ythmegimmnhkkhaa.Pure
open Go.RowKit Go.Proofs.Ythmegimmnhkkhaa.G Go.Proofs.YthmegimmnhkkhaaW.PrintWords Go.Proofs.YthmegimmnhkkhaaW.PrintLast Go.Proofs.Ythmegimmnhkkhaa.MPure Go.Proofs.Ythmegimmnhkkhaa.MWord Go.Proofs.Ythmegimmnhkkhaa.MNote Go.Proofs.Ythmegimmnhkkhaa.MAt Go.Proofs.Ythmegimmnhkkhaa.MAt0

/-- What both come to. -/
def noteAtR (l : List NI) (a : Int) : Int × Bool := if tierB l = true ∧ frameB a = true ∧ 0 ≤ idxOf (impl_noteAt.p a) l then (idxOf (impl_noteAt.p a) l, true) else (0, false)
theorem NoteAt_s (l : List NI) (hl : Sized l) (a : Int) : Ev (fun k => spec_NoteAt.f k l a) (noteAtR l a) := by
  unfold spec_NoteAt.f noteAtR
  refine Ev.bind (tiGood_ l hl) (Ev.ite (fun h1 => ?_) (fun h1 => Ev.some (by simp [h1])))
  refine Ev.have (tiFrame_ a) (Ev.ite (fun h2 => ?_) (fun h2 => Ev.some (by simp [h2])))
  refine Ev.bind (tiAt_ l hl a) (Ev.ite (fun h3 => Ev.some ?_) (fun h3 => Ev.bind (tiAt_ l hl a) (Ev.some ?_)))
  · rw [if_neg (by omega)]
  · rw [if_pos ⟨h1, h2, by omega⟩]
theorem NoteAt_i (l : List NI) (hl : Sized l) (a : Int) : Ev (fun k => impl_NoteAt.f k l a) (noteAtR l a) := by
  unfold impl_NoteAt.f noteAtR
  refine Ev.bind (IsTier_ l hl) (Ev.ite (fun h1 => ?_) (fun h1 => Ev.step (fun _ => impl_NoteAt.j0.eq_2 ..) (Ev.pos rfl (Ev.some (by simp [h1])))))
  refine Ev.have (isFrame_ a) (Ev.step (fun _ => impl_NoteAt.j0.eq_2 ..) (Ev.ite (fun h2 => Ev.some ?_) (fun h2 => ?_)))
  · simp only [Bool.not_eq_true'] at h2
    simp [h2]
  · simp only [Bool.not_eq_true', Bool.not_eq_false] at h2
    refine Ev.have rfl (Ev.ite (fun h3 => Ev.some ?_) (fun h3 => Ev.some ?_))
    · rw [if_neg (by omega)]
    · rw [if_pos ⟨h1, h2, by omega⟩]
theorem FnExactNoteAt : laws_FnExactNoteAt.Pure := by
  intro l a hl _
  obtain ⟨z, hz, _, _⟩ := szNoteS_ l hl 1048576 (by omega) (by omega)
  have ht := toNoteS_ l hl.2
  refine Ev.rounds (Ev.bind hz (Ev.ite (fun _ => Ev.some rfl) (fun _ => ?_)))
  refine Ev.bind ht (Ev.bind (NoteAt_s _ (Given.sized hl) a) (Ev.bind ht (Ev.bind (NoteAt_i _ (Given.sized hl) a) (Ev.pos rfl ?_))))
  refine Ev.step (fun _ => laws_FnExactNoteAt.j0.eq_2 ..) (Ev.neg (by simp) (Ev.bind ht (Ev.bind (eqNoteS_ _ (Given.sized hl).1) (Ev.pos rfl (Ev.some rfl)))))
end Go.Proofs.Ythmegimmnhkkhaa.Pure
