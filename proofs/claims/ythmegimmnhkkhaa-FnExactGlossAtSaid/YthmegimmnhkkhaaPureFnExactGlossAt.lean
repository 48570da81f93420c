/- GlossAt of the program returns what that of the reference returns, for every list of notes and every frame; no condition beyond what every row's reading gives. -/
import Derived.Test.YthmegimmnhkkhaaG35
import Derived.Test.YthmegimmnhkkhaaMGloss
namespace Go.Proofs.Ythmegimmnhkkhaa.Pure
open Go.RowKit Go.Proofs.Ythmegimmnhkkhaa.G Go.Proofs.YthmegimmnhkkhaaW.PrintWords Go.Proofs.YthmegimmnhkkhaaW.PrintLast Go.Proofs.Ythmegimmnhkkhaa.MPure Go.Proofs.Ythmegimmnhkkhaa.MWord Go.Proofs.Ythmegimmnhkkhaa.MNote Go.Proofs.Ythmegimmnhkkhaa.MGloss

theorem agFrame_ (a : Int) : spec_agFrame.f a = some (frameB a) := by
  unfold spec_agFrame.f
  rw [l1In_]
  rfl
def glossAtR (l : List NI) (a : Int) : ByteArray × Bool := if tierB l = true ∧ frameB a = true then (glossB l a, true) else (⟨#[]⟩, false)
theorem GlossAt_s (l : List NI) (hl : Sized l) (a : Int) : Ev (fun k => spec_GlossAt.f k l a) (glossAtR l a) := by
  unfold spec_GlossAt.f glossAtR
  refine Ev.bind (tiGood_ l hl) (Ev.ite (fun h1 => ?_) (fun h1 => Ev.some (by simp [h1])))
  refine Ev.have (agFrame_ a) (Ev.ite (fun h2 => ?_) (fun h2 => Ev.some (by simp [h2])))
  exact Ev.bind (agGloss_ l hl a) (Ev.some (by rw [if_pos ⟨h1, h2⟩]))
theorem GlossAt_i (l : List NI) (hl : Sized l) (a : Int) : Ev (fun k => impl_GlossAt.f k l a) (glossAtR l a) := by
  unfold impl_GlossAt.f glossAtR
  refine Ev.bind (IsTier_ l hl) (Ev.ite (fun h1 => ?_) (fun h1 => Ev.some (by simp [h1])))
  refine Ev.have (isFrame_ a) (Ev.ite (fun h2 => ?_) (fun h2 => Ev.some (by simp [h2])))
  exact Ev.have (glossAt_ l h1 a) (Ev.some (by rw [if_pos ⟨h1, h2⟩]))
theorem FnExactGlossAt : laws_FnExactGlossAt.Pure := by
  intro l a hl _
  obtain ⟨z, hz, _, _⟩ := szNoteS_ l hl 1048576 (by omega) (by omega)
  have ht := toNoteS_ l hl.2
  refine Ev.rounds (Ev.bind hz (Ev.ite (fun _ => Ev.some rfl) (fun _ => ?_)))
  refine Ev.bind ht (Ev.bind (GlossAt_s _ (Given.sized hl) a) (Ev.bind ht (Ev.bind (GlossAt_i _ (Given.sized hl) a) (Ev.pos rfl ?_))))
  refine Ev.step (fun _ => laws_FnExactGlossAt.j0.eq_2 ..) (Ev.neg (by simp) (Ev.bind ht (Ev.bind (eqNoteS_ _ (Given.sized hl).1) (Ev.pos rfl (Ev.some rfl)))))
end Go.Proofs.Ythmegimmnhkkhaa.Pure
