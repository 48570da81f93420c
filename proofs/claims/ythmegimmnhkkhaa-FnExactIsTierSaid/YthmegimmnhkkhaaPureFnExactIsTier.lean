/- IsTier of the program returns what that of the reference returns, for every list of notes; no condition beyond what every row's reading gives. -/
import Derived.Test.YthmegimmnhkkhaaG11
import Derived.Test.YthmegimmnhkkhaaG13
import Derived.Test.YthmegimmnhkkhaaMNote
namespace Go.Proofs.Ythmegimmnhkkhaa.Pure
open Go.RowKit Go.Proofs.Ythmegimmnhkkhaa.G Go.Proofs.YthmegimmnhkkhaaW.PrintWords Go.Proofs.YthmegimmnhkkhaaW.PrintLast Go.Proofs.Ythmegimmnhkkhaa.MPure Go.Proofs.Ythmegimmnhkkhaa.MWord Go.Proofs.Ythmegimmnhkkhaa.MNote

theorem FnExactIsTier : laws_FnExactIsTier.Pure := by
  intro l hl
  obtain ⟨z, hz, _, _⟩ := szNoteS_ l hl 1048576 (by omega) (by omega)
  have ht := toNoteS_ l hl.2
  refine Ev.rounds (Ev.bind hz (Ev.ite (fun _ => Ev.some rfl) (fun _ => ?_)))
  refine Ev.bind ht (Ev.bind (f := fun k t => (laws_toNoteS.f k l).bind fun t273 => _) (a := tierB (l.map conv)) ?_ ?_)
  · unfold spec_IsTier.f
    exact Ev.bind (tiGood_ _ (Given.sized hl)) (Ev.some rfl)
  · refine Ev.bind ht (Ev.bind (IsTier_ _ (Given.sized hl)) (Ev.neg (by simp) (Ev.bind ht (Ev.bind (eqNoteS_ _ (Given.sized hl).1) (Ev.pos rfl (Ev.some rfl))))))
end Go.Proofs.Ythmegimmnhkkhaa.Pure
