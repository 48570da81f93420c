/- IsNote of the program returns what that of the reference returns, for every note; no condition beyond what every row's reading gives. -/
import Derived.Test.YthmegimmnhkkhaaG2
import Derived.Test.YthmegimmnhkkhaaG3
import Derived.Test.YthmegimmnhkkhaaMNote
namespace Go.Proofs.Ythmegimmnhkkhaa.Pure
open Go.RowKit Go.Proofs.Ythmegimmnhkkhaa.G Go.Proofs.YthmegimmnhkkhaaW.PrintWords Go.Proofs.YthmegimmnhkkhaaW.PrintLast Go.Proofs.Ythmegimmnhkkhaa.MPure Go.Proofs.Ythmegimmnhkkhaa.MWord Go.Proofs.Ythmegimmnhkkhaa.MNote

theorem FnExactIsNote : laws_FnExactIsNote.Pure := by
  intro f t g _ _ hg
  have hz := szNote_ f t g hg 1048576 (by omega) (by omega)
  refine Ev.rounds (Ev.have hz (Ev.ite (fun _ => Ev.some rfl) (fun _ => ?_)))
  refine Ev.have rfl (Ev.bind (a := noteB f t g) ?_ (Ev.have rfl (Ev.bind (IsNote_ _ _ _ hg) (Ev.neg (by simp) (Ev.some rfl)))))
  unfold spec_IsNote.f
  exact Ev.bind (tiNote_ _ _ _ hg) (Ev.some rfl)
end Go.Proofs.Ythmegimmnhkkhaa.Pure
