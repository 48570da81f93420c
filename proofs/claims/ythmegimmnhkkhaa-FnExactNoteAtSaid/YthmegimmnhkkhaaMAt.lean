/- In which note a frame lies: the reference's search and the program's, by lists alone. -/
import Derived.Test.YthmegimmnhkkhaaG0
import Derived.Test.YthmegimmnhkkhaaG14
import Derived.Test.YthmegimmnhkkhaaG22
import Derived.Test.YthmegimmnhkkhaaMNote
import Derived.Test.YthmegimmnhkkhaaMAt0
namespace Go.Proofs.Ythmegimmnhkkhaa.MAt
open Go.RowKit Go.Proofs.Ythmegimmnhkkhaa.G Go.Proofs.YthmegimmnhkkhaaW.PrintWords Go.Proofs.YthmegimmnhkkhaaW.PrintLast Go.Proofs.Ythmegimmnhkkhaa.MPure Go.Proofs.Ythmegimmnhkkhaa.MWord Go.Proofs.Ythmegimmnhkkhaa.MNote Go.Proofs.Ythmegimmnhkkhaa.MAt0

theorem tiAt_ (l : List NI) (hl : Sized l) (a : Int) : Ev (fun k => spec_tiAt.f k l a) (idxOf (impl_noteAt.p a) l) := by
  obtain ⟨hn, _⟩ := hl
  refine loop_find (L := fun k i => spec_tiAt.l0 k a l (l.length : Int) i) l z37 (impl_noteAt.p a) ?_ ?_ ?_
  · exact Ev.step (fun _ => spec_tiAt.l0.eq_2 ..) (Ev.neg (by omega) (Ev.some rfl))
  · intro i hi hp
    refine Ev.step (fun _ => spec_tiAt.l0.eq_2 ..) (Ev.pos (by omega) (Ev.pos (by omega) (Ev.pos (by omega) (Ev.have (l1In_ _ _ _) (Ev.pos hp (Ev.some rfl))))))
  · intro i hi hp r hr
    refine Ev.step (fun _ => spec_tiAt.l0.eq_2 ..) (Ev.pos (by omega) (Ev.pos (by omega) (Ev.pos (by omega) (Ev.have (l1In_ _ _ _) (Ev.neg (Bool.eq_false_iff.1 hp) ?_)))))
    rw [wrap_succ (by omega)]
    exact hr
end Go.Proofs.Ythmegimmnhkkhaa.MAt
