/- TierText of the program returns what that of the reference returns, for every list of notes; no condition beyond what every row's reading gives. -/
import Derived.Test.YtpdcopbnhaoilaaDoorG15
import Derived.Test.YtpdcopbnhaoilaaDoorMNote
import Derived.Test.YtpdcopbnhaoilaaDoorMTierT
namespace Go.Proofs.YtpdcopbnhaoilaaDoor.Pure
open Go.RowKit Go.Proofs.YtpdcopbnhaoilaaDoor.G Go.Proofs.YtpdcopbnhaoilaaDoorW.PrintWords Go.Proofs.YtpdcopbnhaoilaaDoorW.PrintLast Go.Proofs.YtpdcopbnhaoilaaDoor.MPure Go.Proofs.YtpdcopbnhaoilaaDoor.MWord Go.Proofs.YtpdcopbnhaoilaaDoor.MNote Go.Proofs.YtpdcopbnhaoilaaDoor.MTierT

theorem FnExactTierText : laws_FnExactTierText.Pure := by
  intro l hl
  obtain ⟨z, hz, _, _⟩ := szNoteS_ l hl 1048576 (by omega) (by omega)
  have ht := toNoteS_ l hl.2
  have hs := Given.sized hl
  refine Ev.rounds (Ev.bind hz (Ev.ite (fun _ => Ev.some rfl) (fun _ => ?_)))
  refine Ev.bind ht (Ev.bind (TierText_s _ hs) (Ev.bind ht (Ev.bind (TierText_i _ hs) (Ev.pos rfl ?_))))
  exact Ev.step (fun _ => laws_FnExactTierText.j0.eq_2 ..) (Ev.neg (by simp) (Ev.bind ht (Ev.bind (eqNoteS_ _ hs.1) (Ev.pos rfl (Ev.some rfl)))))
end Go.Proofs.YtpdcopbnhaoilaaDoor.Pure
