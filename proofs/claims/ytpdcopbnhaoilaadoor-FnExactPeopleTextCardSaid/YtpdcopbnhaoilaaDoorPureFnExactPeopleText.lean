/- PeopleText of the program returns what that of the reference returns, for every list of persons; no condition beyond what every row's reading gives. -/
import Derived.Test.YtpdcopbnhaoilaaDoorG9
import Derived.Test.YtpdcopbnhaoilaaDoorMPerson
import Derived.Test.YtpdcopbnhaoilaaDoorMPplT
namespace Go.Proofs.YtpdcopbnhaoilaaDoor.Pure
open Go.RowKit Go.Proofs.YtpdcopbnhaoilaaDoor.G Go.Proofs.YtpdcopbnhaoilaaDoorW.PrintWords Go.Proofs.YtpdcopbnhaoilaaDoorW.PrintLast Go.Proofs.YtpdcopbnhaoilaaDoor.MPure Go.Proofs.YtpdcopbnhaoilaaDoor.MWord Go.Proofs.YtpdcopbnhaoilaaDoor.MPerson Go.Proofs.YtpdcopbnhaoilaaDoor.MPplT

theorem FnExactPeopleText : laws_FnExactPeopleText.Pure := by
  intro l hl
  obtain ⟨z, hz, _, _⟩ := szPersonS_ l hl 1048576 (by omega) (by omega)
  have ht := toPersonS_ l hl.2
  have hs := GivenP.sized hl
  refine Ev.rounds (Ev.bind hz (Ev.ite (fun _ => Ev.some rfl) (fun _ => ?_)))
  refine Ev.bind ht (Ev.bind (PeopleText_s _ hs) (Ev.bind ht (Ev.bind (PeopleText_i _ hs) (Ev.pos rfl ?_))))
  exact Ev.step (fun _ => laws_FnExactPeopleText.j0.eq_2 ..) (Ev.neg (by simp) (Ev.bind ht (Ev.bind (eqPersonS_ _ hs.1) (Ev.pos rfl (Ev.some rfl)))))
end Go.Proofs.YtpdcopbnhaoilaaDoor.Pure
