/- ConfusedGlosses of the program returns what that of the reference returns, for all lists of notes and all frames; no condition beyond what every row's reading gives. -/
import Derived.Test.YtgapcmmhbegdeaaG96
import Derived.Test.YtgapcmmhbegdeaaMAll
namespace Go.Proofs.Ytgapcmmhbegdeaa.Pure
open Go.RowKit Go.Proofs.Ytgapcmmhbegdeaa.G Go.Proofs.YtgapcmmhbegdeaaW.PrintWords Go.Proofs.YtgapcmmhbegdeaaW.PrintLast Go.Proofs.Ytgapcmmhbegdeaa.MPure Go.Proofs.Ytgapcmmhbegdeaa.MWord Go.Proofs.Ytgapcmmhbegdeaa.MNote Go.Proofs.Ytgapcmmhbegdeaa.MCut Go.Proofs.Ytgapcmmhbegdeaa.MWin Go.Proofs.Ytgapcmmhbegdeaa.MAt0 Go.Proofs.Ytgapcmmhbegdeaa.MGloss Go.Proofs.Ytgapcmmhbegdeaa.MGl Go.Proofs.Ytgapcmmhbegdeaa.MConfG
open Go.Proofs.Ytgapcmmhbegdeaa.MEnt (Duo)

theorem FnExactConfusedGlosses : laws_FnExactConfusedGlosses.Pure := by
  intro l m a b hl hm _ _
  obtain ⟨z0, ⟨K0, hz0⟩, _, _⟩ := szNoteS_ l hl 1048576 (by omega) (by omega)
  by_cases hneg : z0 < 0
  · exact ⟨K0, z0, hz0 _ (Nat.le_refl _), fun h => absurd h (by omega)⟩
  obtain ⟨z1, ⟨K1, hz1⟩, _, _⟩ := szNoteS_ m hm z0 (by omega) (by omega)
  obtain ⟨K2, ht0⟩ := toNoteS_ l hl.2
  obtain ⟨K3, ht1⟩ := toNoteS_ m hm.2
  have hs0 := Given.sized hl
  have hs1 := Given.sized hm
  obtain ⟨⟨r0, r1, r2, r3⟩, ⟨K4, g3⟩, ⟨K5, g4⟩, _⟩ := Conf_both _ _ hs0 hs1 a b
  obtain ⟨K7, hx⟩ := eqNoteS_ _ hs0.1
  obtain ⟨K8, hy⟩ := eqNoteS_ _ hs1.1
  refine ⟨K0 + K1 + K2 + K3 + K4 + K5 + K7 + K8, z0, hz0 _ (by omega), fun _ => ⟨z1, hz1 _ (by omega), fun _ => ?_⟩⟩
  exact ⟨_, _, r0, r1, r2, r3, ht0 _ (by omega), ht1 _ (by omega), g3 _ (by omega), g4 _ (by omega), hx _ (by omega), hy _ (by omega)⟩
end Go.Proofs.Ytgapcmmhbegdeaa.Pure
