/- BestAnnotator of the program returns what that of the reference returns, for all rows of notes and all frames; no condition beyond what every row's reading gives. -/
import Derived.Test.YtgapcmmhbegdeaaG34
import Derived.Test.YtgapcmmhbegdeaaMAll
namespace Go.Proofs.Ytgapcmmhbegdeaa.Pure
open Go.RowKit Go.Proofs.Ytgapcmmhbegdeaa.G Go.Proofs.YtgapcmmhbegdeaaW.PrintWords Go.Proofs.YtgapcmmhbegdeaaW.PrintLast Go.Proofs.Ytgapcmmhbegdeaa.MPure Go.Proofs.Ytgapcmmhbegdeaa.MNote Go.Proofs.Ytgapcmmhbegdeaa.MNoteSS Go.Proofs.Ytgapcmmhbegdeaa.MBest

theorem FnExactBestAnnotator : laws_FnExactBestAnnotator.Pure := by
  intro l a b hl _ _
  have hg : GivenSS l := hl
  obtain ⟨z0, ⟨K0, hz0⟩, _, _, hz⟩ := szNoteSS_ l hg 1048576 (by omega) (by omega)
  obtain ⟨K2, ht0⟩ := toNoteSS_ l hg
  have hs := hg.sized
  obtain ⟨K4, g3⟩ := Best_s _ hs a b
  obtain ⟨K5, g4⟩ := Best_i _ hs a b
  generalize bestR (convS l) a b = r at g3 g4
  obtain ⟨r0, r1, r2⟩ := r
  obtain ⟨K7, hx⟩ := eqNoteSS_ _ hs.1 (fun q hq => (hs.2 q hq).1)
  refine ⟨K0 + K2 + K4 + K5 + K7, z0, hz0 _ (by omega), fun _ => ?_⟩
  exact ⟨_, r0, r1, r2, ht0 _ (by omega), g3 _ (by omega), g4 _ (by omega), hx _ (by omega)⟩
end Go.Proofs.Ytgapcmmhbegdeaa.Pure
