/- MajorityTier of the program returns what that of the reference returns, for all rows of notes and all frames, and in memory of its own; no condition beyond what every row's reading gives. -/
import Derived.Test.YtgapcmmhbegdeaaG42
import Derived.Test.YtgapcmmhbegdeaaG43
import Derived.Test.YtgapcmmhbegdeaaMAll
namespace Go.Proofs.Ytgapcmmhbegdeaa.Pure
open Go.RowKit Go.Proofs.Ytgapcmmhbegdeaa.G Go.Proofs.YtgapcmmhbegdeaaW.PrintWords Go.Proofs.YtgapcmmhbegdeaaW.PrintLast Go.Proofs.Ytgapcmmhbegdeaa.MPure Go.Proofs.Ytgapcmmhbegdeaa.MNote Go.Proofs.Ytgapcmmhbegdeaa.MNoteSS Go.Proofs.Ytgapcmmhbegdeaa.MMajor Go.Proofs.Ytgapcmmhbegdeaa.MMarkN

theorem markNoteSS_ : ∀ (l : List (List NI)) (n : Int), 0 ≤ n → n + 3 * (tot l : Int) ≤ 140737488351232 → ∃ y, Ev (fun k => laws_markNoteSS.f k l n) (n + 3 * (tot l : Int), y)
  | [], n, _, _ => ⟨[], Ev.some (by show (n, []) = (n + 3 * ((0 : Nat) : Int), []); simp)⟩
  | q :: l, n, h0, h1 => by
    have h2 : tot (q :: l) = q.length + tot l := rfl
    obtain ⟨y, ih⟩ := markNoteSS_ l (n + 3 * (q.length : Int)) (by omega) (by omega)
    refine ⟨marksN n q.length :: y, ?_⟩
    show Ev (fun k => (laws_markNoteS.f k q n).bind fun t => (laws_markNoteSS.f k l t.1).bind fun u => some (u.1, t.2 :: u.2)) _
    refine Ev.bind (markNoteS_ q (by omega) n h0 (by omega)) (Ev.bind ih (Ev.some ?_))
    rw [h2]
    simp only [Prod.mk.injEq, and_true]
    omega
theorem FnExactMajorityTier : laws_FnExactMajorityTier.Pure := by
  intro l a b hl _ _
  have hg : GivenSS l := hl
  obtain ⟨z0, ⟨K0, hz0⟩, _, _, hz⟩ := szNoteSS_ l hg 1048576 (by omega) (by omega)
  by_cases hneg : z0 < 0
  · exact ⟨K0, z0, hz0 _ (Nat.le_refl _), fun h => absurd h (by omega)⟩
  have htot := hz (by omega)
  obtain ⟨K2, ht0⟩ := toNoteSS_ l hg
  have hs := hg.sized
  obtain ⟨⟨r, q⟩, hr, ⟨K4, g3⟩, ⟨K5, g4⟩, _⟩ := Major_both _ hs a b
  replace hr : r.length ≤ 200 := hr
  obtain ⟨K6, he⟩ := eqNoteS_ r (by omega)
  obtain ⟨K7, hx⟩ := eqNoteSS_ _ hs.1 (fun q hq => (hs.2 q hq).1)
  have htc : tot (convS l) = tot l := tot_map conv l
  obtain ⟨y, K8, hmx⟩ := markNoteSS_ (convS l) 1 (by omega) (by omega)
  obtain ⟨K9, hmr⟩ := markNoteS_ r (by omega) 1 (by omega) (by omega)
  obtain ⟨K10, hh⟩ := heldNoteS_ r.length (by omega) 1 (by omega) (by omega)
  refine ⟨K0 + K2 + K4 + K5 + K6 + K7 + K8 + K9 + K10, z0, hz0 _ (by omega), fun _ => ?_⟩
  exact ⟨_, r, q, _, _, _, _, ht0 _ (by omega), g3 _ (by omega), g4 _ (by omega), he _ (by omega), hx _ (by omega), hmx _ (by omega), by omega, hmr _ (by omega), hh _ (by omega), by omega⟩
end Go.Proofs.Ytgapcmmhbegdeaa.Pure
