/- ConflictsOf of the program returns what that of the reference returns, for all lists of notes, and in memory of its own; no condition beyond what every row's reading gives. -/
import Derived.Test.YtmllkdgdkagkkaaG33
import Derived.Test.YtmllkdgdkagkkaaG54
import Derived.Test.YtmllkdgdkagkkaaMConf
import Derived.Test.YtmllkdgdkagkkaaMMarkN
import Derived.Test.YtmllkdgdkagkkaaMMarkSS
namespace Go.Proofs.Ytmllkdgdkagkkaa.Pure
open Go.RowKit Go.Proofs.Ytmllkdgdkagkkaa.G Go.Proofs.YtmllkdgdkagkkaaW.PrintWords Go.Proofs.YtmllkdgdkagkkaaW.PrintLast Go.Proofs.Ytmllkdgdkagkkaa.MPure Go.Proofs.Ytmllkdgdkagkkaa.MWord Go.Proofs.Ytmllkdgdkagkkaa.MNote Go.Proofs.Ytmllkdgdkagkkaa.MMarkN Go.Proofs.Ytmllkdgdkagkkaa.MMarkSS Go.Proofs.Ytmllkdgdkagkkaa.MConf

theorem Conflicts_ (x y : List NI) (hx : Sized x) (hy : Sized y) : ∃ (r : List (List Int)) (q : Bool), r.length ≤ 1000000 ∧ (∀ z, z ∈ r → z.length = 2) ∧ Ev (fun k => spec_ConflictsOf.f k x y) (r, q) ∧ Ev (fun k => impl_ConflictsOf.f k x y) (r, q) := by
  unfold spec_ConflictsOf.f impl_ConflictsOf.f
  have hb := meBoth_ x y hx hy
  have h1 := IsTier_ x hx
  have h2 := IsTier_ y hy
  cases e1 : tierB x with
  | false =>
    rw [e1] at hb h1
    exact ⟨[], false, Nat.zero_le _, (fun z h => nomatch h), Ev.bind hb (Ev.neg (by simp) (Ev.some rfl)), Ev.bind h1 (Ev.neg (by simp) (Ev.some rfl))⟩
  | true =>
    rw [e1] at hb h1
    cases e2 : tierB y with
    | false =>
      rw [e2] at hb h2
      exact ⟨[], false, Nat.zero_le _, (fun z h => nomatch h), Ev.bind hb (Ev.neg (by simp) (Ev.some rfl)), Ev.bind h1 (Ev.pos rfl (Ev.bind h2 (Ev.neg (by simp) (Ev.some rfl))))⟩
    | true =>
      rw [e2] at hb h2
      obtain ⟨r, g1, g2, g3, g4⟩ := pairs_ x y (by have := tier_length e1; omega) (by have := tier_length e2; omega)
      exact ⟨r, true, g1, g2, Ev.bind hb (Ev.pos rfl (Ev.bind g3 (Ev.some rfl))), Ev.bind h1 (Ev.pos rfl (Ev.bind h2 (Ev.pos rfl (Ev.bind g4 (Ev.some rfl)))))⟩
theorem FnExactConflictsOf : laws_FnExactConflictsOf.Pure := by
  intro l m hl hm
  obtain ⟨z0, ⟨K0, hz0⟩, _, hz0b⟩ := szNoteS_ l hl 1048576 (by omega) (by omega)
  by_cases hneg : z0 < 0
  · exact ⟨K0, z0, hz0 _ (Nat.le_refl _), fun h => absurd h (by omega)⟩
  obtain ⟨z1, ⟨K1, hz1⟩, _, _⟩ := szNoteS_ m hm z0 (by omega) (by omega)
  obtain ⟨K2, ht0⟩ := toNoteS_ l hl.2
  obtain ⟨K3, ht1⟩ := toNoteS_ m hm.2
  have hs0 := Given.sized hl
  have hs1 := Given.sized hm
  have hl2 : (l.map conv).length ≤ 4398046511104 := by rw [List.length_map]; have := hl.2; omega
  have hm2 : (m.map conv).length ≤ 4398046511104 := by rw [List.length_map]; have := hm.2; omega
  obtain ⟨r, q, g1, g2, ⟨K4, g3⟩, ⟨K5, g4⟩⟩ := Conflicts_ _ _ hs0 hs1
  have htot := tot_two r g2
  obtain ⟨K6, he⟩ := eqIntSS_ r (by omega) (by omega)
  obtain ⟨K7, hx⟩ := eqNoteS_ _ hs0.1
  obtain ⟨K8, hy⟩ := eqNoteS_ _ hs1.1
  obtain ⟨K9, hmx⟩ := markNoteS_ (l.map conv) (by omega) 1 (by omega) (by omega)
  obtain ⟨K10, hmy⟩ := markNoteS_ (m.map conv) (by omega) (1 + 3 * ((l.map conv).length : Int)) (by omega) (by omega)
  obtain ⟨K11, hmr⟩ := markSS_ r 1 (by omega) (by omega)
  obtain ⟨K12, hh⟩ := heldSS_ r 1 (by omega) (by omega) (by omega)
  refine ⟨K0 + K1 + K2 + K3 + K4 + K5 + K6 + K7 + K8 + K9 + K10 + K11 + K12, z0, hz0 _ (by omega), fun _ => ⟨z1, hz1 _ (by omega), fun _ => ?_⟩⟩
  exact ⟨_, _, r, q, _, _, _, _, _, _, ht0 _ (by omega), ht1 _ (by omega), g3 _ (by omega), g4 _ (by omega), he _ (by omega), hx _ (by omega), hy _ (by omega), hmx _ (by omega), hmy _ (by omega), by omega, hmr _ (by omega), hh _ (by omega), by omega⟩
end Go.Proofs.Ytmllkdgdkagkkaa.Pure
