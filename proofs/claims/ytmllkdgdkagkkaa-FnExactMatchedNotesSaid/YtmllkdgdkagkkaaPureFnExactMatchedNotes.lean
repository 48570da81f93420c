/- MatchedNotes of the program returns what that of the reference returns, for all lists of notes and all shifts, and in memory of its own; no condition beyond what every row's reading gives. -/
import Derived.Test.YtmllkdgdkagkkaaG40
import Derived.Test.YtmllkdgdkagkkaaG41
import Derived.Test.YtmllkdgdkagkkaaG56
import Derived.Test.YtmllkdgdkagkkaaMMatch
import Derived.Test.YtmllkdgdkagkkaaMMarkN
import Derived.Test.YtmllkdgdkagkkaaMMarkSS
namespace Go.Proofs.Ytmllkdgdkagkkaa.Pure
open Go.RowKit Go.Proofs.Ytmllkdgdkagkkaa.G Go.Proofs.YtmllkdgdkagkkaaW.PrintWords Go.Proofs.YtmllkdgdkagkkaaW.PrintLast Go.Proofs.Ytmllkdgdkagkkaa.MPure Go.Proofs.Ytmllkdgdkagkkaa.MWord Go.Proofs.Ytmllkdgdkagkkaa.MNote Go.Proofs.Ytmllkdgdkagkkaa.MMarkN Go.Proofs.Ytmllkdgdkagkkaa.MMatch

theorem tier_len {l : List NI} (h : tierB l = true) : l.length ≤ 40 := by
  unfold tierB at h
  simp only [Bool.and_eq_true, decide_eq_true_eq] at h
  omega
theorem MatchedNotes_ (x y : List NI) (hx : Sized x) (hy : Sized y) (hx2 : x.length ≤ 4398046511104) (hy2 : y.length ≤ 4398046511104) (s : Int) : ∃ (r : List (List Int)) (q : Bool), r.length ≤ 1000000 ∧ (∀ z, z ∈ r → z.length = 2) ∧ Ev (fun k => spec_MatchedNotes.f k x y s) (r, q) ∧ Ev (fun k => impl_MatchedNotes.f k x y s) (r, q) := by
  obtain ⟨r, g1, g2, g3, g4⟩ := Matched_ x y hx hy hx2 hy2 s
  unfold spec_MatchedNotes.f
  have h1 := tiGood_ x hx
  have h2 := tiGood_ y hy
  have h3 := l1In_ s 0 100
  unfold askB at g4
  cases e1 : tierB x with
  | false =>
    rw [e1] at h1 g4
    exact ⟨[], false, Nat.zero_le _, (fun z h => nomatch h), Ev.bind h1 (Ev.neg (by simp) (Ev.some rfl)), by simpa using g4⟩
  | true =>
    rw [e1] at h1 g4
    cases e2 : tierB y with
    | false =>
      rw [e2] at h2 g4
      exact ⟨[], false, Nat.zero_le _, (fun z h => nomatch h), Ev.bind h1 (Ev.pos rfl (Ev.bind h2 (Ev.neg (by simp) (Ev.some rfl)))), by simpa using g4⟩
    | true =>
      rw [e2] at h2 g4
      by_cases e3 : 0 ≤ s ∧ s ≤ 100
      · rw [decide_eq_true e3] at h3 g4
        have hl := tier_len e1
        exact ⟨r, true, by omega, g2, Ev.bind h1 (Ev.pos rfl (Ev.bind h2 (Ev.pos rfl (Ev.have h3 (Ev.pos rfl (Ev.bind g3 (Ev.some rfl))))))), by simpa using g4⟩
      · rw [decide_eq_false e3] at h3 g4
        exact ⟨[], false, Nat.zero_le _, (fun z h => nomatch h), Ev.bind h1 (Ev.pos rfl (Ev.bind h2 (Ev.pos rfl (Ev.have h3 (Ev.neg (by simp) (Ev.some rfl)))))), by simpa using g4⟩
theorem FnExactMatchedNotes : laws_FnExactMatchedNotes.Pure := by
  intro l m s hl hm _
  obtain ⟨z0, ⟨K0, hz0⟩, _, hz0b⟩ := szNoteS_ l hl 1048576 (by omega) (by omega)
  by_cases hneg : z0 < 0
  · exact ⟨K0, z0, hz0 _ (Nat.le_refl _), fun h => absurd h (by omega)⟩
  obtain ⟨z1, ⟨K1, hz1⟩, _, _⟩ := szNoteS_ m hm z0 (by omega) (by omega)
  obtain ⟨K2, ht0⟩ := toNoteS_ l hl.2
  obtain ⟨K3, ht1⟩ := toNoteS_ m hm.2
  have hs0 := Given.sized hl
  have hs1 := Given.sized hm
  have hl2 : (l.map conv).length ≤ 4398046511104 := by rw [List.length_map]; have := hl.2; omega
  have hm2 : (m.map conv).length ≤ 4398046511104 := by rw [List.length_map]; have := hm.2; omega
  obtain ⟨r, q, g1, g2, ⟨K4, g3⟩, ⟨K5, g4⟩⟩ := MatchedNotes_ _ _ hs0 hs1 hl2 hm2 s
  obtain ⟨n, u, K6, hn, hf⟩ := MMarkSS.facts r g1 g2
  obtain ⟨K7, hx⟩ := eqNoteS_ _ hs0.1
  obtain ⟨K8, hy⟩ := eqNoteS_ _ hs1.1
  obtain ⟨K9, hmx⟩ := markNoteS_ (l.map conv) (by omega) 1 (by omega) (by omega)
  obtain ⟨K10, hmy⟩ := markNoteS_ (m.map conv) (by omega) (1 + 3 * ((l.map conv).length : Int)) (by omega) (by omega)
  obtain ⟨f1, f2, f3⟩ := hf (K0 + K1 + K2 + K3 + K4 + K5 + K6 + K7 + K8 + K9 + K10) (by omega)
  refine ⟨K0 + K1 + K2 + K3 + K4 + K5 + K6 + K7 + K8 + K9 + K10, z0, hz0 _ (by omega), fun _ => ⟨z1, hz1 _ (by omega), fun _ => ?_⟩⟩
  exact ⟨_, _, r, q, _, _, _, _, _, _, ht0 _ (by omega), ht1 _ (by omega), g3 _ (by omega), g4 _ (by omega), f1, hx _ (by omega), hy _ (by omega), hmx _ (by omega), hmy _ (by omega), by omega, f2, f3, hn⟩
end Go.Proofs.Ytmllkdgdkagkkaa.Pure
