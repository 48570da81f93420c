/- MergeTiers of the program returns what that of the reference returns, for all lists of notes, and in memory of its own; no condition beyond what every row's reading gives. -/
import Derived.Test.YtmllkdgdkagkkaaG55
import Derived.Test.YtmllkdgdkagkkaaG56
import Derived.Test.YtmllkdgdkagkkaaMAll
namespace Go.Proofs.Ytmllkdgdkagkkaa.Pure
open Go.RowKit Go.Proofs.Ytmllkdgdkagkkaa.G Go.Proofs.YtmllkdgdkagkkaaW.PrintWords Go.Proofs.YtmllkdgdkagkkaaW.PrintLast Go.Proofs.Ytmllkdgdkagkkaa.MPure Go.Proofs.Ytmllkdgdkagkkaa.MWord Go.Proofs.Ytmllkdgdkagkkaa.MNote Go.Proofs.Ytmllkdgdkagkkaa.MMarkN Go.Proofs.Ytmllkdgdkagkkaa.MMarkSS Go.Proofs.Ytmllkdgdkagkkaa.MSort Go.Proofs.Ytmllkdgdkagkkaa.MTier Go.Proofs.Ytmllkdgdkagkkaa.MJoin

theorem tier_len {l : List NI} (h : tierB l = true) : l.length ≤ 1000 := by
  unfold tierB at h
  simp only [Bool.and_eq_true, decide_eq_true_eq] at h
  omega
theorem Merge_ (a b : List NI) (ha : Sized a) (hb : Sized b) : ∃ (r : List NI) (c : List (List Int)) (q : Bool), r.length ≤ 2000 ∧ c.length ≤ 1000000 ∧ (∀ z, z ∈ c → z.length = 2) ∧ Ev (fun k => spec_MergeTiers.f k a b) (r, c, q) ∧ Ev (fun k => impl_MergeTiers.f k a b) (r, c, q) := by
  unfold spec_MergeTiers.f impl_MergeTiers.f
  have hb0 := MHas.meBoth_ a b ha hb
  have h1 := IsTier_ a ha
  have h2 := IsTier_ b hb
  cases e1 : tierB a with
  | false =>
    rw [e1] at hb0 h1
    exact ⟨[], [], false, Nat.zero_le _, Nat.zero_le _, (fun z h => nomatch h), Ev.bind hb0 (Ev.neg (by simp) (Ev.some rfl)), Ev.bind h1 (Ev.neg (by simp) (Ev.some rfl))⟩
  | true =>
    rw [e1] at hb0 h1
    cases e2 : tierB b with
    | false =>
      rw [e2] at hb0 h2
      exact ⟨[], [], false, Nat.zero_le _, Nat.zero_le _, (fun z h => nomatch h), Ev.bind hb0 (Ev.neg (by simp) (Ev.some rfl)), Ev.bind h1 (Ev.pos rfl (Ev.bind h2 (Ev.neg (by simp) (Ev.some rfl))))⟩
    | true =>
      rw [e2] at hb0 h2
      obtain ⟨r, c, q, r1, c1, c2, r2, r3⟩ := merged_ a b (tier_srt e1) (tier_calm e2) (tier_KB e1) (tier_KB e2) ha hb (tier_len e1) (tier_len e2)
      exact ⟨r, c, q, r1, c1, c2, Ev.bind hb0 (Ev.pos rfl r2), Ev.bind h1 (Ev.pos rfl (Ev.bind h2 (Ev.pos rfl (Ev.bind r3 (Ev.some rfl)))))⟩
theorem FnExactMergeTiers : laws_FnExactMergeTiers.Pure := by
  intro l m hl hm
  obtain ⟨z0, ⟨K0, hz0⟩, _, hz0b⟩ := szNoteS_ l hl 1048576 (by omega) (by omega)
  by_cases hneg : z0 < 0
  · exact ⟨K0, z0, hz0 _ (Nat.le_refl _), fun h => absurd h (by omega)⟩
  obtain ⟨z1, ⟨K1, hz1⟩, _, _⟩ := szNoteS_ m hm z0 (by omega) (by omega)
  obtain ⟨K2, ht0⟩ := toNoteS_ l hl.2
  obtain ⟨K3, ht1⟩ := toNoteS_ m hm.2
  have hs0 := Given.sized hl
  have hs1 := Given.sized hm
  have hl2 : (l.map conv).length ≤ 4398046511104 := by rw [List.length_map]; have := hl.2; omega
  have hm2 : (m.map conv).length ≤ 4398046511104 := by rw [List.length_map]; have := hm.2; omega
  obtain ⟨r, c, q, hr2, c1, c2, ⟨K4, g3⟩, ⟨K5, g4⟩⟩ := Merge_ _ _ hs0 hs1
  have htot := tot_two c c2
  obtain ⟨K6, he⟩ := eqNoteS_ r (by omega)
  obtain ⟨K7, hx⟩ := eqNoteS_ _ hs0.1
  obtain ⟨K8, hy⟩ := eqNoteS_ _ hs1.1
  obtain ⟨K9, hmx⟩ := markNoteS_ (l.map conv) (by omega) 1 (by omega) (by omega)
  obtain ⟨K10, hmy⟩ := markNoteS_ (m.map conv) (by omega) (1 + 3 * ((l.map conv).length : Int)) (by omega) (by omega)
  obtain ⟨K11, hmr⟩ := markNoteS_ r (by omega) 1 (by omega) (by omega)
  obtain ⟨K12, hh⟩ := heldNoteS_ r.length (by omega) 1 (by omega) (by omega)
  obtain ⟨K13, hc1⟩ := eqIntSS_ c (by omega) (by omega)
  obtain ⟨K14, hc2⟩ := markSS_ c (1 + 3 * (r.length : Int)) (by omega) (by omega)
  obtain ⟨K15, hc3⟩ := heldSS_ c (1 + 3 * (r.length : Int)) (by omega) (by omega) (by omega)
  refine ⟨K0 + K1 + K2 + K3 + K4 + K5 + K6 + K7 + K8 + K9 + K10 + K11 + K12 + K13 + K14 + K15, z0, hz0 _ (by omega), fun _ => ⟨z1, hz1 _ (by omega), fun _ => ?_⟩⟩
  exact ⟨_, _, r, c, q, _, _, _, _, _, _, _, _, ht0 _ (by omega), ht1 _ (by omega), g3 _ (by omega), g4 _ (by omega), he _ (by omega), hc1 _ (by omega), hx _ (by omega), hy _ (by omega), hmx _ (by omega), hmy _ (by omega), by omega, hmr _ (by omega), hc2 _ (by omega), hh _ (by omega), by omega, hc3 _ (by omega), by omega⟩
end Go.Proofs.Ytmllkdgdkagkkaa.Pure
