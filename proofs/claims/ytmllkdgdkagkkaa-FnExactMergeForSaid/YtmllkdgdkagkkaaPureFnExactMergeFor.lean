/- MergeFor of the program returns what that of the reference returns, for all lists of notes, and in memory of its own; no condition beyond what every row's reading gives. -/
import Derived.Test.YtmllkdgdkagkkaaG8
import Derived.Test.YtmllkdgdkagkkaaG51
import Derived.Test.YtmllkdgdkagkkaaG52
import Derived.Test.YtmllkdgdkagkkaaMAll
namespace Go.Proofs.Ytmllkdgdkagkkaa.Pure
open Go.RowKit Go.Proofs.Ytmllkdgdkagkkaa.G Go.Proofs.YtmllkdgdkagkkaaW.PrintWords Go.Proofs.YtmllkdgdkagkkaaW.PrintLast Go.Proofs.Ytmllkdgdkagkkaa.MPure Go.Proofs.Ytmllkdgdkagkkaa.MWord Go.Proofs.Ytmllkdgdkagkkaa.MNote Go.Proofs.Ytmllkdgdkagkkaa.MMarkN Go.Proofs.Ytmllkdgdkagkkaa.MSort Go.Proofs.Ytmllkdgdkagkkaa.MTier Go.Proofs.Ytmllkdgdkagkkaa.MJoin

def forR (a b : List NI) : List NI × Bool := if (tierB a && tierB b) = true then tierOr (puts a (fresh a b)) else ([], false)
theorem tier_len {l : List NI} (h : tierB l = true) : l.length ≤ 1000 := by
  unfold tierB at h
  simp only [Bool.and_eq_true, decide_eq_true_eq] at h
  omega
theorem for_s (a b : List NI) (ha : Sized a) (hb : Sized b) : Ev (fun k => spec_MergeFor.f k a b) (forR a b) := by
  unfold spec_MergeFor.f forR
  refine Ev.bind (MHas.meBoth_ a b ha hb) (Ev.ite (fun h => ?_) (fun h => Ev.some (by rw [if_neg h])))
  rw [if_pos h]
  rw [Bool.and_eq_true] at h
  have h1 := tier_len h.1
  have h2 := tier_len h.2
  have hf := fresh_length a b
  have hz : Sized (a ++ fresh a b) := sized_append ha (sized_filter hb _) (by omega) (by omega)
  exact Ev.bind (meJoin_ a b (by omega) (by omega)) (Ev.bind (MTier.tiIf_ _ (sized_perm hz (puts_perm _ _))) (Ev.some rfl))
theorem for_i (a b : List NI) (ha : Sized a) (hb : Sized b) : Ev (fun k => impl_MergeFor.f k a b) (forR a b) := by
  unfold impl_MergeFor.f forR
  refine Ev.bind (IsTier_ a ha) (Ev.ite (fun h => ?_) (fun h => Ev.step (fun _ => impl_MergeFor.j0.eq_2 ..) (Ev.pos rfl (Ev.some (by simp [h])))))
  refine Ev.bind (IsTier_ b hb) (Ev.step (fun _ => impl_MergeFor.j0.eq_2 ..) (Ev.ite (fun h2 => Ev.some ?_) (fun h2 => ?_)))
  · rw [Bool.not_eq_true'] at h2
    rw [h, h2]; rfl
  · have h3 : tierB b = true := by simpa using h2
    rw [h, h3]
    have h1 := tier_len h
    have h4 := tier_len h3
    have hf := fresh_length a b
    have hz : Sized (a ++ fresh a b) := sized_append ha (sized_filter hb _) (by omega) (by omega)
    have hk : KB (a ++ fresh a b) := KB_append (tier_KB h) (KB_filter (tier_KB h3) _) (by omega)
    have hc : slices_Clone_Note.f a = some a := by
      unfold slices_Clone_Note.f
      rw [if_pos (by omega)]
    have hadd : impl_addedTo.f a b = some (fresh a b) := by rw [addedTo_ a b (by omega), ← fresh_all]
    exact Ev.have hc (Ev.have hadd (Ev.pos (by omega) (Ev.bind (sortedTier_ _ _ hk hz (puts_perm _ _) (puts_srt _ _ (tier_srt h))) (Ev.some rfl))))
theorem forR_length (a b : List NI) : (forR a b).1.length ≤ a.length + b.length := by
  unfold forR tierOr
  have := fresh_length a b
  split
  · split
    · show (puts a (fresh a b)).length ≤ _
      rw [puts_length]; omega
    · exact Nat.zero_le _
  · exact Nat.zero_le _
theorem FnExactMergeFor : laws_FnExactMergeFor.Pure := by
  intro l m hl hm
  obtain ⟨z0, ⟨K0, hz0⟩, _, hz0b⟩ := szNoteS_ l hl 1048576 (by omega) (by omega)
  by_cases hneg : z0 < 0
  · exact ⟨K0, z0, hz0 _ (Nat.le_refl _), fun h => absurd h (by omega)⟩
  obtain ⟨z1, ⟨K1, hz1⟩, _, _⟩ := szNoteS_ m hm z0 (by omega) (by omega)
  obtain ⟨K2, ht0⟩ := toNoteS_ l hl.2
  obtain ⟨K3, ht1⟩ := toNoteS_ m hm.2
  have hs0 := Given.sized hl
  have hs1 := Given.sized hm
  have hl2 : (l.map conv).length ≤ 4398046511104 := by rw [List.length_map]; have := hl.2; omega
  have hm2 : (m.map conv).length ≤ 4398046511104 := by rw [List.length_map]; have := hm.2; omega
  obtain ⟨K4, g3⟩ := for_s _ _ hs0 hs1
  obtain ⟨K5, g4⟩ := for_i _ _ hs0 hs1
  have hr := forR_length (l.map conv) (m.map conv)
  generalize forR (l.map conv) (m.map conv) = r at g3 g4 hr
  obtain ⟨r, q⟩ := r
  have hr2 : r.length ≤ 8796093022208 := Nat.le_trans hr (by omega)
  obtain ⟨K6, he⟩ := eqNoteS_ r (by omega)
  obtain ⟨K7, hx⟩ := eqNoteS_ _ hs0.1
  obtain ⟨K8, hy⟩ := eqNoteS_ _ hs1.1
  obtain ⟨K9, hmx⟩ := markNoteS_ (l.map conv) (by omega) 1 (by omega) (by omega)
  obtain ⟨K10, hmy⟩ := markNoteS_ (m.map conv) (by omega) (1 + 3 * ((l.map conv).length : Int)) (by omega) (by omega)
  obtain ⟨K11, hmr⟩ := markNoteS_ r (by omega) 1 (by omega) (by omega)
  obtain ⟨K12, hh⟩ := heldNoteS_ r.length (by omega) 1 (by omega) (by omega)
  refine ⟨K0 + K1 + K2 + K3 + K4 + K5 + K6 + K7 + K8 + K9 + K10 + K11 + K12, z0, hz0 _ (by omega), fun _ => ⟨z1, hz1 _ (by omega), fun _ => ?_⟩⟩
  exact ⟨_, _, r, q, _, _, _, _, _, _, ht0 _ (by omega), ht1 _ (by omega), g3 _ (by omega), g4 _ (by omega), he _ (by omega), hx _ (by omega), hy _ (by omega), hmx _ (by omega), hmy _ (by omega), by omega, hmr _ (by omega), hh _ (by omega), by omega⟩
end Go.Proofs.Ytmllkdgdkagkkaa.Pure
