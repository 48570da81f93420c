/- AddNote of the program returns what that of the reference returns, for all lists of notes and every note, and in memory of its own; no condition beyond what every row's reading gives. -/
import Derived.Test.YtmllkdgdkagkkaaG8
import Derived.Test.YtmllkdgdkagkkaaG10
import Derived.Test.YtmllkdgdkagkkaaG59
import Derived.Test.YtmllkdgdkagkkaaG60
import Derived.Test.YtmllkdgdkagkkaaMTier
import Derived.Test.YtmllkdgdkagkkaaMMarkN
namespace Go.Proofs.Ytmllkdgdkagkkaa.Pure
open Go.RowKit Go.Proofs.Ytmllkdgdkagkkaa.G Go.Proofs.YtmllkdgdkagkkaaW.PrintWords Go.Proofs.YtmllkdgdkagkkaaW.PrintLast Go.Proofs.Ytmllkdgdkagkkaa.MPure Go.Proofs.Ytmllkdgdkagkkaa.MWord Go.Proofs.Ytmllkdgdkagkkaa.MNote Go.Proofs.Ytmllkdgdkagkkaa.MMarkN Go.Proofs.Ytmllkdgdkagkkaa.MSort Go.Proofs.Ytmllkdgdkagkkaa.MTier

def addR (l : List NI) (n : NI) : List NI × Bool := if tierB l = true ∧ noteB n.f0 n.f1 n.f2 = true then tierOr (put l n) else ([], false)
theorem AddNote_s (l : List NI) (hl : Sized l) (n : NI) (hn : n.f2.size ≤ 140737488351232) : Ev (fun k => spec_AddNote.f k l n.f0 n.f1 n.f2) (addR l n) := by
  unfold spec_AddNote.f addR
  refine Ev.bind (tiGood_ l hl) (Ev.ite (fun h1 => Ev.bind (tiNote_ _ _ _ hn) (Ev.step (fun _ => spec_AddNote.j0.eq_2 ..) (Ev.ite (fun h2 => Ev.some ?_) (fun h2 => ?_)))) (fun h1 => Ev.step (fun _ => spec_AddNote.j0.eq_2 ..) (Ev.pos rfl (Ev.some ?_))))
  · rw [if_neg]
    rintro ⟨_, h⟩
    rw [h] at h2
    cases h2
  · have h3 : noteB n.f0 n.f1 n.f2 = true := by simpa using h2
    rw [if_pos ⟨h1, h3⟩]
    have hk := tier_KB h1
    have hlen : l.length ≤ 1000000 := by
      unfold tierB at h1
      simp only [Bool.and_eq_true, decide_eq_true_eq] at h1
      omega
    have hz : Sized (put l n) := by
      refine ⟨by rw [put_length]; omega, fun x hx => ?_⟩
      rcases List.mem_append.1 ((put_perm l n).mem_iff.1 hx) with h | h
      · exact hl.2 x h
      · rw [List.mem_singleton.1 h]; exact hn
    exact Ev.bind (tiPut_ l hlen n) (Ev.bind (MTier.tiIf_ _ hz) (Ev.some rfl))
  · rw [if_neg (fun h => h1 h.1)]
theorem AddNote_i (l : List NI) (hl : Sized l) (n : NI) (hn : n.f2.size ≤ 140737488351232) : Ev (fun k => impl_AddNote.f k l n.f0 n.f1 n.f2) (addR l n) := by
  unfold impl_AddNote.f addR
  refine Ev.bind (IsTier_ l hl) (Ev.ite (fun h1 => Ev.bind (IsNote_ _ _ _ hn) (Ev.step (fun _ => impl_AddNote.j0.eq_2 ..) (Ev.ite (fun h2 => Ev.some ?_) (fun h2 => ?_)))) (fun h1 => Ev.step (fun _ => impl_AddNote.j0.eq_2 ..) (Ev.pos rfl (Ev.some ?_))))
  · rw [if_neg]
    rintro ⟨_, h⟩
    rw [h] at h2
    cases h2
  · have h3 : noteB n.f0 n.f1 n.f2 = true := by simpa using h2
    rw [if_pos ⟨h1, h3⟩]
    have hk := tier_KB h1
    have hlen : l.length ≤ 1000000 := by
      unfold tierB at h1
      simp only [Bool.and_eq_true, decide_eq_true_eq] at h1
      omega
    have hc : slices_Clone_Note.f l = some l := by
      unfold slices_Clone_Note.f
      rw [if_pos (by omega)]
    have hz : Sized (l ++ [n]) := by
      refine ⟨by simp; omega, fun x hx => ?_⟩
      rcases List.mem_append.1 hx with h | h
      · exact hl.2 x h
      · rw [List.mem_singleton.1 h]; exact hn
    have hkn : KB (l ++ [n]) := by
      refine ⟨fun x hx => ?_, by simp; omega⟩
      rcases List.mem_append.1 hx with h | h
      · exact hk.1 x h
      · rw [List.mem_singleton.1 h]; have := note_in h3; omega
    exact Ev.have hc (Ev.have rfl (Ev.pos (by simp; omega) (Ev.bind (sortedTier_ (l ++ [n]) (put l n) hkn hz (put_perm l n) (put_srt l n (tier_srt h1))) (Ev.some rfl))))
  · rw [if_neg (fun h => h1 h.1)]
theorem addR_length (l : List NI) (n : NI) : (addR l n).1.length ≤ l.length + 1 := by
  unfold addR tierOr
  split
  · split
    · rw [put_length]; exact Nat.le_refl _
    · exact Nat.zero_le _
  · exact Nat.zero_le _
theorem FnExactAddNote : laws_FnExactAddNote.Pure := by
  intro l a b c hl _ _ hc
  obtain ⟨z, hz, hz1, hz2⟩ := szNoteS_ l hl 1048576 (by omega) (by omega)
  have ht := toNoteS_ l hl.2
  have hsz := Given.sized hl
  have hl2 : (l.map conv).length ≤ 4398046511104 := by rw [List.length_map]; have := hl.2; omega
  have h1 := AddNote_s _ hsz ⟨a, b, c⟩ hc
  have h2 := AddNote_i _ hsz ⟨a, b, c⟩ hc
  have hr := addR_length (l.map conv) ⟨a, b, c⟩
  generalize addR (l.map conv) ⟨a, b, c⟩ = r at h1 h2 hr
  obtain ⟨r, q⟩ := r
  have hr2 : r.length ≤ 4398046511105 := Nat.le_trans hr (by omega)
  have he := eqNoteS_ r (by omega)
  have hx := eqNoteS_ _ hsz.1
  have hmx := markNoteS_ (l.map conv) (by omega) 1 (by omega) (by omega)
  have hmr := markNoteS_ r (by omega) 1 (by omega) (by omega)
  have hh := heldNoteS_ r.length (by omega) 1 (by omega) (by omega)
  refine Ev.rounds (Ev.bind hz (Ev.ite (fun _ => Ev.some rfl) (fun hneg => ?_)))
  have hzn := szNote_ a b c hc z (by omega) (by omega)
  refine Ev.have hzn (Ev.ite (fun _ => Ev.some rfl) (fun _ => ?_))
  refine Ev.bind ht (Ev.have rfl (Ev.bind h1 (Ev.bind ht (Ev.have rfl (Ev.bind h2 (Ev.bind he (Ev.pos rfl ?_)))))))
  refine Ev.step (fun _ => laws_FnExactAddNote.j0.eq_2 ..) (Ev.neg (by simp) (Ev.bind ht (Ev.bind hx (Ev.pos rfl (Ev.bind hmx (Ev.neg (by simp; omega) (Ev.bind he (Ev.pos rfl ?_))))))))
  refine Ev.step (fun _ => laws_FnExactAddNote.j1.eq_2 ..) (Ev.neg (by simp) (Ev.bind hmr (Ev.bind hh (Ev.neg (by omega) (Ev.pos rfl (Ev.bind ht (Ev.have rfl (Ev.bind h2 (Ev.bind he (Ev.pos rfl ?_))))))))))
  exact Ev.step (fun _ => laws_FnExactAddNote.j2.eq_2 ..) (Ev.neg (by simp) (Ev.bind hh (Ev.neg (by omega) (Ev.pos rfl (Ev.some rfl)))))
end Go.Proofs.Ytmllkdgdkagkkaa.Pure
