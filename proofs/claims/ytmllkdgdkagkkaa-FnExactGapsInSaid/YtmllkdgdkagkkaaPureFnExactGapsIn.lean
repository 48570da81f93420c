/- GapsIn of the program returns what that of the reference returns, for all lists of notes and all frames, and in memory of its own; no condition beyond what every row's reading gives. -/
import Derived.Test.YtmllkdgdkagkkaaG0
import Derived.Test.YtmllkdgdkagkkaaG34
import Derived.Test.YtmllkdgdkagkkaaG36
import Derived.Test.YtmllkdgdkagkkaaG55
import Derived.Test.YtmllkdgdkagkkaaMCut
import Derived.Test.YtmllkdgdkagkkaaMMarkN
import Derived.Test.YtmllkdgdkagkkaaMMarkSS
namespace Go.Proofs.Ytmllkdgdkagkkaa.Pure
open Go.RowKit Go.Proofs.Ytmllkdgdkagkkaa.G Go.Proofs.YtmllkdgdkagkkaaW.PrintWords Go.Proofs.YtmllkdgdkagkkaaW.PrintLast Go.Proofs.Ytmllkdgdkagkkaa.MPure Go.Proofs.Ytmllkdgdkagkkaa.MWord Go.Proofs.Ytmllkdgdkagkkaa.MNote Go.Proofs.Ytmllkdgdkagkkaa.MMarkN Go.Proofs.Ytmllkdgdkagkkaa.MCut

/-- Both loops, held side by side: the program's list has one note more. -/
theorem gaps_loop (l : List NI) (hl : l.length ≤ 1000) (b : Int) : ∀ d i : Nat, i + d = l.length → ∀ (out : List (List Int)) (at_ : Int), out.length ≤ i → (∀ q, q ∈ out → q.length = 2) →
    ∃ r : List (List Int), r.length ≤ 1001 ∧ (∀ q, q ∈ r → q.length = 2) ∧ Ev (fun k => spec_GapsIn.l0 k b out at_ l (l.length : Int) (i : Int)) (r, true) ∧ Ev (fun k => impl_GapsIn.l0 k at_ out (l ++ [⟨b, b, (⟨#[]⟩ : ByteArray)⟩]) ((l ++ [(⟨b, b, (⟨#[]⟩ : ByteArray)⟩ : NI)]).length : Int) (i : Int)) (r, true) := by
  have hlen : (l ++ [(⟨b, b, (⟨#[]⟩ : ByteArray)⟩ : NI)]).length = l.length + 1 := by simp
  intro d
  induction d with
  | zero =>
    intro i hi out a ho hq
    obtain rfl : i = l.length := by omega
    have hr : rd_T63 (l ++ [(⟨b, b, (⟨#[]⟩ : ByteArray)⟩ : NI)]) (l.length : Int) = ⟨b, b, (⟨#[]⟩ : ByteArray)⟩ := by
      show (l ++ [(⟨b, b, (⟨#[]⟩ : ByteArray)⟩ : NI)]).getD l.length z63 = _
      simp [List.getD_eq_getElem?_getD]
    by_cases h : a < b
    · refine ⟨out ++ [[a, b]], by simp; omega, ?_, Ev.step (fun _ => spec_GapsIn.l0.eq_2 ..) (Ev.neg (by omega) (Ev.pos h (Ev.pos (by omega) (Ev.some rfl)))), ?_⟩
      · intro q hq'
        rcases List.mem_append.1 hq' with h | h
        · exact hq q h
        · rw [List.mem_singleton.1 h]; rfl
      · refine Ev.step (fun _ => impl_GapsIn.l0.eq_2 ..) (Ev.pos (by rw [hlen]; omega) (Ev.pos (by omega) (Ev.pos (by rw [hlen]; omega) ?_)))
        rw [hr]
        refine Ev.pos h (Ev.pos (by omega) ?_)
        rw [wrap_succ (by omega)]
        exact Ev.step (fun _ => impl_GapsIn.l0.eq_2 ..) (Ev.neg (by rw [hlen]; omega) (Ev.some rfl))
    · refine ⟨out, by omega, hq, Ev.step (fun _ => spec_GapsIn.l0.eq_2 ..) (Ev.neg (by omega) (Ev.neg h (Ev.some rfl))), ?_⟩
      refine Ev.step (fun _ => impl_GapsIn.l0.eq_2 ..) (Ev.pos (by rw [hlen]; omega) (Ev.pos (by omega) (Ev.pos (by rw [hlen]; omega) ?_)))
      rw [hr]
      refine Ev.neg h ?_
      rw [wrap_succ (by omega)]
      exact Ev.step (fun _ => impl_GapsIn.l0.eq_2 ..) (Ev.neg (by rw [hlen]; omega) (Ev.some rfl))
  | succ d ih =>
    intro i hi out a ho hq
    have hr : rd_T63 (l ++ [(⟨b, b, (⟨#[]⟩ : ByteArray)⟩ : NI)]) (i : Int) = rd_T63 l (i : Int) := by
      show (l ++ [(⟨b, b, (⟨#[]⟩ : ByteArray)⟩ : NI)]).getD i z63 = l.getD i z63
      rw [List.getD_eq_getElem?_getD, List.getD_eq_getElem?_getD, List.getElem?_append_left (by omega)]
    by_cases h : a < (rd_T63 l (i : Int)).f0
    · obtain ⟨r, h1, h2, h3, h4⟩ := ih (i + 1) (by omega) (out ++ [[a, (rd_T63 l (i : Int)).f0]]) (rd_T63 l (i : Int)).f1 (by simp; omega) (by
        intro q hq'
        rcases List.mem_append.1 hq' with h | h
        · exact hq q h
        · rw [List.mem_singleton.1 h]; rfl)
      rw [← wrap_succ (by omega)] at h3 h4
      refine ⟨r, h1, h2, Ev.step (fun _ => spec_GapsIn.l0.eq_2 ..) (Ev.pos (by omega) (Ev.pos (by omega) (Ev.pos (by omega) (Ev.pos h (Ev.pos (by omega) h3))))), Ev.step (fun _ => impl_GapsIn.l0.eq_2 ..) (Ev.pos (by rw [hlen]; omega) (Ev.pos (by omega) (Ev.pos (by rw [hlen]; omega) ?_)))⟩
      rw [hr]
      exact Ev.pos h (Ev.pos (by omega) h4)
    · obtain ⟨r, h1, h2, h3, h4⟩ := ih (i + 1) (by omega) out (rd_T63 l (i : Int)).f1 (by omega) hq
      rw [← wrap_succ (by omega)] at h3 h4
      refine ⟨r, h1, h2, Ev.step (fun _ => spec_GapsIn.l0.eq_2 ..) (Ev.pos (by omega) (Ev.pos (by omega) (Ev.pos (by omega) (Ev.neg h h3)))), Ev.step (fun _ => impl_GapsIn.l0.eq_2 ..) (Ev.pos (by rw [hlen]; omega) (Ev.pos (by omega) (Ev.pos (by rw [hlen]; omega) ?_)))⟩
      rw [hr]
      exact Ev.neg h h4
theorem tier_len {l : List NI} (h : tierB l = true) : l.length ≤ 40 := by
  unfold tierB at h
  simp only [Bool.and_eq_true, decide_eq_true_eq] at h
  omega
theorem Gaps_ (l : List NI) (hl : Sized l) (a b : Int) : ∃ (r : List (List Int)) (q : Bool), r.length ≤ 1000000 ∧ (∀ z, z ∈ r → z.length = 2) ∧ Ev (fun k => spec_GapsIn.f k l a b) (r, q) ∧ Ev (fun k => impl_GapsIn.f k l a b) (r, q) := by
  unfold spec_GapsIn.f impl_GapsIn.f
  have h1 := tiSpan_ l hl a b
  have h2 := IsTier_ l hl
  cases e1 : tierB l with
  | false =>
    rw [e1] at h1 h2
    exact ⟨[], false, Nat.zero_le _, (fun z h => nomatch h), Ev.bind h1 (Ev.neg (by simp) (Ev.some rfl)), Ev.bind h2 (Ev.neg (by simp) (Ev.step (fun _ => impl_GapsIn.j0.eq_2 ..) (Ev.pos rfl (Ev.some rfl))))⟩
  | true =>
    rw [e1] at h1 h2
    have hl2 := tier_len e1
    have h3 := isRange_ a b
    cases e2 : rangeB a b with
    | false =>
      rw [e2] at h1 h3
      exact ⟨[], false, Nat.zero_le _, (fun z h => nomatch h), Ev.bind h1 (Ev.neg (by simp) (Ev.some rfl)), Ev.bind h2 (Ev.pos rfl (Ev.have h3 (Ev.step (fun _ => impl_GapsIn.j0.eq_2 ..) (Ev.pos rfl (Ev.some rfl)))))⟩
    | true =>
      rw [e2] at h1 h3
      have hc := cutL_length a b l
      obtain ⟨r, g1, g2, g3, g4⟩ := gaps_loop (cutL a b l) (by omega) b (cutL a b l).length 0 (by omega) [] a (Nat.zero_le _) (fun z h => nomatch h)
      refine ⟨r, true, by omega, g2, Ev.bind h1 (Ev.pos rfl (Ev.bind (cut_s l (by omega) a b) g3)), Ev.bind h2 (Ev.pos rfl (Ev.have h3 (Ev.step (fun _ => impl_GapsIn.j0.eq_2 ..) (Ev.neg (by simp) (Ev.bind (cut_i l (by omega) a b) (Ev.pos (by omega) (Ev.have rfl g4)))))))⟩
theorem FnExactGapsIn : laws_FnExactGapsIn.Pure := by
  intro l a b hl _ _
  obtain ⟨z0, ⟨K0, hz0⟩, _, _⟩ := szNoteS_ l hl 1048576 (by omega) (by omega)
  obtain ⟨K2, ht0⟩ := toNoteS_ l hl.2
  have hs0 := Given.sized hl
  have hl2 : (l.map conv).length ≤ 4398046511104 := by rw [List.length_map]; have := hl.2; omega
  obtain ⟨r, q, g1, g2, ⟨K4, g3⟩, ⟨K5, g4⟩⟩ := Gaps_ _ hs0 a b
  obtain ⟨n, s, K6, hn, hf⟩ := MMarkSS.facts r g1 g2
  obtain ⟨K7, hx⟩ := eqNoteS_ _ hs0.1
  obtain ⟨K9, hmx⟩ := markNoteS_ (l.map conv) (by omega) 1 (by omega) (by omega)
  obtain ⟨f1, f2, f3⟩ := hf (K0 + K2 + K4 + K5 + K6 + K7 + K9) (by omega)
  refine ⟨K0 + K2 + K4 + K5 + K6 + K7 + K9, z0, hz0 _ (by omega), fun _ => ?_⟩
  exact ⟨_, r, q, _, _, _, _, ht0 _ (by omega), g3 _ (by omega), g4 _ (by omega), f1, hx _ (by omega), hmx _ (by omega), by omega, f2, f3, hn⟩
end Go.Proofs.Ytmllkdgdkagkkaa.Pure
