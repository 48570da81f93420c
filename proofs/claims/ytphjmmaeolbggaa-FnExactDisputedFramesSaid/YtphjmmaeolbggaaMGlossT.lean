/- What a tier's notes bear. -/

import Derived.Test.YtphjmmaeolbggaaMNote
namespace Go.Proofs.Ytphjmmaeolbggaa.MGlossT
open Go.RowKit Go.Proofs.Ytphjmmaeolbggaa.G Go.Proofs.YtphjmmaeolbggaaW.PrintWords Go.Proofs.YtphjmmaeolbggaaW.PrintLast Go.Proofs.Ytphjmmaeolbggaa.MPure Go.Proofs.Ytphjmmaeolbggaa.MWord Go.Proofs.Ytphjmmaeolbggaa.MNote

theorem tier_bounds {l : List NI} (h : tierB l = true) {x : NI} (hx : x ∈ l) : 0 ≤ x.f0 ∧ x.f0 < x.f1 ∧ x.f1 ≤ 99999 := by
  simp only [tierB, Bool.and_eq_true, List.all_eq_true, List.mem_range] at h
  obtain ⟨i, hi, rfl⟩ := List.mem_iff_getElem.1 hx
  have := h.1 i hi
  have e : atN l i = l[i] := by
    unfold atN
    rw [List.getD_eq_getElem?_getD, List.getElem?_eq_getElem hi]
    rfl
  simp only [tierP, noteB, frameB, Bool.and_eq_true, decide_eq_true_eq, e] at this
  omega
end Go.Proofs.Ytphjmmaeolbggaa.MGlossT
