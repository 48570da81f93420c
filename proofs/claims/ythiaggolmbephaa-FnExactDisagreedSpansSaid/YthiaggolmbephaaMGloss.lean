/- The gloss at a frame: the reference's search and the program's, by lists alone. -/
import Derived.Test.YthiaggolmbephaaG0
import Derived.Test.YthiaggolmbephaaG11
import Derived.Test.YthiaggolmbephaaMNote
import Derived.Test.YthiaggolmbephaaMAt0
namespace Go.Proofs.Ythiaggolmbephaa.MGloss
open Go.RowKit Go.Proofs.Ythiaggolmbephaa.G Go.Proofs.YthiaggolmbephaaW.PrintWords Go.Proofs.YthiaggolmbephaaW.PrintLast Go.Proofs.Ythiaggolmbephaa.MPure Go.Proofs.Ythiaggolmbephaa.MWord Go.Proofs.Ythiaggolmbephaa.MNote Go.Proofs.Ythiaggolmbephaa.MAt0

/-- Whether a frame lies in a note. -/
def inB (a : Int) (x : NI) : Bool := decide (x.f0 ≤ a ∧ a < x.f1)
/-- The gloss at a frame, or the empty text. -/
def glossB (l : List NI) (a : Int) : ByteArray := if 0 ≤ idxOf (inB a) l then (atN l (idxOf (inB a) l).toNat).f2 else ⟨#[]⟩
theorem agGloss_ (l : List NI) (hl : Sized l) (a : Int) : Ev (fun k => spec_agGloss.f k l a) (glossB l a) := by
  obtain ⟨hn, _⟩ := hl
  have key : ∀ d i : Nat, i + d = l.length → (∀ j, j < i → inB a (atN l j) = false) → Ev (fun k => spec_agGloss.l0 k a l (l.length : Int) (i : Int)) (glossB l a) := by
    intro d
    induction d with
    | zero =>
      intro i hi hb
      obtain rfl : i = l.length := by omega
      refine Ev.step (fun _ => spec_agGloss.l0.eq_2 ..) (Ev.neg (by omega) (Ev.some ?_))
      unfold glossB
      rw [idxOf_miss z76 hb, if_neg (by decide)]
    | succ d ih =>
      intro i hi hb
      cases hp : inB a (atN l i) with
      | true =>
        have hq := hp
        simp only [inB, decide_eq_true_eq] at hq
        refine Ev.step (fun _ => spec_agGloss.l0.eq_2 ..) (Ev.pos (by omega) (Ev.pos (by omega) (Ev.pos (by omega) (Ev.pos hq.1 (Ev.pos hq.2 (Ev.some ?_))))))
        unfold glossB
        rw [idxOf_hit z76 (i := i) (by omega) hp hb, if_pos (by omega)]
        rfl
      | false =>
        have hq := hp
        simp only [inB, decide_eq_false_iff_not] at hq
        have hr := ih (i + 1) (by omega) (fun j hj => by
          by_cases e : j = i
          · subst e; exact hp
          · exact hb j (by omega))
        rw [← wrap_succ (by omega)] at hr
        refine Ev.step (fun _ => spec_agGloss.l0.eq_2 ..) (Ev.pos (by omega) (Ev.pos (by omega) (Ev.pos (by omega) (Ev.ite (fun h1 => Ev.neg (fun h2 => hq ⟨h1, h2⟩) hr) (fun _ => hr)))))
  exact key l.length 0 (by omega) (fun j hj => absurd hj (Nat.not_lt_zero _))
theorem tier_bounds {l : List NI} (h : tierB l = true) {x : NI} (hx : x ∈ l) : 0 ≤ x.f0 ∧ x.f0 < x.f1 ∧ x.f1 ≤ 99999 := by
  simp only [tierB, Bool.and_eq_true, List.all_eq_true, List.mem_range] at h
  obtain ⟨i, hi, rfl⟩ := List.mem_iff_getElem.1 hx
  have := h.1 i hi
  have e : atN l i = l[i] := by
    unfold atN
    rw [List.getD_eq_getElem?_getD, List.getElem?_eq_getElem hi]
    rfl
  simp only [tierP, noteB, frameB, Bool.and_eq_true, decide_eq_true_eq, e] at this
  omega
/-- In a tier both searches stop at the same notes. -/
theorem noteAt_in {l : List NI} (h : tierB l = true) (a : Int) : idxOf (impl_noteAt.p a) l = idxOf (inB a) l := by
  refine idxOf_congr (fun x hx => ?_)
  have := tier_bounds h hx
  unfold impl_noteAt.p inB
  rw [wrap_in (by omega) (by omega)]
  rw [decide_eq_decide]
  omega
theorem glossAt_ (l : List NI) (h : tierB l = true) (a : Int) : impl_glossAt.f l a = some (glossB l a) := by
  have e := noteAt_in h a
  have hr := idxOf_range (inB a) l
  unfold impl_glossAt.f impl_noteAt.f glossB
  rw [e]
  simp only [Option.bind_some]
  by_cases h0 : idxOf (inB a) l < 0
  · rw [if_pos h0, if_neg (by omega)]
  · rw [if_neg h0, if_pos (by omega), if_pos (by omega), if_pos (by omega)]
    rfl
end Go.Proofs.Ythiaggolmbephaa.MGloss
