/- The parts of notes in a span: the reference's and the program's cut are one list; spans and ranges of frames. -/
import Derived.Test.YtmllkdgdkagkkaaG26
import Derived.Test.YtmllkdgdkagkkaaG34
import Derived.Test.YtmllkdgdkagkkaaG35
import Derived.Test.YtmllkdgdkagkkaaMNote
namespace Go.Proofs.Ytmllkdgdkagkkaa.MCut
open Go.RowKit Go.Proofs.Ytmllkdgdkagkkaa.G Go.Proofs.YtmllkdgdkagkkaaW.PrintWords Go.Proofs.YtmllkdgdkagkkaaW.PrintLast Go.Proofs.Ytmllkdgdkagkkaa.MPure Go.Proofs.Ytmllkdgdkagkkaa.MWord Go.Proofs.Ytmllkdgdkagkkaa.MNote

theorem l1Most_ (a b : Int) : spec_l1Most.f a b = some (mx a b) := by
  unfold spec_l1Most.f mx
  by_cases h : a > b
  · rw [if_pos h]; congr 1; split <;> omega
  · rw [if_neg h]; congr 1; split <;> omega
theorem l1Least_ (a b : Int) : spec_l1Least.f a b = some (mn a b) := by
  unfold spec_l1Least.f mn
  by_cases h : a < b
  · rw [if_pos h]; congr 1; split <;> omega
  · rw [if_neg h]; congr 1; split <;> omega
def rangeB (a b : Int) : Bool := frameB a && frameB b && decide (a < b)
theorem isRange_ (a b : Int) : impl_isRange.f a b = some (rangeB a b) := by
  unfold impl_isRange.f rangeB
  rw [isFrame_, isFrame_]
  simp only [Option.bind_some]
  cases frameB a <;> cases frameB b <;> simp
theorem tiSpan_ (l : List NI) (hl : Sized l) (a b : Int) : Ev (fun k => spec_tiSpan.f k l a b) (tierB l && rangeB a b) := by
  unfold spec_tiSpan.f rangeB
  refine Ev.bind (tiGood_ l hl) (Ev.ite (fun h1 => ?_) (fun h1 => Ev.some (by simp [h1])))
  refine Ev.have (tiFrame_ a) (Ev.ite (fun h2 => ?_) (fun h2 => Ev.some (by simp [h2])))
  refine Ev.have (tiFrame_ b) (Ev.ite (fun h3 => Ev.some (by simp [h1, h2, h3])) (fun h3 => Ev.some (by simp [h3])))
/-- A note's part in a span, if any. -/
def cut1 (a b : Int) (x : NI) : Option NI := if mx x.f0 a < mn x.f1 b then some ⟨mx x.f0 a, mn x.f1 b, x.f2⟩ else none
def cutL (a b : Int) (l : List NI) : List NI := l.filterMap (cut1 a b)
theorem cutL_length (a b : Int) (l : List NI) : (cutL a b l).length ≤ l.length := List.length_filterMap_le _ _
theorem take_atN (l : List NI) (i : Nat) (h : i < l.length) : l.take (i + 1) = l.take i ++ [atN l i] := by
  have e : atN l i = l[i] := by
    unfold atN
    rw [List.getD_eq_getElem?_getD, List.getElem?_eq_getElem h]
    rfl
  rw [e, List.take_succ_eq_append_getElem h]
theorem cutL_take (a b : Int) (l : List NI) (i : Nat) (h : i < l.length) : cutL a b (l.take (i + 1)) = cutL a b (l.take i) ++ (match cut1 a b (atN l i) with | some y => [y] | none => []) := by
  unfold cutL
  rw [take_atN l i h, List.filterMap_append]
  congr 1
  cases hc : cut1 a b (atN l i) <;> simp [hc]
theorem cut_i (l : List NI) (hl : l.length ≤ 4398046511104) (a b : Int) : Ev (fun k => impl_cut.f k l a b) (cutL a b l) := by
  have key : ∀ d i : Nat, i + d = l.length → Ev (fun k => impl_cut.l0 k a b (cutL a b (l.take i)) l (l.length : Int) (i : Int)) (cutL a b l) := by
    intro d
    induction d with
    | zero =>
      intro i hi
      refine Ev.step (fun _ => impl_cut.l0.eq_2 ..) (Ev.neg (by omega) (Ev.some ?_))
      rw [List.take_of_length_le (by omega)]
    | succ d ih =>
      intro i hi
      have h := ih (i + 1) (by omega)
      have hlen := cutL_length a b (l.take i)
      have hti : (l.take i).length = i := by simp; omega
      rw [cutL_take a b l i (by omega)] at h
      refine Ev.step (fun _ => impl_cut.l0.eq_2 ..) (Ev.pos (by omega) (Ev.pos (by omega) (Ev.pos (by omega) ?_)))
      rw [wrap_succ (by omega)]
      refine Ev.ite (fun hc => Ev.pos (by omega) ?_) (fun hc => ?_)
      · have e : cut1 a b (atN l i) = some ⟨mx (atN l i).f0 a, mn (atN l i).f1 b, (atN l i).f2⟩ := if_pos hc
        rw [e] at h
        exact h
      · have e : cut1 a b (atN l i) = none := if_neg hc
        rw [e] at h
        simpa using h
  exact key l.length 0 (by omega)
theorem cut_s (l : List NI) (hl : l.length ≤ 4398046511104) (a b : Int) : Ev (fun k => spec_tiCut.f k l a b) (cutL a b l) := by
  have key : ∀ d i : Nat, i + d = l.length → Ev (fun k => spec_tiCut.l0 k a b (cutL a b (l.take i)) l (l.length : Int) (i : Int)) (cutL a b l) := by
    intro d
    induction d with
    | zero =>
      intro i hi
      refine Ev.step (fun _ => spec_tiCut.l0.eq_2 ..) (Ev.neg (by omega) (Ev.some ?_))
      rw [List.take_of_length_le (by omega)]
    | succ d ih =>
      intro i hi
      have h := ih (i + 1) (by omega)
      have hlen := cutL_length a b (l.take i)
      have hti : (l.take i).length = i := by simp; omega
      rw [cutL_take a b l i (by omega)] at h
      refine Ev.step (fun _ => spec_tiCut.l0.eq_2 ..) (Ev.pos (by omega) (Ev.pos (by omega) (Ev.pos (by omega) (Ev.have (l1Most_ _ _) (Ev.have (l1Least_ _ _) ?_)))))
      rw [wrap_succ (by omega)]
      refine Ev.ite (fun hc => Ev.pos (by omega) ?_) (fun hc => ?_)
      · have e : cut1 a b (atN l i) = some ⟨mx (atN l i).f0 a, mn (atN l i).f1 b, (atN l i).f2⟩ := if_pos hc
        rw [e] at h
        exact h
      · have e : cut1 a b (atN l i) = none := if_neg hc
        rw [e] at h
        simpa using h
  exact key l.length 0 (by omega)
end Go.Proofs.Ytmllkdgdkagkkaa.MCut
