/- The notes of a list that another list has, or has not. -/
import Derived.Test.YtphjmmaeolbggaaG0
import Derived.Test.YtphjmmaeolbggaaG24
import Derived.Test.YtphjmmaeolbggaaMNote
namespace Go.Proofs.Ytphjmmaeolbggaa.MPart
open Go.RowKit Go.Proofs.Ytphjmmaeolbggaa.G Go.Proofs.YtphjmmaeolbggaaW.PrintWords Go.Proofs.YtphjmmaeolbggaaW.PrintLast Go.Proofs.Ytphjmmaeolbggaa.MPure Go.Proofs.Ytphjmmaeolbggaa.MWord Go.Proofs.Ytphjmmaeolbggaa.MNote

/-- Whether a list has a note. -/
def hasB (l : List NI) (x : NI) : Bool := l.any (fun y => x.f0 == y.f0 && (x.f1 == y.f1 && x.f2.toList == y.f2.toList))
theorem meBoth_ (x y : List NI) (hx : Sized x) (hy : Sized y) : Ev (fun k => spec_meBoth.f k x y) (tierB x && tierB y) := by
  unfold spec_meBoth.f
  refine Ev.bind (tiGood_ x hx) (Ev.ite (fun h1 => ?_) (fun h1 => Ev.some (by simp [h1])))
  exact Ev.bind (tiGood_ y hy) (Ev.some (by simp [h1]))
theorem tier_length {l : List NI} (h : tierB l = true) : l.length ≤ 40 := by
  unfold tierB at h
  simp only [Bool.and_eq_true, decide_eq_true_eq] at h
  omega
theorem meHas_ (l : List NI) (hl : l.length ≤ 140737488351232) (x : NI) : Ev (fun k => spec_meHas.f k l x.f0 x.f1 x.f2) (hasB l x) := by
  have key : ∀ d i : Nat, i + d = l.length → Ev (fun k => spec_meHas.l0 k l (l.length : Int) (i : Int) x.f0 x.f1 x.f2) (hasB (l.drop i) x) := by
    intro d
    induction d with
    | zero =>
      intro i hi
      rw [List.drop_eq_nil_of_le (by omega)]
      exact Ev.step (fun _ => spec_meHas.l0.eq_2 ..) (Ev.neg (by omega) (Ev.some rfl))
    | succ d ih =>
      intro i hi
      have h := ih (i + 1) (by omega)
      have e : rd_T81 l (i : Int) = l[i]'(by omega) := by
        show l.getD i z81 = _
        rw [List.getD_eq_getElem?_getD, List.getElem?_eq_getElem (by omega)]
        rfl
      rw [← wrap_succ (by omega)] at h
      rw [List.drop_eq_getElem_cons (show i < l.length by omega), hasB, List.any_cons, ← e]
      have hs : (((rd_T81 l (i : Int)).f0) == x.f0 && (((rd_T81 l (i : Int)).f1) == x.f1 && ((((rd_T81 l (i : Int)).f2).toList) == x.f2.toList))) = (x.f0 == (rd_T81 l (i : Int)).f0 && (x.f1 == (rd_T81 l (i : Int)).f1 && x.f2.toList == (rd_T81 l (i : Int)).f2.toList)) := by
        rw [Bool.beq_comm, Bool.beq_comm (a := (rd_T81 l (i : Int)).f1), Bool.beq_comm (a := (rd_T81 l (i : Int)).f2.toList)]
      refine Ev.step (fun _ => spec_meHas.l0.eq_2 ..) (Ev.pos (by omega) (Ev.pos (by omega) (Ev.pos (by omega) (Ev.ite (fun he => Ev.some ?_) (fun he => Ev.eq h ?_)))))
      · rw [hs] at he
        rw [he, Bool.true_or]
      · rw [hs] at he
        rw [Bool.eq_false_iff.2 he, Bool.false_or]
        rfl
  exact key l.length 0 (by omega)
theorem mePart_ (l m : List NI) (hl : l.length ≤ 4398046511104) (hm : m.length ≤ 140737488351232) (b : Bool) : Ev (fun k => spec_mePart.f k l m b) (l.filter (fun x => hasB m x == b)) := by
  have key : ∀ d i : Nat, i + d = l.length → ∀ out : List NI, out.length ≤ i → Ev (fun k => spec_mePart.l0 k m b out l (l.length : Int) (i : Int)) (out ++ (l.drop i).filter (fun x => hasB m x == b)) := by
    intro d
    induction d with
    | zero =>
      intro i hi out _
      rw [List.drop_eq_nil_of_le (by omega)]
      exact Ev.step (fun _ => spec_mePart.l0.eq_2 ..) (Ev.neg (by omega) (Ev.some (by simp)))
    | succ d ih =>
      intro i hi out ho
      have e : rd_T81 l (i : Int) = l[i]'(by omega) := by
        show l.getD i z81 = _
        rw [List.getD_eq_getElem?_getD, List.getElem?_eq_getElem (by omega)]
        rfl
      rw [List.drop_eq_getElem_cons (show i < l.length by omega), ← e]
      refine Ev.step (fun _ => spec_mePart.l0.eq_2 ..) (Ev.pos (by omega) (Ev.pos (by omega) (Ev.pos (by omega) (Ev.bind (meHas_ m hm _) (Ev.ite (fun he => Ev.pos (by omega) ?_) (fun he => ?_))))))
      · have h := ih (i + 1) (by omega) (out ++ [rd_T81 l (i : Int)]) (by rw [List.length_append]; simp; omega)
        rw [← wrap_succ (by omega)] at h
        rw [List.filter_cons, if_pos he]
        rw [List.append_assoc, List.singleton_append] at h
        exact h
      · have h := ih (i + 1) (by omega) out (by omega)
        rw [← wrap_succ (by omega)] at h
        rw [List.filter_cons, if_neg he]
        exact h
  have h := key l.length 0 (by omega) [] (Nat.zero_le _)
  rw [List.nil_append, List.drop_zero] at h
  exact h
end Go.Proofs.Ytphjmmaeolbggaa.MPart
