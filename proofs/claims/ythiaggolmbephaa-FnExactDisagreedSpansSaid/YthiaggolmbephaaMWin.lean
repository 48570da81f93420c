/- Windows of frames: what the reference and the program take for one. -/
import Derived.Test.YthiaggolmbephaaG11
import Derived.Test.YthiaggolmbephaaG12
import Derived.Test.YthiaggolmbephaaMCut
namespace Go.Proofs.Ythiaggolmbephaa.MWin
open Go.RowKit Go.Proofs.Ythiaggolmbephaa.G Go.Proofs.YthiaggolmbephaaW.PrintWords Go.Proofs.YthiaggolmbephaaW.PrintLast Go.Proofs.Ythiaggolmbephaa.MPure Go.Proofs.Ythiaggolmbephaa.MWord Go.Proofs.Ythiaggolmbephaa.MNote Go.Proofs.Ythiaggolmbephaa.MCut

def windowB (a b : Int) : Bool := rangeB a b && decide (b - a ≤ 200)
theorem windowB_in {a b : Int} (h : windowB a b = true) : 0 ≤ a ∧ a < b ∧ b ≤ 99999 ∧ b - a ≤ 200 := by
  simp only [windowB, rangeB, frameB, Bool.and_eq_true, decide_eq_true_eq] at h
  omega
theorem isWindow_ (a b : Int) : impl_isWindow.f a b = some (windowB a b) := by
  unfold impl_isWindow.f windowB
  rw [isRange_]
  simp only [Option.bind_some]
  cases h : rangeB a b with
  | false => simp
  | true =>
    simp only [rangeB, frameB, Bool.and_eq_true, decide_eq_true_eq] at h
    rw [if_pos rfl, wrap_in (by omega) (by omega)]
    simp
theorem agFrame_ (a : Int) : spec_agFrame.f a = some (frameB a) := by
  unfold spec_agFrame.f
  rw [l1In_]
  rfl
theorem agWindow_ (a b : Int) : spec_agWindow.f a b = some (windowB a b) := by
  unfold spec_agWindow.f windowB rangeB
  rw [agFrame_, agFrame_]
  simp only [Option.bind_some]
  cases h1 : frameB a with
  | false => simp
  | true =>
    rw [if_pos rfl]
    cases h2 : frameB b with
    | false => simp
    | true =>
      simp only [frameB, decide_eq_true_eq] at h1 h2
      rw [if_pos rfl, wrap_in (by omega) (by omega), l1In_]
      simp only [Option.bind_some, Bool.true_and]
      congr 1
      rw [Bool.eq_iff_iff]
      simp only [Bool.and_eq_true, decide_eq_true_eq]
      omega
theorem agAsked_ (x y : List NI) (hx : Sized x) (hy : Sized y) (a b : Int) : Ev (fun k => spec_agAsked.f k x y a b) (tierB x && tierB y && windowB a b) := by
  unfold spec_agAsked.f
  refine Ev.bind (tiGood_ x hx) (Ev.ite (fun h1 => ?_) (fun h1 => Ev.some (by simp [h1])))
  refine Ev.bind (tiGood_ y hy) (Ev.ite (fun h2 => ?_) (fun h2 => Ev.some (by simp [h2])))
  exact Ev.have (agWindow_ a b) (Ev.some (by simp [h1, h2]))
theorem wrap_step {x : Int} (h0 : 0 ≤ x) (h1 : x ≤ 99999) : wrap64 (x + 1) = x + 1 := wrap_in (by omega) (by omega)
end Go.Proofs.Ythiaggolmbephaa.MWin
