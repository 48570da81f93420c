/- What the printed functions on spans come to. -/
import Derived.Test.YthmegimmnhkkhaaG1
import Derived.Test.YthmegimmnhkkhaaG3
import Derived.Test.YthmegimmnhkkhaaMPure
namespace Go.Proofs.Ythmegimmnhkkhaa.MSpan
open Go.RowKit Go.Proofs.Ythmegimmnhkkhaa.G Go.Proofs.YthmegimmnhkkhaaW.PrintWords Go.Proofs.YthmegimmnhkkhaaW.PrintLast Go.Proofs.Ythmegimmnhkkhaa.MPure

def spanB (a b : Int) : Bool := decide (0 ≤ a ∧ a < b ∧ b ≤ 99999)
theorem l1In_s (a b c : Int) : spec_l1In.f a b c = some (decide (b ≤ a ∧ a ≤ c)) := by
  unfold spec_l1In.f
  by_cases h : a ≥ b
  · rw [if_pos h]; simp [show b ≤ a from h]
  · rw [if_neg h]; simp [show ¬ b ≤ a from h]
theorem IsSpan_s (a b : Int) : spec_spGood.f a b = some (spanB a b) := by
  unfold spec_spGood.f spanB
  rw [l1In_s]
  simp only [Option.bind_some, decide_eq_true_eq]
  by_cases h : 1 ≤ b ∧ b ≤ 99999
  · rw [if_pos h, l1In_s, wrap_in (by omega) (by omega)]
    simp only [Option.bind_some, Option.some.injEq, decide_eq_decide]
    omega
  · rw [if_neg h]
    simp only [Option.some.injEq]
    symm
    rw [decide_eq_false_iff_not]
    omega
theorem isFrame_i (a : Int) : impl_isFrame.f a = some (decide (0 ≤ a ∧ a ≤ 99999)) := by
  unfold impl_isFrame.f impl_within.f
  by_cases h : a ≥ 0
  · rw [if_pos h]; simp [show 0 ≤ a from h]
  · rw [if_neg h]; simp [show ¬ 0 ≤ a from h]
theorem isRange_i (a b : Int) : impl_isRange.f a b = some (spanB a b) := by
  unfold impl_isRange.f spanB
  rw [isFrame_i, isFrame_i]
  simp only [Option.bind_some, decide_eq_true_eq]
  by_cases h1 : 0 ≤ a ∧ a ≤ 99999
  · rw [if_pos h1]
    by_cases h2 : 0 ≤ b ∧ b ≤ 99999
    · rw [if_pos h2]
      simp only [Option.some.injEq, decide_eq_decide]
      omega
    · rw [if_neg h2]
      simp only [Option.some.injEq]
      symm
      rw [decide_eq_false_iff_not]
      omega
  · rw [if_neg h1]
    simp only [Option.some.injEq]
    symm
    rw [decide_eq_false_iff_not]
    omega
theorem IsSpan_i (a b : Int) : impl_IsSpan.f a b = some (spanB a b) := by
  unfold impl_IsSpan.f
  rw [isRange_i]
  rfl
theorem l1Most_ (a b : Int) : spec_l1Most.f a b = some (mx a b) := by
  unfold spec_l1Most.f mx
  by_cases h : a > b
  · rw [if_pos h]; congr 1; split <;> omega
  · rw [if_neg h]; congr 1; split <;> omega
theorem l1Least_ (a b : Int) : spec_l1Least.f a b = some (mn a b) := by
  unfold spec_l1Least.f mn
  by_cases h : a < b
  · rw [if_pos h]; congr 1; split <;> omega
  · rw [if_neg h]; congr 1; split <;> omega
end Go.Proofs.Ythmegimmnhkkhaa.MSpan
