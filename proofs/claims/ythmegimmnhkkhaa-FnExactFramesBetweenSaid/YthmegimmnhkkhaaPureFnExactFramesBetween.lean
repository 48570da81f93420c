/- FramesBetween of the program returns what that of the reference returns, for all spans; no condition. -/
import Derived.Test.YthmegimmnhkkhaaG1
import Derived.Test.YthmegimmnhkkhaaG2
import Derived.Test.YthmegimmnhkkhaaMSpan
namespace Go.Proofs.Ythmegimmnhkkhaa.Pure
open Go.RowKit Go.Proofs.Ythmegimmnhkkhaa.G Go.Proofs.YthmegimmnhkkhaaW.PrintWords Go.Proofs.YthmegimmnhkkhaaW.PrintLast Go.Proofs.Ythmegimmnhkkhaa.MPure Go.Proofs.Ythmegimmnhkkhaa.MSpan

theorem FnExactFramesBetween : laws_FnExactFramesBetween.Pure := by
  intro a b c d ha hb hc hd
  have hs : Ev (fun k => spec_FramesBetween.f k a b c d) (if spanB a b = true ∧ spanB c d = true then (mx 0 (mx (wrap64 (a - d)) (wrap64 (c - b))), true) else (0, false)) := by
    unfold spec_FramesBetween.f
    refine Ev.have (IsSpan_s a b) (Ev.ite (fun h1 => ?_) (fun h1 => ?_))
    · refine Ev.have (IsSpan_s c d) (Ev.step (fun _ => spec_FramesBetween.j0.eq_2 ..) (Ev.ite (fun h2 => ?_) (fun h2 => ?_)))
      · simp only [Bool.not_eq_true'] at h2
        exact Ev.some (by simp [h2])
      · simp only [Bool.not_eq_true'] at h2
        exact Ev.have (l1Most_ _ _) (Ev.have (l1Most_ _ _) (Ev.some (by simp [h1, h2])))
    · exact Ev.step (fun _ => spec_FramesBetween.j0.eq_2 ..) (Ev.pos rfl (Ev.some (by simp [h1])))
  have hi : impl_FramesBetween.f a b c d = some (if spanB a b = true ∧ spanB c d = true then (mx (mx 0 (wrap64 (c - b))) (wrap64 (a - d)), true) else (0, false)) := by
    unfold impl_FramesBetween.f
    rw [IsSpan_i, IsSpan_i]
    simp only [Option.bind_some]
    by_cases h1 : spanB a b = true
    · by_cases h2 : spanB c d = true
      · simp [h1, h2]
      · simp [h1, h2]
    · simp [h1]
  have e : mx 0 (mx (wrap64 (a - d)) (wrap64 (c - b))) = mx (mx 0 (wrap64 (c - b))) (wrap64 (a - d)) := by
    generalize wrap64 (a - d) = x
    generalize wrap64 (c - b) = y
    unfold mx
    repeat' split
    all_goals omega
  unfold laws_FnExactFramesBetween.f
  refine Ev.rounds (Ev.have rfl (Ev.have rfl (Ev.bind hs (Ev.have rfl (Ev.have rfl (Ev.have hi ?_))))))
  rw [e]
  exact Ev.pos rfl (Ev.neg (by simp) (Ev.some rfl))
end Go.Proofs.Ythmegimmnhkkhaa.Pure
