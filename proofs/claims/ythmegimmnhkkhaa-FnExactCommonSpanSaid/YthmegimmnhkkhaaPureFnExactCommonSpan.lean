/- CommonSpan of the program returns what that of the reference returns, for all spans; no condition. -/
import Derived.Test.YthmegimmnhkkhaaG4
import Derived.Test.YthmegimmnhkkhaaG5
import Derived.Test.YthmegimmnhkkhaaG6
import Derived.Test.YthmegimmnhkkhaaMSpan
namespace Go.Proofs.Ythmegimmnhkkhaa.Pure
open Go.RowKit Go.Proofs.Ythmegimmnhkkhaa.G Go.Proofs.YthmegimmnhkkhaaW.PrintWords Go.Proofs.YthmegimmnhkkhaaW.PrintLast Go.Proofs.Ythmegimmnhkkhaa.MPure Go.Proofs.Ythmegimmnhkkhaa.MSpan

theorem FnExactCommonSpan : laws_FnExactCommonSpan.Pure := by
  intro a b c d ha hb hc hd
  have hs : Ev (fun k => spec_CommonSpan.f k a b c d) (if spanB a b = true ∧ spanB c d = true then (if mx a c ≥ mn b d then (0, 0, false) else (mx a c, mn b d, true)) else (0, 0, false)) := by
    unfold spec_CommonSpan.f
    refine Ev.have (IsSpan_s a b) (Ev.ite (fun h1 => ?_) (fun h1 => ?_))
    · refine Ev.have (IsSpan_s c d) (Ev.step (fun _ => spec_CommonSpan.j0.eq_2 ..) (Ev.ite (fun h2 => ?_) (fun h2 => ?_)))
      · simp only [Bool.not_eq_true'] at h2
        exact Ev.some (by simp [h2])
      · simp only [Bool.not_eq_true'] at h2
        refine Ev.have (l1Most_ _ _) (Ev.have (l1Least_ _ _) (Ev.ite (fun h3 => Ev.some ?_) (fun h3 => Ev.some ?_)))
        · rw [if_pos ⟨h1, by simpa using h2⟩, if_pos h3]
        · rw [if_pos ⟨h1, by simpa using h2⟩, if_neg h3]
    · exact Ev.step (fun _ => spec_CommonSpan.j0.eq_2 ..) (Ev.pos rfl (Ev.some (by simp [h1])))
  have hi : impl_CommonSpan.f a b c d = some (if spanB a b = true ∧ spanB c d = true then (if mx a c ≥ mn b d then (0, 0, false) else (mx a c, mn b d, true)) else (0, 0, false)) := by
    unfold impl_CommonSpan.f
    rw [IsSpan_i, IsSpan_i]
    simp only [Option.bind_some]
    by_cases h1 : spanB a b = true
    · by_cases h2 : spanB c d = true
      · by_cases h3 : mx a c ≥ mn b d
        · simp only [h1, h2, if_true, if_pos h3, and_self]
        · simp only [h1, h2, if_true, if_neg h3, and_self]
      · simp [h1, h2]
    · simp [h1]
  have heq : ∀ x y : Int, laws_eqSpan.f x y x y = some true := fun x y => by
    unfold laws_eqSpan.f
    rw [if_pos rfl, if_pos rfl]
  generalize (if spanB a b = true ∧ spanB c d = true then (if mx a c ≥ mn b d then (0, 0, false) else (mx a c, mn b d, true)) else ((0 : Int), (0 : Int), false)) = r at hs hi
  obtain ⟨x, y, z⟩ := r
  unfold laws_FnExactCommonSpan.f
  refine Ev.rounds (Ev.have rfl (Ev.have rfl (Ev.bind hs (Ev.have rfl (Ev.have rfl (Ev.have hi (Ev.have (heq _ _) (Ev.pos rfl (Ev.neg (by simp) (Ev.some rfl))))))))))
end Go.Proofs.Ythmegimmnhkkhaa.Pure
