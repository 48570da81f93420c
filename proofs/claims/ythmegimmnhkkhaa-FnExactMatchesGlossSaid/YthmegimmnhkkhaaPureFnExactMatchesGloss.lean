/- MatchesGloss of the program returns what that of the reference returns, for all texts; no condition beyond what every row's reading gives. -/
import Derived.Test.YthmegimmnhkkhaaG7
import Derived.Test.YthmegimmnhkkhaaG9
import Derived.Test.YthmegimmnhkkhaaG25
import Derived.Test.YthmegimmnhkkhaaMFits
import Derived.Test.YthmegimmnhkkhaaMNote
namespace Go.Proofs.Ythmegimmnhkkhaa.Pure
open Go.RowKit Go.Proofs.Ythmegimmnhkkhaa.G Go.Proofs.YthmegimmnhkkhaaW.PrintWords Go.Proofs.YthmegimmnhkkhaaW.PrintLast Go.Proofs.Ythmegimmnhkkhaa.MPure Go.Proofs.Ythmegimmnhkkhaa.MWord Go.Proofs.Ythmegimmnhkkhaa.MNote Go.Proofs.Ythmegimmnhkkhaa.MFits

def patB (c : Int) : Bool := decide ((65 ≤ c ∧ c ≤ 90) ∨ c = 63 ∨ c = 42)
theorem pats (c : Int) (h0 : 0 ≤ c) (h1 : c ≤ 255) : amongB (⟨#[65, 66, 67, 68, 69, 70, 71, 72, 73, 74, 75, 76, 77, 78, 79, 80, 81, 82, 83, 84, 85, 86, 87, 88, 89, 90, 63, 42]⟩ : ByteArray) c = patB c := by
  have key : ∀ n : Nat, n < 256 → amongB (⟨#[65, 66, 67, 68, 69, 70, 71, 72, 73, 74, 75, 76, 77, 78, 79, 80, 81, 82, 83, 84, 85, 86, 87, 88, 89, 90, 63, 42]⟩ : ByteArray) (n : Int) = patB (n : Int) := by decide +kernel
  obtain ⟨n, rfl⟩ := Int.eq_ofNat_of_zero_le h0
  exact key n (by omega)
theorem quPattern_ (s : ByteArray) (hs : s.size ≤ 140737488351232) : Ev (fun k => spec_quPattern.f k s) (wordB patB s) := by
  refine loop_all0 (L := fun k i => spec_quPattern.l0 k s i) s.size (fun i => patB (bt s (i : Int))) _ ?_ ?_ ?_
  · exact Ev.step (fun _ => spec_quPattern.l0.eq_2 ..) (Ev.neg (by omega) (Ev.have (l1In_ _ _ _) (Ev.some rfl)))
  · intro i hi hp r hr
    simp only [patB, decide_eq_true_eq] at hp
    rw [← wrap_succ (by omega)] at hr
    refine Ev.step (fun _ => spec_quPattern.l0.eq_2 ..) (Ev.pos (by omega) (Ev.pos (by omega) (Ev.ite (fun h1 => ?_) (fun h1 => Ev.neg (by omega) hr))))
    exact Ev.ite (fun _ => hr) (fun h2 => Ev.pos (by omega) hr)
  · intro i hi hp
    simp only [patB, decide_eq_false_iff_not] at hp
    refine Ev.step (fun _ => spec_quPattern.l0.eq_2 ..) (Ev.pos (by omega) (Ev.pos (by omega) (Ev.ite (fun h1 => ?_) (fun h1 => ?_))))
    · exact Ev.neg (by omega) (Ev.neg (by omega) (Ev.some rfl))
    · exact Ev.pos (by omega) (Ev.neg (by omega) (Ev.neg (by omega) (Ev.some rfl)))
def matchesR (p t : ByteArray) : Bool × Bool := if wordB patB p = true ∧ wordB capB t = true then (like p.data.toList t.data.toList, true) else (false, false)
theorem FnExactMatchesGloss : laws_FnExactMatchesGloss.Pure := by
  intro p t _ _
  refine Ev.rounds (Ev.ite (fun _ => Ev.some rfl) (fun hp => Ev.ite (fun _ => Ev.some rfl) (fun ht => ?_)))
  have hs : Ev (fun k => spec_MatchesGloss.f k p t) (matchesR p t) := by
    unfold spec_MatchesGloss.f matchesR
    refine Ev.bind (quPattern_ p (by omega)) (Ev.ite (fun h1 => ?_) (fun h1 => Ev.some (by simp [h1])))
    refine Ev.bind (fsWord_ t (by omega)) (Ev.ite (fun h2 => ?_) (fun h2 => Ev.some (by simp [h2])))
    exact Ev.bind (quLike_ _ p t (Nat.le_refl _) (by omega) (by omega)) (Ev.some (by rw [if_pos ⟨h1, h2⟩]))
  have hi : Ev (fun k => impl_MatchesGloss.f k p t) (matchesR p t) := by
    unfold impl_MatchesGloss.f matchesR
    have hg : Ev (fun k => impl_isGlossPattern.f k p) (wordB patB p) := by
      unfold impl_isGlossPattern.f
      exact Ev.bind (Ev.eq (isWordOf_ p _ (by omega)) (wordB_congr pats p)) (Ev.some rfl)
    have hw : Ev (fun k => impl_IsGloss.f k t) (wordB capB t) := by
      unfold impl_IsGloss.f
      exact Ev.bind (isWord_ t (by omega)) (Ev.some rfl)
    refine Ev.bind hg (Ev.ite (fun h1 => ?_) (fun h1 => Ev.some (by simp [h1])))
    refine Ev.bind hw (Ev.ite (fun h2 => ?_) (fun h2 => Ev.some (by simp [h2])))
    exact Ev.bind (Ev.eq (fits_ p t (by omega) (by omega)) (one_answer p t)) (Ev.some (by rw [if_pos ⟨h1, h2⟩]))
  exact Ev.bind hs (Ev.bind hi (Ev.neg (by simp) (Ev.neg (by simp) (Ev.some rfl))))
end Go.Proofs.Ythmegimmnhkkhaa.Pure
