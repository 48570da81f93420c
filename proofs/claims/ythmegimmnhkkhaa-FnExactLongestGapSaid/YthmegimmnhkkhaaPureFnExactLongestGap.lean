/- LongestGap of the program returns what that of the reference returns, for every list of notes; no condition beyond what every row's reading gives. -/
import Derived.Test.YthmegimmnhkkhaaG0
import Derived.Test.YthmegimmnhkkhaaG26
import Derived.Test.YthmegimmnhkkhaaMNote
import Derived.Test.YthmegimmnhkkhaaMGloss
namespace Go.Proofs.Ythmegimmnhkkhaa.Pure
open Go.RowKit Go.Proofs.Ythmegimmnhkkhaa.G Go.Proofs.YthmegimmnhkkhaaW.PrintWords Go.Proofs.YthmegimmnhkkhaaW.PrintLast Go.Proofs.Ythmegimmnhkkhaa.MPure Go.Proofs.Ythmegimmnhkkhaa.MWord Go.Proofs.Ythmegimmnhkkhaa.MNote Go.Proofs.Ythmegimmnhkkhaa.MGloss

theorem gap_eq (l : List NI) (i : Nat) (hi : i + 1 < 4611686018427387904) : wrap64 ((rd_T37 l (wrap64 ((i : Int) + 1))).f0 - (rd_T37 l (i : Int)).f1) = impl_LongestGap.gap l (i : Int) := by
  unfold impl_LongestGap.gap
  rw [wrap_in (n := (i : Int) + 1) (by omega) (by omega)]
theorem gap_first (l : List NI) (h : tierB l = true) (h2 : 2 ≤ l.length) : impl_LongestGap.gap l 0 > -1 := by
  have b0 := tier_bounds h (atN_mem (l := l) (i := 0) (by omega))
  have b1 := tier_bounds h (atN_mem (l := l) (i := 1) (by omega))
  simp only [tierB, Bool.and_eq_true, List.all_eq_true, List.mem_range] at h
  have h3 := h.1 1 (by omega)
  simp only [tierP, Bool.and_eq_true, Bool.or_eq_true, decide_eq_true_eq] at h3
  have h4 : (atN l 0).f1 ≤ (atN l 1).f0 := by
    rcases h3.2 with h | h
    · omega
    · exact h
  show wrap64 ((atN l 1).f0 - (atN l 0).f1) > -1
  rw [wrap_in (by omega) (by omega)]
  omega
theorem gap_loop (l : List NI) (hl : l.length ≤ 140737488351232) : ∀ d i : Nat, 1 ≤ i → i + d + 1 = l.length → Ev (fun k => spec_LongestGap.l0 k l (impl_LongestGap.best l i) (impl_LongestGap.gap l (impl_LongestGap.best l i)) (i : Int)) (impl_LongestGap.best l (l.length - 1), impl_LongestGap.gap l (impl_LongestGap.best l (l.length - 1)), true) := by
  intro d
  induction d with
  | zero =>
    intro i h1 hi
    obtain rfl : i = l.length - 1 := by omega
    refine Ev.step (fun _ => spec_LongestGap.l0.eq_2 ..) (Ev.neg ?_ (Ev.some rfl))
    rw [wrap_in (by omega) (by omega)]
    omega
  | succ d ih =>
    intro i h1 hi
    have h := ih (i + 1) (by omega) (by omega)
    have hw : wrap64 ((i : Int) + 1) = (i : Int) + 1 := wrap_in (by omega) (by omega)
    refine Ev.step (fun _ => spec_LongestGap.l0.eq_2 ..) (Ev.pos (by omega) (Ev.pos (by omega) (Ev.pos (by omega) (Ev.pos (by omega) ?_))))
    rw [gap_eq l i (by omega), wrap_succ (by omega)]
    refine Ev.ite (fun hg => ?_) (fun hg => ?_)
    · have e : impl_LongestGap.best l (i + 1) = (i : Int) := if_pos hg
      rw [e] at h
      exact h
    · have e : impl_LongestGap.best l (i + 1) = impl_LongestGap.best l i := if_neg hg
      rw [e] at h
      exact h
def gapR (l : List NI) : Int × Int × Bool := if tierB l = true ∧ 2 ≤ l.length then (impl_LongestGap.best l (l.length - 1), impl_LongestGap.gap l (impl_LongestGap.best l (l.length - 1)), true) else (0, 0, false)
theorem LongestGap_i (l : List NI) (hl : Sized l) : Ev (fun k => impl_LongestGap.f k l) (gapR l) := by
  unfold impl_LongestGap.f gapR
  exact Ev.bind (IsTier_ l hl) (Ev.some rfl)
theorem LongestGap_s (l : List NI) (hl : Sized l) : Ev (fun k => spec_LongestGap.f k l) (gapR l) := by
  unfold spec_LongestGap.f gapR
  refine Ev.bind (tiGood_ l hl) (Ev.ite (fun h1 => ?_) (fun h1 => ?_))
  · by_cases h2 : 2 ≤ l.length
    · rw [if_pos ⟨h1, h2⟩]
      have hl2 := hl.1
      refine Ev.step (fun _ => spec_LongestGap.j0.eq_2 ..) (Ev.neg (by simp; omega) ?_)
      have h := gap_loop l hl.1 (l.length - 2) 1 (Nat.le_refl _) (by omega)
      have e1 : impl_LongestGap.best l 1 = 0 := if_neg (Int.lt_irrefl _)
      rw [e1] at h
      have e0 := gap_eq l 0 (by omega)
      have hw : wrap64 (((0 : Nat) : Int) + 1) = 1 := wrap_in (by omega) (by omega)
      have hw2 : wrap64 ((0 : Int) + 1) = ((1 : Nat) : Int) := hw
      refine Ev.step (fun _ => spec_LongestGap.l0.eq_2 ..) (Ev.pos (by omega) (Ev.pos (by omega) (Ev.pos (by omega) (Ev.pos (by omega) ?_))))
      have e2 : wrap64 ((rd_T37 l (wrap64 ((0 : Int) + 1))).f0 - (rd_T37 l (0 : Int)).f1) = impl_LongestGap.gap l 0 := e0
      rw [e2, hw2]
      exact Ev.pos (gap_first l h1 h2) h
    · rw [if_neg (fun h => h2 h.2)]
      exact Ev.step (fun _ => spec_LongestGap.j0.eq_2 ..) (Ev.pos (by simp; omega) (Ev.some rfl))
  · rw [if_neg (fun h => h1 h.1)]
    exact Ev.step (fun _ => spec_LongestGap.j0.eq_2 ..) (Ev.pos rfl (Ev.some rfl))
theorem FnExactLongestGap : laws_FnExactLongestGap.Pure := by
  intro l hl
  obtain ⟨z, hz, _, _⟩ := szNoteS_ l hl 1048576 (by omega) (by omega)
  have ht := toNoteS_ l hl.2
  have hsz := Given.sized hl
  have h1 := LongestGap_s _ hsz
  have h2 := LongestGap_i _ hsz
  refine Ev.rounds (Ev.bind hz (Ev.ite (fun _ => Ev.some rfl) (fun _ => ?_)))
  refine Ev.bind ht (Ev.bind h1 (Ev.bind ht (Ev.bind h2 (Ev.pos rfl (Ev.pos rfl ?_)))))
  exact Ev.step (fun _ => laws_FnExactLongestGap.j0.eq_2 ..) (Ev.neg (by simp) (Ev.bind ht (Ev.bind (eqNoteS_ _ hsz.1) (Ev.pos rfl (Ev.some rfl)))))
end Go.Proofs.Ythmegimmnhkkhaa.Pure
