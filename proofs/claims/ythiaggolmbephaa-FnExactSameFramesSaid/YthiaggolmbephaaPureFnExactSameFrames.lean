/- SameFrames of the program returns what that of the reference returns, for all lists of notes and all frames; no condition beyond what every row's reading gives. -/
import Derived.Test.YthiaggolmbephaaG13
import Derived.Test.YthiaggolmbephaaMWin
import Derived.Test.YthiaggolmbephaaMGloss
namespace Go.Proofs.Ythiaggolmbephaa.Pure
open Go.RowKit Go.Proofs.Ythiaggolmbephaa.G Go.Proofs.YthiaggolmbephaaW.PrintWords Go.Proofs.YthiaggolmbephaaW.PrintLast Go.Proofs.Ythiaggolmbephaa.MPure Go.Proofs.Ythiaggolmbephaa.MWord Go.Proofs.Ythiaggolmbephaa.MNote Go.Proofs.Ythiaggolmbephaa.MCut Go.Proofs.Ythiaggolmbephaa.MWin Go.Proofs.Ythiaggolmbephaa.MGloss

theorem same_loops (x y : List NI) (hx : Sized x) (hy : Sized y) (tx : tierB x = true) (ty : tierB y = true) (b : Int) (hb : b ≤ 99999) : ∀ (d : Nat) (a s : Int), a + d = b → 0 ≤ a → ∃ r : Int, Ev (fun k => spec_agSame.l0 k x y b s a) r ∧ Ev (fun k => impl_sameFrames.l0 k x y b s a) r := by
  intro d
  induction d with
  | zero =>
    intro a s hd ha
    exact ⟨s, Ev.step (fun _ => spec_agSame.l0.eq_2 ..) (Ev.neg (by omega) (Ev.some rfl)), Ev.step (fun _ => impl_sameFrames.l0.eq_2 ..) (Ev.neg (by omega) (Ev.some rfl))⟩
  | succ d ih =>
    intro a s hd ha
    have hw := wrap_step (x := a) (by omega) (by omega)
    by_cases he : (glossB x a).toList = (glossB y a).toList
    · obtain ⟨r, h1, h2⟩ := ih (a + 1) (wrap64 (s + 1)) (by omega) (by omega)
      rw [← hw] at h1 h2
      exact ⟨r, Ev.step (fun _ => spec_agSame.l0.eq_2 ..) (Ev.pos (by omega) (Ev.bind (agGloss_ x hx a) (Ev.bind (agGloss_ y hy a) (Ev.pos he h1)))), Ev.step (fun _ => impl_sameFrames.l0.eq_2 ..) (Ev.pos (by omega) (Ev.have (glossAt_ x tx a) (Ev.have (glossAt_ y ty a) (Ev.pos he h2))))⟩
    · obtain ⟨r, h1, h2⟩ := ih (a + 1) s (by omega) (by omega)
      rw [← hw] at h1 h2
      exact ⟨r, Ev.step (fun _ => spec_agSame.l0.eq_2 ..) (Ev.pos (by omega) (Ev.bind (agGloss_ x hx a) (Ev.bind (agGloss_ y hy a) (Ev.neg he h1)))), Ev.step (fun _ => impl_sameFrames.l0.eq_2 ..) (Ev.pos (by omega) (Ev.have (glossAt_ x tx a) (Ev.have (glossAt_ y ty a) (Ev.neg he h2))))⟩
theorem Same_both (x y : List NI) (hx : Sized x) (hy : Sized y) (a b : Int) : ∃ r : Int × Bool, Ev (fun k => spec_SameFrames.f k x y a b) r ∧ Ev (fun k => impl_SameFrames.f k x y a b) r := by
  unfold spec_SameFrames.f impl_SameFrames.f
  have hs := agAsked_ x y hx hy a b
  cases h1 : tierB x with
  | false => exact ⟨(0, false), Ev.bind (Ev.eq (r := false) hs (by simp [h1])) (Ev.neg (by decide) (Ev.some rfl)), Ev.bind (Ev.eq (IsTier_ x hx) h1) (Ev.neg (by decide) (Ev.some rfl))⟩
  | true =>
    cases h2 : tierB y with
    | false => exact ⟨(0, false), Ev.bind (Ev.eq (r := false) hs (by simp [h2])) (Ev.neg (by decide) (Ev.some rfl)), Ev.bind (Ev.eq (IsTier_ x hx) h1) (Ev.pos rfl (Ev.bind (Ev.eq (IsTier_ y hy) h2) (Ev.neg (by decide) (Ev.some rfl))))⟩
    | true =>
      cases h3 : windowB a b with
      | false => exact ⟨(0, false), Ev.bind (Ev.eq (r := false) hs (by simp [h3])) (Ev.neg (by decide) (Ev.some rfl)), Ev.bind (Ev.eq (IsTier_ x hx) h1) (Ev.pos rfl (Ev.bind (Ev.eq (IsTier_ y hy) h2) (Ev.pos rfl (Ev.have ((isWindow_ a b).trans (congrArg some h3)) (Ev.neg (by decide) (Ev.some rfl))))))⟩
      | true =>
        have hw := windowB_in h3
        obtain ⟨r, hr, hq⟩ := same_loops x y hx hy h1 h2 b (by omega) (b - a).toNat a 0 (by omega) (by omega)
        exact ⟨(r, true), Ev.bind (Ev.eq (r := true) hs (by simp [h1, h2, h3])) (Ev.pos rfl (Ev.bind hr (Ev.some rfl))), Ev.bind (Ev.eq (IsTier_ x hx) h1) (Ev.pos rfl (Ev.bind (Ev.eq (IsTier_ y hy) h2) (Ev.pos rfl (Ev.have ((isWindow_ a b).trans (congrArg some h3)) (Ev.pos rfl (Ev.bind hq (Ev.some rfl)))))))⟩
theorem FnExactSameFrames : laws_FnExactSameFrames.Pure := by
  intro l m a b hl hm _ _
  obtain ⟨z, hz, z0, z1⟩ := szNoteS_ l hl 1048576 (by omega) (by omega)
  have ht := toNoteS_ l hl.2
  have hu := toNoteS_ m hm.2
  obtain ⟨r, h1, h2⟩ := Same_both _ _ (Given.sized hl) (Given.sized hm) a b
  refine Ev.rounds (Ev.bind hz (Ev.ite (fun _ => Ev.some rfl) (fun hn => ?_)))
  obtain ⟨z', hz', _, _⟩ := szNoteS_ m hm z (by omega) (by omega)
  refine Ev.bind hz' (Ev.ite (fun _ => Ev.some rfl) (fun _ => ?_))
  refine Ev.bind ht (Ev.bind hu (Ev.bind h1 (Ev.bind ht (Ev.bind hu (Ev.bind h2 (Ev.pos rfl ?_))))))
  exact Ev.step (fun _ => laws_FnExactSameFrames.j0.eq_2 ..) (Ev.neg (by simp) (Ev.bind ht (Ev.bind (eqNoteS_ _ (Given.sized hl).1) (Ev.pos rfl (Ev.bind hu (Ev.bind (eqNoteS_ _ (Given.sized hm).1) (Ev.pos rfl (Ev.some rfl))))))))
end Go.Proofs.Ythiaggolmbephaa.Pure
