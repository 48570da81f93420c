/- FrameGlosses of the program returns what that of the reference returns, for every list of notes and all frames, and in memory of its own; no condition beyond what every row's reading gives. -/
import Derived.Test.YthiaggolmbephaaG21
import Derived.Test.YthiaggolmbephaaG23
import Derived.Test.YthiaggolmbephaaMWin
import Derived.Test.YthiaggolmbephaaMGloss
import Derived.Test.YthiaggolmbephaaMMarkN
import Derived.Test.YthiaggolmbephaaMMarkS
namespace Go.Proofs.Ythiaggolmbephaa.Pure
open Go.RowKit Go.Proofs.Ythiaggolmbephaa.G Go.Proofs.YthiaggolmbephaaW.PrintWords Go.Proofs.YthiaggolmbephaaW.PrintLast Go.Proofs.Ythiaggolmbephaa.MPure Go.Proofs.Ythiaggolmbephaa.MWord Go.Proofs.Ythiaggolmbephaa.MNote Go.Proofs.Ythiaggolmbephaa.MCut Go.Proofs.Ythiaggolmbephaa.MWin Go.Proofs.Ythiaggolmbephaa.MGloss Go.Proofs.Ythiaggolmbephaa.MMarkN Go.Proofs.Ythiaggolmbephaa.MMarkS

theorem frame_loops (x : List NI) (hx : Sized x) (tx : tierB x = true) (b : Int) (hb : b ≤ 99999) : ∀ (d : Nat) (a : Int) (s : List ByteArray), a + d = b → 0 ≤ a → s.length + d ≤ 200 → ∃ r : List ByteArray, r.length ≤ 200 ∧ Ev (fun k => spec_FrameGlosses.l0 k x b s a) (r, true) ∧ Ev (fun k => impl_frameGlosses.l0 k x b s a) r := by
  intro d
  induction d with
  | zero =>
    intro a s hd ha hs
    exact ⟨s, by omega, Ev.step (fun _ => spec_FrameGlosses.l0.eq_2 ..) (Ev.neg (by omega) (Ev.some rfl)), Ev.step (fun _ => impl_frameGlosses.l0.eq_2 ..) (Ev.neg (by omega) (Ev.some rfl))⟩
  | succ d ih =>
    intro a s hd ha hs
    have hw := wrap_step (x := a) (by omega) (by omega)
    obtain ⟨r, hr, h1, h2⟩ := ih (a + 1) (s ++ [glossB x a]) (by omega) (by omega) (by simp; omega)
    rw [← hw] at h1 h2
    exact ⟨r, hr, Ev.step (fun _ => spec_FrameGlosses.l0.eq_2 ..) (Ev.pos (by omega) (Ev.bind (agGloss_ x hx a) (Ev.pos (by omega) h1))), Ev.step (fun _ => impl_frameGlosses.l0.eq_2 ..) (Ev.pos (by omega) (Ev.have (glossAt_ x tx a) (Ev.pos (by omega) h2)))⟩
theorem Frame_both (x : List NI) (hx : Sized x) (a b : Int) : ∃ r : List ByteArray × Bool, r.1.length ≤ 200 ∧ Ev (fun k => spec_FrameGlosses.f k x a b) r ∧ Ev (fun k => impl_FrameGlosses.f k x a b) r := by
  unfold spec_FrameGlosses.f impl_FrameGlosses.f
  cases h1 : tierB x with
  | false => exact ⟨([], false), Nat.zero_le _, Ev.bind (Ev.eq (tiGood_ x hx) h1) (Ev.neg (by decide) (Ev.step (fun _ => spec_FrameGlosses.j0.eq_2 ..) (Ev.pos rfl (Ev.some rfl)))), Ev.bind (Ev.eq (IsTier_ x hx) h1) (Ev.neg (by decide) (Ev.some rfl))⟩
  | true =>
    cases h3 : windowB a b with
    | false => exact ⟨([], false), Nat.zero_le _, Ev.bind (Ev.eq (tiGood_ x hx) h1) (Ev.pos rfl (Ev.have ((agWindow_ a b).trans (congrArg some h3)) (Ev.step (fun _ => spec_FrameGlosses.j0.eq_2 ..) (Ev.pos rfl (Ev.some rfl))))), Ev.bind (Ev.eq (IsTier_ x hx) h1) (Ev.pos rfl (Ev.have ((isWindow_ a b).trans (congrArg some h3)) (Ev.neg (by decide) (Ev.some rfl))))⟩
    | true =>
      have hw := windowB_in h3
      obtain ⟨r, hl, hr, hq⟩ := frame_loops x hx h1 b (by omega) (b - a).toNat a [] (by omega) (by omega) (by simp; omega)
      exact ⟨(r, true), hl, Ev.bind (Ev.eq (tiGood_ x hx) h1) (Ev.pos rfl (Ev.have ((agWindow_ a b).trans (congrArg some h3)) (Ev.step (fun _ => spec_FrameGlosses.j0.eq_2 ..) (Ev.neg (by decide) hr)))), Ev.bind (Ev.eq (IsTier_ x hx) h1) (Ev.pos rfl (Ev.have ((isWindow_ a b).trans (congrArg some h3)) (Ev.pos rfl (Ev.bind hq (Ev.some rfl)))))⟩
theorem FnExactFrameGlosses : laws_FnExactFrameGlosses.Pure := by
  intro l a b hl _ _
  obtain ⟨z, hz, _, _⟩ := szNoteS_ l hl 1048576 (by omega) (by omega)
  have ht := toNoteS_ l hl.2
  have hsz := Given.sized hl
  obtain ⟨⟨r, q⟩, hr, h1, h2⟩ := Frame_both _ hsz a b
  replace hr : r.length ≤ 200 := hr
  have he := eqStringS_ r (by omega)
  have hx := eqNoteS_ _ hsz.1
  have hmx := markNoteS_ (l.map conv) hsz.1 1 (by omega) (by omega)
  have hmr := markStringS_ r (by omega) 1 (by omega) (by omega)
  have hh := heldStringS_ r.length (by omega) 1 (by omega) (by omega)
  refine Ev.rounds (Ev.bind hz (Ev.ite (fun _ => Ev.some rfl) (fun _ => ?_)))
  refine Ev.bind ht (Ev.bind h1 (Ev.bind ht (Ev.bind h2 (Ev.bind he (Ev.pos rfl ?_)))))
  refine Ev.step (fun _ => laws_FnExactFrameGlosses.j0.eq_2 ..) (Ev.neg (by simp) (Ev.bind ht (Ev.bind hx (Ev.pos rfl (Ev.bind hmx (Ev.neg (by simp; omega) (Ev.bind he (Ev.pos rfl ?_))))))))
  refine Ev.step (fun _ => laws_FnExactFrameGlosses.j1.eq_2 ..) (Ev.neg (by simp) (Ev.bind hmr (Ev.bind hh (Ev.neg (by omega) (Ev.pos rfl (Ev.bind ht (Ev.bind h2 (Ev.bind he (Ev.pos rfl ?_)))))))))
  exact Ev.step (fun _ => laws_FnExactFrameGlosses.j2.eq_2 ..) (Ev.neg (by simp) (Ev.bind hh (Ev.neg (by omega) (Ev.pos rfl (Ev.some rfl)))))
end Go.Proofs.Ythiaggolmbephaa.Pure
