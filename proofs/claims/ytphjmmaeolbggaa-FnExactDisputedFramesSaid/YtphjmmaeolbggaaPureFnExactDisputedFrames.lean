/- DisputedFrames of the program returns what that of the reference returns, for all lists of notes; no condition beyond what every row's reading gives. -/
import Derived.Test.YtphjmmaeolbggaaG34
import Derived.Test.YtphjmmaeolbggaaG43
import Derived.Test.YtphjmmaeolbggaaMShare
namespace Go.Proofs.Ytphjmmaeolbggaa.Pure
open Go.RowKit Go.Proofs.Ytphjmmaeolbggaa.G Go.Proofs.YtphjmmaeolbggaaW.PrintWords Go.Proofs.YtphjmmaeolbggaaW.PrintLast Go.Proofs.Ytphjmmaeolbggaa.MPure Go.Proofs.Ytphjmmaeolbggaa.MWord Go.Proofs.Ytphjmmaeolbggaa.MNote Go.Proofs.Ytphjmmaeolbggaa.MGlossT Go.Proofs.Ytphjmmaeolbggaa.MShare

theorem overDisputedFrames_in (x y : List NI) (sx : x.length ≤ 40) (sy : y.length ≤ 40) (i : Nat) (hi : i < x.length) (r : List DI) (hn : Ev (fun k => impl_overlapsForDisputedFrames.l0 k y (share notQ (x.take (i + 1)) y) x (x.length : Int) ((i + 1 : Nat) : Int)) r) :
    ∀ e j : Nat, j + e = y.length → Ev (fun k => impl_overlapsForDisputedFrames.l1 k y (share notQ (x.take i) y ++ shareIn notQ (atN x i) (y.take j)) x (x.length : Int) (i : Int) y (y.length : Int) (j : Int) (atN x i).f0 (atN x i).f1 (atN x i).f2) r := by
  intro e
  induction e with
  | zero =>
    intro j hj
    rw [share_take _ x y i hi, ← wrap_succ (by omega)] at hn
    rw [List.take_of_length_le (l := y) (by omega)]
    exact Ev.step (fun _ => impl_overlapsForDisputedFrames.l1.eq_2 ..) (Ev.neg (by omega) hn)
  | succ e ih =>
    intro j hj
    have h := ih (j + 1) (by omega)
    rw [← wrap_succ (by omega)] at h
    have l1 := share_bound notQ (x.take i) y (by simp; omega) sy
    have l2 := shareIn_length notQ (atN x i) (y.take j)
    have l3 : (y.take j).length ≤ 40 := by simp; omega
    refine Ev.step (fun _ => impl_overlapsForDisputedFrames.l1.eq_2 ..) (Ev.pos (by omega) (Ev.pos (by omega) (Ev.pos (by omega) (Ev.ite (fun h1 => Ev.have (rfl : impl_DisputedFramesLit1.f _ = some (notQ _)) (Ev.ite (fun h2 => Ev.pos (by rw [List.length_append]; omega) ?_) (fun h2 => ?_))) (fun h1 => ?_)))))
    · have hs : shareB notQ (atN x i) (atN y j) = true := by
        unfold shareB
        rw [Bool.and_eq_true, decide_eq_true_eq]
        exact ⟨h1, h2⟩
      rw [shareIn_take_yes notQ _ y j (by omega) hs, ← List.append_assoc] at h
      exact h
    · have hs : shareB notQ (atN x i) (atN y j) = false := by
        unfold shareB
        rw [Bool.and_eq_false_iff]
        exact .inr (Bool.eq_false_iff.2 h2)
      rw [shareIn_take_no notQ _ y j (by omega) hs] at h
      exact h
    · have hs : shareB notQ (atN x i) (atN y j) = false := by
        unfold shareB
        rw [Bool.and_eq_false_iff, decide_eq_false_iff_not]
        exact .inl h1
      rw [shareIn_take_no notQ _ y j (by omega) hs] at h
      exact h
theorem overDisputedFrames_ (x y : List NI) (sx : x.length ≤ 40) (sy : y.length ≤ 40) : Ev (fun k => impl_overlapsForDisputedFrames.f k x y) (share notQ x y) := by
  have key : ∀ d i : Nat, i + d = x.length → Ev (fun k => impl_overlapsForDisputedFrames.l0 k y (share notQ (x.take i) y) x (x.length : Int) (i : Int)) (share notQ x y) := by
    intro d
    induction d with
    | zero =>
      intro i hi
      rw [List.take_of_length_le (by omega)]
      exact Ev.step (fun _ => impl_overlapsForDisputedFrames.l0.eq_2 ..) (Ev.neg (by omega) (Ev.some rfl))
    | succ d ih =>
      intro i hi
      have h := overDisputedFrames_in x y sx sy i (by omega) _ (ih (i + 1) (by omega)) y.length 0 (by omega)
      have e0 : share notQ (x.take i) y ++ shareIn notQ (atN x i) (y.take 0) = share notQ (x.take i) y := by simp [shareIn]
      rw [e0] at h
      exact Ev.step (fun _ => impl_overlapsForDisputedFrames.l0.eq_2 ..) (Ev.pos (by omega) (Ev.pos (by omega) (Ev.pos (by omega) h)))
  exact key x.length 0 (by omega)
theorem DisputedFrames_both (x y : List NI) (hx : Sized x) (hy : Sized y) : ∃ r : Int × Bool, Ev (fun k => spec_DisputedFrames.f k x y) r ∧ Ev (fun k => impl_DisputedFrames.f k x y) r := by
  unfold spec_DisputedFrames.f impl_DisputedFrames.f
  have hs := meBoth_ x y hx hy
  cases h1 : tierB x with
  | false => exact ⟨(0, false), Ev.bind (Ev.eq (r := false) hs (by simp [h1])) (Ev.neg (by decide) (Ev.some rfl)), Ev.bind (Ev.eq (IsTier_ x hx) h1) (Ev.neg (by decide) (Ev.step (fun _ => impl_DisputedFrames.j0.eq_2 ..) (Ev.pos rfl (Ev.some rfl))))⟩
  | true =>
    cases h2 : tierB y with
    | false => exact ⟨(0, false), Ev.bind (Ev.eq (r := false) hs (by simp [h2])) (Ev.neg (by decide) (Ev.some rfl)), Ev.bind (Ev.eq (IsTier_ x hx) h1) (Ev.pos rfl (Ev.bind (Ev.eq (IsTier_ y hy) h2) (Ev.step (fun _ => impl_DisputedFrames.j0.eq_2 ..) (Ev.pos rfl (Ev.some rfl)))))⟩
    | true =>
      have sx := tier_short h1
      have sy := tier_short h2
      have ho := overDisputedFrames_ x y sx sy
      have hm := meShared_ x y h1 h2
      have hb := share_bound notQ x y sx sy
      exact ⟨(fr (share notQ x y), true), Ev.bind (Ev.eq (r := true) hs (by simp [h1, h2])) (Ev.pos rfl (Ev.bind hm (Ev.some rfl))), Ev.bind (Ev.eq (IsTier_ x hx) h1) (Ev.pos rfl (Ev.bind (Ev.eq (IsTier_ y hy) h2) (Ev.step (fun _ => impl_DisputedFrames.j0.eq_2 ..) (Ev.neg (by decide) (Ev.bind ho (Ev.bind (framesOf_ _ (by omega)) (Ev.some rfl)))))))⟩
theorem FnExactDisputedFrames : laws_FnExactDisputedFrames.Pure := by
  intro l m hl hm
  obtain ⟨z, hz, z0, z1⟩ := szNoteS_ l hl 1048576 (by omega) (by omega)
  have ht := toNoteS_ l hl.2
  have hu := toNoteS_ m hm.2
  obtain ⟨r, h1, h2⟩ := DisputedFrames_both _ _ (Given.sized hl) (Given.sized hm)
  refine Ev.rounds (Ev.bind hz (Ev.ite (fun _ => Ev.some rfl) (fun hn => ?_)))
  obtain ⟨z', hz', _, _⟩ := szNoteS_ m hm z (by omega) (by omega)
  refine Ev.bind hz' (Ev.ite (fun _ => Ev.some rfl) (fun _ => ?_))
  refine Ev.bind ht (Ev.bind hu (Ev.bind h1 (Ev.bind ht (Ev.bind hu (Ev.bind h2 (Ev.pos rfl ?_))))))
  exact Ev.step (fun _ => laws_FnExactDisputedFrames.j0.eq_2 ..) (Ev.neg (by simp) (Ev.bind ht (Ev.bind (eqNoteS_ _ (Given.sized hl).1) (Ev.pos rfl (Ev.bind hu (Ev.bind (eqNoteS_ _ (Given.sized hm).1) (Ev.pos rfl (Ev.some rfl))))))))
end Go.Proofs.Ytphjmmaeolbggaa.Pure
