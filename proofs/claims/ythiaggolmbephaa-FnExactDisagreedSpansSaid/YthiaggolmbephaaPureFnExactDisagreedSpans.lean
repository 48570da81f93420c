/- DisagreedSpans of the program returns what that of the reference returns, for all lists of notes and all frames, and in memory of its own; no condition beyond what every row's reading gives. -/
import Derived.Test.YthiaggolmbephaaG0
import Derived.Test.YthiaggolmbephaaG31
import Derived.Test.YthiaggolmbephaaG33
import Derived.Test.YthiaggolmbephaaMWin
import Derived.Test.YthiaggolmbephaaMGloss
import Derived.Test.YthiaggolmbephaaMMarkN
import Derived.Test.YthiaggolmbephaaMMarkD
namespace Go.Proofs.Ythiaggolmbephaa.Pure
open Go.RowKit Go.Proofs.Ythiaggolmbephaa.G Go.Proofs.YthiaggolmbephaaW.PrintWords Go.Proofs.YthiaggolmbephaaW.PrintLast Go.Proofs.Ythiaggolmbephaa.MPure Go.Proofs.Ythiaggolmbephaa.MWord Go.Proofs.Ythiaggolmbephaa.MNote Go.Proofs.Ythiaggolmbephaa.MCut Go.Proofs.Ythiaggolmbephaa.MWin Go.Proofs.Ythiaggolmbephaa.MGloss Go.Proofs.Ythiaggolmbephaa.MMarkN Go.Proofs.Ythiaggolmbephaa.MMarkD

/-- What ties the reference's flag to the program's last span. -/
def rowI (s : List DI) (row : Bool) (a : Int) : Prop := (s.length = 0 → row = false) ∧ (0 < s.length → (rd_T96 s ((s.length - 1 : Nat) : Int)).f1 ≤ a ∧ (row = true ↔ (rd_T96 s ((s.length - 1 : Nat) : Int)).f1 = a))
theorem rd_end (s : List DI) (v : DI) : rd_T96 (s ++ [v]) (((s ++ [v]).length - 1 : Nat) : Int) = v := by
  have e : (s ++ [v]).length - 1 = s.length := by simp
  rw [e]
  show (s ++ [v]).getD s.length z96 = v
  rw [List.getD_eq_getElem?_getD, List.getElem?_append_right (Nat.le_refl _), Nat.sub_self]
  rfl
theorem row_loops (x y : List NI) (hx : Sized x) (hy : Sized y) (tx : tierB x = true) (ty : tierB y = true) (b : Int) (hb : b ≤ 99999) : ∀ (d : Nat) (a : Int) (s : List DI) (row : Bool), a + d = b → 0 ≤ a → s.length + d ≤ 200 → rowI s row a → ∃ r : List DI, r.length ≤ 200 ∧ Ev (fun k => spec_DisagreedSpans.l0 k x y b s row a) (r, true) ∧ Ev (fun k => impl_DisagreedSpans.l0 k x y b s a) (r, true) := by
  intro d
  induction d with
  | zero =>
    intro a s row hd ha hs _
    exact ⟨s, by omega, Ev.step (fun _ => spec_DisagreedSpans.l0.eq_2 ..) (Ev.neg (by omega) (Ev.some rfl)), Ev.step (fun _ => impl_DisagreedSpans.l0.eq_2 ..) (Ev.neg (by omega) (Ev.some rfl))⟩
  | succ d ih =>
    intro a s row hd ha hs hi
    have hw := wrap_step (x := a) (by omega) (by omega)
    by_cases he : (glossB x a).toList = (glossB y a).toList
    · have hb : ((glossB x a).toList != (glossB y a).toList) = false := by rw [he]; simp
      obtain ⟨r, hr, h1, h2⟩ := ih (a + 1) s false (by omega) (by omega) (by omega) ⟨fun _ => rfl, fun h => by
        have := (hi.2 h).1
        refine ⟨by omega, ⟨(nomatch ·), fun _ => by omega⟩⟩⟩
      rw [← hw] at h1 h2
      refine ⟨r, hr, Ev.step (fun _ => spec_DisagreedSpans.l0.eq_2 ..) (Ev.pos (by omega) (Ev.bind (agGloss_ x hx a) (Ev.bind (agGloss_ y hy a) (Ev.pos he ?_)))), Ev.step (fun _ => impl_DisagreedSpans.l0.eq_2 ..) (Ev.pos (by omega) (Ev.have (glossAt_ x tx a) (Ev.have (glossAt_ y ty a) (Ev.pos he h2))))⟩
      rw [hb]
      exact Ev.step (fun _ => spec_DisagreedSpans.j1.eq_2 ..) (Ev.neg (by decide) (Ev.neg (by decide) h1))
    · have hb : ((glossB x a).toList != (glossB y a).toList) = true := by simpa using he
      cases row with
      | true =>
        have hpos : 0 < s.length := Nat.pos_of_ne_zero (fun h => nomatch hi.1 h)
        have hl := (hi.2 hpos).2.1 rfl
        have hp := wrap_pred (i := s.length) hpos (by omega)
        have hn : ((s.length - 1 : Nat) : Int).toNat = s.length - 1 := rfl
        have hrd := rd_setD s (s.length - 1) ⟨(rd_T96 s ((s.length - 1 : Nat) : Int)).f0, a + 1⟩ (by omega)
        obtain ⟨r, hr, h1, h2⟩ := ih (a + 1) (s.set (s.length - 1) ⟨(rd_T96 s ((s.length - 1 : Nat) : Int)).f0, a + 1⟩) true (by omega) (by omega) (by rw [List.length_set]; omega) ⟨fun h => by rw [List.length_set] at h; omega, fun _ => by
          rw [List.length_set, hrd]
          exact ⟨Int.le_refl _, ⟨fun _ => rfl, fun _ => rfl⟩⟩⟩
        refine ⟨r, hr, Ev.step (fun _ => spec_DisagreedSpans.l0.eq_2 ..) (Ev.pos (by omega) (Ev.bind (agGloss_ x hx a) (Ev.bind (agGloss_ y hy a) (Ev.neg he ?_)))), Ev.step (fun _ => impl_DisagreedSpans.l0.eq_2 ..) (Ev.pos (by omega) (Ev.have (glossAt_ x tx a) (Ev.have (glossAt_ y ty a) (Ev.neg he ?_))))⟩
        · rw [hb]
          refine Ev.step (fun _ => spec_DisagreedSpans.j1.eq_2 ..) (Ev.pos rfl ?_)
          rw [hp, hn, hw]
          exact Ev.pos (by omega) (Ev.pos (by omega) h1)
        · rw [hp, hn, hl, hw]
          exact Ev.pos (by omega) (Ev.pos (by omega) (Ev.pos (by omega) (Ev.pos rfl h2)))
      | false =>
        obtain ⟨r, hr, h1, h2⟩ := ih (a + 1) (s ++ [⟨a, a + 1⟩]) true (by omega) (by omega) (by simp; omega) ⟨fun h => by simp at h, fun _ => by
          rw [rd_end]
          exact ⟨Int.le_refl _, ⟨fun _ => rfl, fun _ => rfl⟩⟩⟩
        refine ⟨r, hr, Ev.step (fun _ => spec_DisagreedSpans.l0.eq_2 ..) (Ev.pos (by omega) (Ev.bind (agGloss_ x hx a) (Ev.bind (agGloss_ y hy a) (Ev.neg he ?_)))), Ev.step (fun _ => impl_DisagreedSpans.l0.eq_2 ..) (Ev.pos (by omega) (Ev.have (glossAt_ x tx a) (Ev.have (glossAt_ y ty a) (Ev.neg he ?_))))⟩
        · rw [hb]
          exact Ev.step (fun _ => spec_DisagreedSpans.j1.eq_2 ..) (Ev.neg (by decide) (Ev.pos rfl (Ev.pos (by omega) (by rw [hw]; exact h1))))
        · rw [hw]
          by_cases hpos : 0 < s.length
          · have hp := wrap_pred (i := s.length) hpos (by omega)
            rw [hp]
            refine Ev.pos (by omega) (Ev.pos (by omega) (Ev.pos (by omega) (Ev.neg ?_ (Ev.pos (by omega) h2))))
            exact fun h => nomatch (hi.2 hpos).2.2 h
          · have : s.length = 0 := by omega
            rw [this]
            exact Ev.neg (by unfold wrap64; omega) (Ev.pos (by omega) h2)
theorem Disagreed_both (x y : List NI) (hx : Sized x) (hy : Sized y) (a b : Int) : ∃ r : List DI × Bool, r.1.length ≤ 200 ∧ Ev (fun k => spec_DisagreedSpans.f k x y a b) r ∧ Ev (fun k => impl_DisagreedSpans.f k x y a b) r := by
  unfold spec_DisagreedSpans.f impl_DisagreedSpans.f
  have hs := agAsked_ x y hx hy a b
  cases h1 : tierB x with
  | false => exact ⟨([], false), Nat.zero_le _, Ev.bind (Ev.eq (r := false) hs (by simp [h1])) (Ev.neg (by decide) (Ev.some rfl)), Ev.bind (Ev.eq (IsTier_ x hx) h1) (Ev.neg (by decide) (Ev.step (fun _ => impl_DisagreedSpans.j0.eq_2 ..) (Ev.pos rfl (Ev.some rfl))))⟩
  | true =>
    cases h2 : tierB y with
    | false => exact ⟨([], false), Nat.zero_le _, Ev.bind (Ev.eq (r := false) hs (by simp [h2])) (Ev.neg (by decide) (Ev.some rfl)), Ev.bind (Ev.eq (IsTier_ x hx) h1) (Ev.pos rfl (Ev.bind (Ev.eq (IsTier_ y hy) h2) (Ev.neg (by decide) (Ev.step (fun _ => impl_DisagreedSpans.j0.eq_2 ..) (Ev.pos rfl (Ev.some rfl))))))⟩
    | true =>
      cases h3 : windowB a b with
      | false => exact ⟨([], false), Nat.zero_le _, Ev.bind (Ev.eq (r := false) hs (by simp [h3])) (Ev.neg (by decide) (Ev.some rfl)), Ev.bind (Ev.eq (IsTier_ x hx) h1) (Ev.pos rfl (Ev.bind (Ev.eq (IsTier_ y hy) h2) (Ev.pos rfl (Ev.have ((isWindow_ a b).trans (congrArg some h3)) (Ev.step (fun _ => impl_DisagreedSpans.j0.eq_2 ..) (Ev.pos rfl (Ev.some rfl)))))))⟩
      | true =>
        have hw := windowB_in h3
        obtain ⟨r, hl, hr, hq⟩ := row_loops x y hx hy h1 h2 b (by omega) (b - a).toNat a [] false (by omega) (by omega) (by simp; omega) ⟨fun _ => rfl, fun h => absurd h (by simp)⟩
        exact ⟨(r, true), hl, Ev.bind (Ev.eq (r := true) hs (by simp [h1, h2, h3])) (Ev.pos rfl hr), Ev.bind (Ev.eq (IsTier_ x hx) h1) (Ev.pos rfl (Ev.bind (Ev.eq (IsTier_ y hy) h2) (Ev.pos rfl (Ev.have ((isWindow_ a b).trans (congrArg some h3)) (Ev.step (fun _ => impl_DisagreedSpans.j0.eq_2 ..) (Ev.neg (by decide) hq))))))⟩
theorem FnExactDisagreedSpans : laws_FnExactDisagreedSpans.Pure := by
  intro l m a b hl hm _ _
  obtain ⟨z, hz, z0, z1⟩ := szNoteS_ l hl 1048576 (by omega) (by omega)
  have ht := toNoteS_ l hl.2
  have hu := toNoteS_ m hm.2
  have hsz := Given.sized hl
  have hsm := Given.sized hm
  obtain ⟨⟨r, q⟩, hr, h1, h2⟩ := Disagreed_both _ _ hsz hsm a b
  replace hr : r.length ≤ 200 := hr
  have he := eqSpanS_ r (by omega)
  have hx := eqNoteS_ _ hsz.1
  have hy := eqNoteS_ _ hsm.1
  have hmx := markNoteS_ (l.map conv) hsz.1 1 (by omega) (by omega)
  have hmy := markNoteS_ (m.map conv) hsm.1 (1 + 3 * ((l.map conv).length : Int)) (by omega) (by have := hsz.1; omega)
  have hmr := markSpanS_ r (by omega) 1 (by omega) (by omega)
  have hh := heldSpanS_ r.length (by omega) 1 (by omega) (by omega)
  refine Ev.rounds (Ev.bind hz (Ev.ite (fun _ => Ev.some rfl) (fun hn => ?_)))
  obtain ⟨z', hz', _, _⟩ := szNoteS_ m hm z (by omega) (by omega)
  refine Ev.bind hz' (Ev.ite (fun _ => Ev.some rfl) (fun _ => ?_))
  refine Ev.bind ht (Ev.bind hu (Ev.bind h1 (Ev.bind ht (Ev.bind hu (Ev.bind h2 (Ev.bind he (Ev.pos rfl ?_)))))))
  refine Ev.step (fun _ => laws_FnExactDisagreedSpans.j0.eq_2 ..) (Ev.neg (by simp) (Ev.bind ht (Ev.bind hx (Ev.pos rfl (Ev.bind hu (Ev.bind hy (Ev.pos rfl (Ev.bind hmx (Ev.bind hmy (Ev.neg (by simp; omega) (Ev.bind he (Ev.pos rfl ?_))))))))))))
  refine Ev.step (fun _ => laws_FnExactDisagreedSpans.j1.eq_2 ..) (Ev.neg (by simp) (Ev.bind hmr (Ev.bind hh (Ev.neg (by omega) (Ev.pos rfl (Ev.bind ht (Ev.bind hu (Ev.bind h2 (Ev.bind he (Ev.pos rfl ?_))))))))))
  exact Ev.step (fun _ => laws_FnExactDisagreedSpans.j2.eq_2 ..) (Ev.neg (by simp) (Ev.bind hh (Ev.neg (by omega) (Ev.pos rfl (Ev.some rfl)))))
end Go.Proofs.Ythiaggolmbephaa.Pure
