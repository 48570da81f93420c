/- OldestFor of the program returns what that of the reference returns, for every list of persons and every letter; no condition beyond what every row's reading gives. -/
import Derived.Test.YthmegimmnhkkhaaG0
import Derived.Test.YthmegimmnhkkhaaG1
import Derived.Test.YthmegimmnhkkhaaG17
import Derived.Test.YthmegimmnhkkhaaG19
import Derived.Test.YthmegimmnhkkhaaG20
import Derived.Test.YthmegimmnhkkhaaMPerson
namespace Go.Proofs.Ythmegimmnhkkhaa.Pure
open Go.RowKit Go.Proofs.Ythmegimmnhkkhaa.G Go.Proofs.YthmegimmnhkkhaaW.PrintWords Go.Proofs.YthmegimmnhkkhaaW.PrintLast Go.Proofs.Ythmegimmnhkkhaa.MPure Go.Proofs.Ythmegimmnhkkhaa.MWord Go.Proofs.Ythmegimmnhkkhaa.MPerson

/-- Both loops, at one state, come to one answer. -/
theorem oldest_loops (l : List PI) (a : Int) (hn : l.length ≤ 140737488351232) : ∀ d i : Nat, i + d = l.length → ∀ b : Int, -1 ≤ b → b < (l.length : Int) →
    ∃ r : Int × Bool, Ev (fun k => spec_OldestFor.l0 k l a b l (l.length : Int) (i : Int)) r ∧ Ev (fun k => impl_OldestFor.l0 k l a b l (l.length : Int) (i : Int)) r := by
  intro d
  induction d with
  | zero =>
    intro i hi b h0 h1
    by_cases hb : b < 0
    · exact ⟨(0, false), Ev.step (fun _ => spec_OldestFor.l0.eq_2 ..) (Ev.neg (by omega) (Ev.pos hb (Ev.some rfl))), Ev.step (fun _ => impl_OldestFor.l0.eq_2 ..) (Ev.neg (by omega) (Ev.pos hb (Ev.some rfl)))⟩
    · exact ⟨(b, true), Ev.step (fun _ => spec_OldestFor.l0.eq_2 ..) (Ev.neg (by omega) (Ev.neg hb (Ev.some rfl))), Ev.step (fun _ => impl_OldestFor.l0.eq_2 ..) (Ev.neg (by omega) (Ev.neg hb (Ev.some rfl)))⟩
  | succ d ih =>
    intro i hi b h0 h1
    have go : ∀ c : Int, -1 ≤ c → c < (l.length : Int) → ∃ r : Int × Bool, Ev (fun k => spec_OldestFor.l0 k l a c l (l.length : Int) (wrap64 ((i : Int) + 1))) r ∧ Ev (fun k => impl_OldestFor.l0 k l a c l (l.length : Int) (wrap64 ((i : Int) + 1))) r := by
      intro c h2 h3
      rw [wrap_succ (by omega)]
      exact ih (i + 1) (by omega) c h2 h3
    by_cases hL : (rd_T77 l (i : Int)).f1 = a
    · by_cases hb : b < 0
      · obtain ⟨r, hr, hq⟩ := go (i : Int) (by omega) (by omega)
        exact ⟨r, Ev.step (fun _ => spec_OldestFor.l0.eq_2 ..) (Ev.pos (by omega) (Ev.pos (by omega) (Ev.pos (by omega) (Ev.pos hL (Ev.pos hb hr))))), Ev.step (fun _ => impl_OldestFor.l0.eq_2 ..) (Ev.pos (by omega) (Ev.pos (by omega) (Ev.pos (by omega) (Ev.pos hL (Ev.pos hb hq)))))⟩
      · by_cases hS : (rd_T77 l (i : Int)).f3 < (rd_T77 l b).f3
        · obtain ⟨r, hr, hq⟩ := go (i : Int) (by omega) (by omega)
          exact ⟨r, Ev.step (fun _ => spec_OldestFor.l0.eq_2 ..) (Ev.pos (by omega) (Ev.pos (by omega) (Ev.pos (by omega) (Ev.pos hL (Ev.neg hb (Ev.pos (by omega) (Ev.pos (by omega) (Ev.pos hS hr)))))))), Ev.step (fun _ => impl_OldestFor.l0.eq_2 ..) (Ev.pos (by omega) (Ev.pos (by omega) (Ev.pos (by omega) (Ev.pos hL (Ev.neg hb (Ev.pos (by omega) (Ev.pos (by omega) (Ev.pos hS hq))))))))⟩
        · obtain ⟨r, hr, hq⟩ := go b h0 h1
          exact ⟨r, Ev.step (fun _ => spec_OldestFor.l0.eq_2 ..) (Ev.pos (by omega) (Ev.pos (by omega) (Ev.pos (by omega) (Ev.pos hL (Ev.neg hb (Ev.pos (by omega) (Ev.pos (by omega) (Ev.neg hS hr)))))))), Ev.step (fun _ => impl_OldestFor.l0.eq_2 ..) (Ev.pos (by omega) (Ev.pos (by omega) (Ev.pos (by omega) (Ev.pos hL (Ev.neg hb (Ev.pos (by omega) (Ev.pos (by omega) (Ev.neg hS hq))))))))⟩
    · obtain ⟨r, hr, hq⟩ := go b h0 h1
      exact ⟨r, Ev.step (fun _ => spec_OldestFor.l0.eq_2 ..) (Ev.pos (by omega) (Ev.pos (by omega) (Ev.pos (by omega) (Ev.neg hL hr)))), Ev.step (fun _ => impl_OldestFor.l0.eq_2 ..) (Ev.pos (by omega) (Ev.pos (by omega) (Ev.pos (by omega) (Ev.neg hL hq))))⟩
theorem OldestFor_both (l : List PI) (hl : SizedP l) (a : Int) : ∃ r : Int × Bool, Ev (fun k => spec_OldestFor.f k l a) r ∧ Ev (fun k => impl_OldestFor.f k l a) r := by
  unfold spec_OldestFor.f impl_OldestFor.f
  cases h1 : peopleB l with
  | false =>
    exact ⟨(0, false), Ev.bind (Ev.eq (naGood_ l hl) h1) (Ev.neg (by decide) (Ev.step (fun _ => spec_OldestFor.j0.eq_2 ..) (Ev.pos rfl (Ev.some rfl)))), Ev.bind (Ev.eq (ArePeople_ l hl) h1) (Ev.neg (by decide) (Ev.step (fun _ => impl_OldestFor.j0.eq_2 ..) (Ev.pos rfl (Ev.some rfl))))⟩
  | true =>
    cases h2 : letterB a with
    | false =>
      have e2 : impl_within.f a 0 25 = some false := (within_ a 0 25).trans (congrArg some h2)
      exact ⟨(0, false), Ev.bind (Ev.eq (naGood_ l hl) h1) (Ev.pos rfl (Ev.have ((naLetter_ a).trans (congrArg some h2)) (Ev.step (fun _ => spec_OldestFor.j0.eq_2 ..) (Ev.pos rfl (Ev.some rfl))))), Ev.bind (Ev.eq (ArePeople_ l hl) h1) (Ev.pos rfl (Ev.have e2 (Ev.step (fun _ => impl_OldestFor.j0.eq_2 ..) (Ev.pos rfl (Ev.some rfl)))))⟩
    | true =>
      have e2 : impl_within.f a 0 25 = some true := (within_ a 0 25).trans (congrArg some h2)
      obtain ⟨r, hr, hq⟩ := oldest_loops l a hl.1 l.length 0 (by omega) (-1) (by omega) (by omega)
      exact ⟨r, Ev.bind (Ev.eq (naGood_ l hl) h1) (Ev.pos rfl (Ev.have ((naLetter_ a).trans (congrArg some h2)) (Ev.step (fun _ => spec_OldestFor.j0.eq_2 ..) (Ev.neg (by decide) hr)))), Ev.bind (Ev.eq (ArePeople_ l hl) h1) (Ev.pos rfl (Ev.have e2 (Ev.step (fun _ => impl_OldestFor.j0.eq_2 ..) (Ev.neg (by decide) hq))))⟩
theorem FnExactOldestFor : laws_FnExactOldestFor.Pure := by
  intro l a hl _
  obtain ⟨z, hz, _, _⟩ := szPersonS_ l hl 1048576 (by omega) (by omega)
  have ht := toPersonS_ l hl.2
  obtain ⟨r, h1, h2⟩ := OldestFor_both _ (GivenP.sized hl) a
  refine Ev.rounds (Ev.bind hz (Ev.ite (fun _ => Ev.some rfl) (fun _ => ?_)))
  refine Ev.bind ht (Ev.bind h1 (Ev.bind ht (Ev.bind h2 (Ev.pos rfl ?_))))
  refine Ev.step (fun _ => laws_FnExactOldestFor.j0.eq_2 ..) (Ev.neg (by simp) (Ev.bind ht (Ev.bind (eqPersonS_ _ (GivenP.sized hl).1) (Ev.pos rfl (Ev.some rfl)))))
end Go.Proofs.Ythmegimmnhkkhaa.Pure
