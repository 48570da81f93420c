/- WhoIs of the program returns what that of the reference returns, for every list of persons and all letters and places, and in memory of its own; no condition beyond what every row's reading gives. -/
import Derived.Test.YtphjmmaeolbggaaG0
import Derived.Test.YtphjmmaeolbggaaG4
import Derived.Test.YtphjmmaeolbggaaG11
import Derived.Test.YtphjmmaeolbggaaMMarkPA
import Derived.Test.YtphjmmaeolbggaaMMarkI
import Derived.Test.YtphjmmaeolbggaaMFun
namespace Go.Proofs.Ytphjmmaeolbggaa.Pure
open Go.RowKit Go.Proofs.Ytphjmmaeolbggaa.G Go.Proofs.YtphjmmaeolbggaaW.PrintWords Go.Proofs.YtphjmmaeolbggaaW.PrintLast Go.Proofs.Ytphjmmaeolbggaa.MPure Go.Proofs.Ytphjmmaeolbggaa.MWord Go.Proofs.Ytphjmmaeolbggaa.MPerson Go.Proofs.Ytphjmmaeolbggaa.MMarkPA Go.Proofs.Ytphjmmaeolbggaa.MMarkI

theorem who_loop (l : List PI) (hl : l.length ≤ 4398046511104) (a b : Int) : Ev (fun k => spec_WhoIs.l0 k a b [] l (l.length : Int) 0) (MFun.places (impl_WhoIs.p a b) l, true) := by
  have key : ∀ d i : Nat, i + d = l.length → Ev (fun k => spec_WhoIs.l0 k a b (MFun.places (impl_WhoIs.p a b) (l.take i)) l (l.length : Int) (i : Int)) (MFun.places (impl_WhoIs.p a b) l, true) := by
    intro d
    induction d with
    | zero =>
      intro i hi
      rw [List.take_of_length_le (by omega)]
      exact Ev.step (fun _ => spec_WhoIs.l0.eq_2 ..) (Ev.neg (by omega) (Ev.some rfl))
    | succ d ih =>
      intro i hi
      have h := ih (i + 1) (by omega)
      have hn : (MFun.places (impl_WhoIs.p a b) (l.take i)).length ≤ i := Nat.le_trans (MFun.places_length _ _ 0) (by simp; omega)
      rw [MFun.places_take _ l z69 i (by omega), ← wrap_succ (by omega)] at h
      refine Ev.step (fun _ => spec_WhoIs.l0.eq_2 ..) (Ev.pos (by omega) (Ev.pos (by omega) (Ev.pos (by omega) (Ev.ite (fun h1 => Ev.ite (fun h2 => Ev.pos (by omega) ?_) (fun h2 => ?_)) (fun h1 => ?_)))))
      · have e : impl_WhoIs.p a b (l.getD i z69) = true := decide_eq_true ⟨h1, h2⟩
        rw [if_pos e] at h
        exact h
      · have e : impl_WhoIs.p a b (l.getD i z69) = false := decide_eq_false (fun h => h2 h.2)
        rw [e] at h
        exact h
      · have e : impl_WhoIs.p a b (l.getD i z69) = false := decide_eq_false (fun h => h1 h.1)
        rw [e] at h
        exact h
  exact key l.length 0 (by omega)
def whoR (l : List PI) (a b : Int) : List Int × Bool := if peopleB l = true ∧ (0 ≤ a ∧ a ≤ 25) ∧ (0 ≤ b ∧ b ≤ 9) then (MFun.places (impl_WhoIs.p a b) l, true) else ([], false)
theorem whoR_length (l : List PI) (a b : Int) : (whoR l a b).1.length ≤ l.length := by
  unfold whoR
  split
  · exact MFun.places_length _ _ 0
  · exact Nat.zero_le _
theorem WhoIs_s (l : List PI) (hl : SizedP l) (hl2 : l.length ≤ 4398046511104) (a b : Int) : Ev (fun k => spec_WhoIs.f k l a b) (whoR l a b) := by
  unfold spec_WhoIs.f whoR
  have hj : ∀ q : Bool, q = true → Ev (fun k => spec_WhoIs.j0 k l a b q) ([], false) := fun q hq => Ev.step (fun _ => spec_WhoIs.j0.eq_2 ..) (Ev.pos hq (Ev.some rfl))
  by_cases h1 : peopleB l = true
  · by_cases h2 : 0 ≤ a ∧ a ≤ 25
    · by_cases h3 : 0 ≤ b ∧ b ≤ 9
      · rw [if_pos ⟨h1, h2, h3⟩]
        exact Ev.bind (naGood_ l hl) (Ev.pos h1 (Ev.have (naLetter_ a) (Ev.pos (decide_eq_true h2) (Ev.have (naPlace_ b) (Ev.step (fun _ => spec_WhoIs.j0.eq_2 ..) (Ev.neg (by simp [placeB, h3]) (who_loop l hl2 a b)))))))
      · rw [if_neg (fun h => h3 h.2.2)]
        exact Ev.bind (naGood_ l hl) (Ev.pos h1 (Ev.have (naLetter_ a) (Ev.pos (decide_eq_true h2) (Ev.have (naPlace_ b) (hj _ (by simp [placeB]; omega))))))
    · rw [if_neg (fun h => h2 h.2.1)]
      exact Ev.bind (naGood_ l hl) (Ev.pos h1 (Ev.have (naLetter_ a) (Ev.neg (by simp [letterB]; omega) (hj _ rfl))))
  · rw [if_neg (fun h => h1 h.1)]
    exact Ev.bind (naGood_ l hl) (Ev.neg h1 (hj _ rfl))
theorem WhoIs_i (l : List PI) (hl : SizedP l) (hl2 : l.length ≤ 4398046511104) (a b : Int) : Ev (fun k => impl_WhoIs.f k l a b) (whoR l a b) := by
  unfold impl_WhoIs.f whoR
  refine Ev.bind (ArePeople_ l hl) (Ev.ite (fun h => Ev.pos (by omega) (Ev.some ?_)) (fun h => Ev.some ?_))
  · rw [if_pos h]
  · rw [if_neg h]
theorem FnExactWhoIs : laws_FnExactWhoIs.Pure := by
  intro l a b hl _ _
  obtain ⟨z, hz, _, _⟩ := szPersonS_ l hl 1048576 (by omega) (by omega)
  have ht := toPersonS_ l hl.2
  have hsz := GivenP.sized hl
  have hl2 : (l.map convP).length ≤ 4398046511104 := by rw [List.length_map]; have := hl.2; omega
  have h1 := WhoIs_s _ hsz hl2 a b
  have h2 := WhoIs_i _ hsz hl2 a b
  have hr := whoR_length (l.map convP) a b
  generalize whoR (l.map convP) a b = r at h1 h2 hr
  obtain ⟨r, q⟩ := r
  have hr2 : r.length ≤ 4398046511104 := Nat.le_trans hr hl2
  have he := eqIntS_ r (by omega)
  have hx := eqPersonS_ _ hsz.1
  obtain ⟨s, hmx⟩ := markPersonS_any (l.map convP) (by omega) 1 (by omega) (by omega)
  have hmr := markIntS_ r (by omega) 1 (by omega) (by omega)
  have hh := heldIntS_ r.length (by omega) 1 (by omega) (by omega)
  refine Ev.rounds (Ev.bind hz (Ev.ite (fun _ => Ev.some rfl) (fun _ => ?_)))
  refine Ev.bind ht (Ev.bind h1 (Ev.bind ht (Ev.bind h2 (Ev.bind he (Ev.pos rfl ?_)))))
  refine Ev.step (fun _ => laws_FnExactWhoIs.j0.eq_2 ..) (Ev.neg (by simp) (Ev.bind ht (Ev.bind hx (Ev.pos rfl (Ev.bind hmx (Ev.neg (by simp; omega) (Ev.bind he (Ev.pos rfl ?_))))))))
  refine Ev.step (fun _ => laws_FnExactWhoIs.j1.eq_2 ..) (Ev.neg (by simp) (Ev.bind hmr (Ev.bind hh (Ev.neg (by omega) (Ev.pos rfl (Ev.bind ht (Ev.bind h2 (Ev.bind he (Ev.pos rfl ?_)))))))))
  exact Ev.step (fun _ => laws_FnExactWhoIs.j2.eq_2 ..) (Ev.neg (by simp) (Ev.bind hh (Ev.neg (by omega) (Ev.pos rfl (Ev.some rfl)))))
end Go.Proofs.Ytphjmmaeolbggaa.Pure
