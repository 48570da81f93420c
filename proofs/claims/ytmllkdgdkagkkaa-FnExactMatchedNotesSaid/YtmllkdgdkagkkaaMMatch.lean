/- Pairs of notes that fit: the reference's list of those that are taken and the program's marks lead to the same pairs. -/
import Derived.Test.YtmllkdgdkagkkaaG0
import Derived.Test.YtmllkdgdkagkkaaG40
import Derived.Test.YtmllkdgdkagkkaaG41
import Derived.Test.YtmllkdgdkagkkaaMCut
namespace Go.Proofs.Ytmllkdgdkagkkaa.MMatch
open Go.RowKit Go.Proofs.Ytmllkdgdkagkkaa.G Go.Proofs.YtmllkdgdkagkkaaW.PrintWords Go.Proofs.YtmllkdgdkagkkaaW.PrintLast Go.Proofs.Ytmllkdgdkagkkaa.MPure Go.Proofs.Ytmllkdgdkagkkaa.MWord Go.Proofs.Ytmllkdgdkagkkaa.MNote Go.Proofs.Ytmllkdgdkagkkaa.MCut

theorem l1Abs_ (a b : Int) : spec_l1Abs.f (wrap64 (a - b)) = some (mx (wrap64 (a - b)) (wrap64 (b - a))) := by
  unfold spec_l1Abs.f
  rw [l1Most_]
  simp only [Option.bind_some]
  rw [show wrap64 (-(wrap64 (a - b))) = wrap64 (b - a) by unfold wrap64; omega]
theorem distance_ (a b : Int) : impl_distance.f a b = some (mx (wrap64 (a - b)) (wrap64 (b - a))) := rfl
theorem l1Has_ (l : List Int) (hl : l.length ≤ 140737488351232) (a : Int) : Ev (fun k => spec_l1Has.f k l a) (decide (a ∈ l)) := by
  have key : ∀ d i : Nat, i + d = l.length → Ev (fun k => spec_l1Has.l0 k a l (l.length : Int) (i : Int)) (decide (a ∈ l.drop i)) := by
    intro d
    induction d with
    | zero =>
      intro i hi
      rw [List.drop_eq_nil_of_le (by omega)]
      exact Ev.step (fun _ => spec_l1Has.l0.eq_2 ..) (Ev.neg (by omega) (Ev.some (by simp)))
    | succ d ih =>
      intro i hi
      have h := ih (i + 1) (by omega)
      have e : rd l (i : Int) = l[i]'(by omega) := by
        show l.getD i 0 = _
        rw [List.getD_eq_getElem?_getD, List.getElem?_eq_getElem (by omega)]
        rfl
      rw [← wrap_succ (by omega)] at h
      rw [List.drop_eq_getElem_cons (show i < l.length by omega)]
      refine Ev.step (fun _ => spec_l1Has.l0.eq_2 ..) (Ev.pos (by omega) (Ev.pos (by omega) (Ev.pos (by omega) (Ev.ite (fun he => Ev.some ?_) (fun he => Ev.eq h ?_)))))
      · rw [e] at he
        simp [he]
      · rw [e] at he
        rw [decide_eq_decide]
        simp only [List.mem_cons]
        exact ⟨Or.inr, fun h => h.resolve_left (fun h => he h.symm)⟩
  exact key l.length 0 (by omega)

def relP (y : List NI) (paired : List Bool) (done : List Int) : Prop := paired.length = y.length ∧ ∀ k : Nat, k < y.length → (paired.getD k false = true ↔ (k : Int) ∈ done)
theorem relP_start (y : List NI) : relP y (List.replicate y.length false) [] := by
  refine ⟨List.length_replicate, fun k hk => ?_⟩
  rw [List.getD_eq_getElem?_getD, List.getElem?_replicate, if_pos hk]
  simp
theorem relP_set {y : List NI} {paired : List Bool} {done : List Int} (h : relP y paired done) {k : Nat} (hk : k < y.length) : relP y (paired.set k true) (done ++ [(k : Int)]) := by
  refine ⟨by rw [List.length_set]; exact h.1, fun j hj => ?_⟩
  rw [List.getD_eq_getElem?_getD, List.getElem?_set]
  by_cases e : k = j
  · subst e
    rw [if_pos rfl, if_pos (by rw [h.1]; exact hk)]
    simp
  · rw [if_neg e, ← List.getD_eq_getElem?_getD, h.2 j hj]
    simp only [List.mem_append, List.mem_singleton]
    exact ⟨Or.inl, fun h => h.resolve_right (fun h => e (by omega))⟩
/-- What the rest of the rounds comes to. -/
def Next (x y : List NI) (s : Int) (i : Nat) : Prop := ∀ (out : List (List Int)) (done : List Int) (paired : List Bool), out.length ≤ i → done.length ≤ i → relP y paired done → (∀ q, q ∈ out → q.length = 2) →
  ∃ r : List (List Int), r.length ≤ x.length ∧ (∀ q, q ∈ r → q.length = 2) ∧ Ev (fun k => spec_agMatched.l0 k y s out done x (x.length : Int) (i : Int)) r ∧ Ev (fun k => impl_MatchedNotes.l0 k y s paired out x (x.length : Int) (i : Int)) (r, true)
theorem inner (x y : List NI) (hx : x.length ≤ 4398046511104) (hy : y.length ≤ 4398046511104) (s : Int) (i : Nat) (hi : i < x.length) (hn : Next x y s (i + 1)) (f t : Int) (g : ByteArray) : ∀ e j : Nat, j + e = y.length → ∀ (out : List (List Int)) (done : List Int) (paired : List Bool), out.length ≤ i → done.length ≤ i → relP y paired done → (∀ q, q ∈ out → q.length = 2) →
    ∃ r : List (List Int), r.length ≤ x.length ∧ (∀ q, q ∈ r → q.length = 2) ∧ Ev (fun k => spec_agMatched.l1 k y s out done (i : Int) x (x.length : Int) (i : Int) y (y.length : Int) (j : Int) f t g) r ∧ Ev (fun k => impl_MatchedNotes.l1 k y s paired out (i : Int) x (x.length : Int) (i : Int) y (y.length : Int) (j : Int) f t g) (r, true) := by
  intro e
  induction e with
  | zero =>
    intro j hj out done paired ho hd hr hq
    obtain ⟨r, h1, h2, h3, h4⟩ := hn out done paired (by omega) (by omega) hr hq
    rw [← wrap_succ (by omega)] at h3 h4
    exact ⟨r, h1, h2, Ev.step (fun _ => spec_agMatched.l1.eq_2 ..) (Ev.neg (by omega) h3), Ev.step (fun _ => impl_MatchedNotes.l1.eq_2 ..) (Ev.neg (by omega) h4)⟩
  | succ e ih =>
    intro j hj out done paired ho hd hr hq
    have hlen := hr.1
    have hp := hr.2 j (by omega)
    have hrd : rdOf false paired (j : Int) = paired.getD j false := rfl
    have hh := l1Has_ done (by omega) (j : Int)
    by_cases hP : g.toList = (rd_T63 y (j : Int)).f2.toList ∧ mx (wrap64 (f - (rd_T63 y (j : Int)).f0)) (wrap64 ((rd_T63 y (j : Int)).f0 - f)) ≤ s ∧ mx (wrap64 (t - (rd_T63 y (j : Int)).f1)) (wrap64 ((rd_T63 y (j : Int)).f1 - t)) ≤ s ∧ ¬ ((j : Int) ∈ done)
    · obtain ⟨p1, p2, p3, p4⟩ := hP
      obtain ⟨r, h1, h2, h3, h4⟩ := hn (out ++ [[(i : Int), (j : Int)]]) (done ++ [(j : Int)]) (paired.set j true) (by simp; omega) (by simp; omega) (relP_set hr (by omega)) (by
        intro q hq'
        rcases List.mem_append.1 hq' with h | h
        · exact hq q h
        · rw [List.mem_singleton.1 h]; rfl)
      rw [← wrap_succ (by omega)] at h3 h4
      refine ⟨r, h1, h2, Ev.step (fun _ => spec_agMatched.l1.eq_2 ..) (Ev.pos (by omega) (Ev.pos (by omega) (Ev.pos (by omega) (Ev.pos p1 (Ev.have (l1Abs_ _ _) (Ev.pos p2 (Ev.have (l1Abs_ _ _) (Ev.pos p3 (Ev.bind hh (Ev.neg (by simp [p4]) (Ev.pos (by omega) (Ev.pos (by omega) h3)))))))))))), Ev.step (fun _ => impl_MatchedNotes.l1.eq_2 ..) (Ev.pos (by omega) (Ev.pos (by omega) (Ev.pos (by omega) (Ev.pos (by omega) (Ev.neg (fun h => p4 (hp.1 (hrd ▸ h))) (Ev.pos p1 (Ev.have (distance_ _ _) (Ev.pos p2 (Ev.have (distance_ _ _) (Ev.pos p3 (Ev.pos (by omega) h4)))))))))))⟩
    · obtain ⟨r, h1, h2, h3, h4⟩ := ih (j + 1) (by omega) out done paired ho hd hr hq
      rw [← wrap_succ (by omega)] at h3 h4
      refine ⟨r, h1, h2, Ev.step (fun _ => spec_agMatched.l1.eq_2 ..) (Ev.pos (by omega) (Ev.pos (by omega) (Ev.pos (by omega) (Ev.ite (fun p1 => Ev.have (l1Abs_ _ _) (Ev.ite (fun p2 => Ev.have (l1Abs_ _ _) (Ev.ite (fun p3 => Ev.bind hh (Ev.ite (fun _ => h3) (fun p4 => absurd ⟨p1, p2, p3, by simpa using p4⟩ hP))) (fun _ => h3))) (fun _ => h3))) (fun _ => h3))))), Ev.step (fun _ => impl_MatchedNotes.l1.eq_2 ..) (Ev.pos (by omega) (Ev.pos (by omega) (Ev.pos (by omega) (Ev.pos (by omega) (Ev.ite (fun _ => h4) (fun p4 => Ev.ite (fun p1 => Ev.have (distance_ _ _) (Ev.ite (fun p2 => Ev.have (distance_ _ _) (Ev.ite (fun p3 => absurd ⟨p1, p2, p3, fun h => p4 (hrd ▸ hp.2 h)⟩ hP) (fun _ => h4))) (fun _ => h4))) (fun _ => h4)))))))⟩
theorem next_all (x y : List NI) (hx : x.length ≤ 4398046511104) (hy : y.length ≤ 4398046511104) (s : Int) : ∀ d i : Nat, i + d = x.length → Next x y s i := by
  intro d
  induction d with
  | zero =>
    intro i hi out done paired ho hd hr hq
    exact ⟨out, by omega, hq, Ev.step (fun _ => spec_agMatched.l0.eq_2 ..) (Ev.neg (by omega) (Ev.some rfl)), Ev.step (fun _ => impl_MatchedNotes.l0.eq_2 ..) (Ev.neg (by omega) (Ev.some rfl))⟩
  | succ d ih =>
    intro i hi out done paired ho hd hr hq
    obtain ⟨r, h1, h2, h3, h4⟩ := inner x y hx hy s i (by omega) (ih (i + 1) (by omega)) (rd_T63 x (i : Int)).f0 (rd_T63 x (i : Int)).f1 (rd_T63 x (i : Int)).f2 y.length 0 (by omega) out done paired ho hd hr hq
    exact ⟨r, h1, h2, Ev.step (fun _ => spec_agMatched.l0.eq_2 ..) (Ev.pos (by omega) (Ev.pos (by omega) (Ev.pos (by omega) h3))), Ev.step (fun _ => impl_MatchedNotes.l0.eq_2 ..) (Ev.pos (by omega) (Ev.pos (by omega) (Ev.pos (by omega) h4)))⟩
def askB (x y : List NI) (s : Int) : Bool := tierB x && tierB y && decide (0 ≤ s ∧ s ≤ 100)
theorem Matched_ (x y : List NI) (hx : Sized x) (hy : Sized y) (hx2 : x.length ≤ 4398046511104) (hy2 : y.length ≤ 4398046511104) (s : Int) : ∃ r : List (List Int), r.length ≤ x.length ∧ (∀ q, q ∈ r → q.length = 2) ∧ Ev (fun k => spec_agMatched.f k x y s) r ∧ Ev (fun k => impl_MatchedNotes.f k x y s) (if askB x y s = true then (r, true) else ([], false)) := by
  obtain ⟨r, h1, h2, h3, h4⟩ := next_all x y hx2 hy2 s x.length 0 (by omega) [] [] (List.replicate y.length false) (Nat.le_refl _) (Nat.le_refl _) (relP_start y) (fun q h => nomatch h)
  refine ⟨r, h1, h2, h3, ?_⟩
  unfold impl_MatchedNotes.f askB
  refine Ev.bind (IsTier_ x hx) (Ev.ite (fun a1 => ?_) (fun a1 => Ev.step (fun _ => impl_MatchedNotes.j0.eq_2 ..) (Ev.pos rfl (Ev.some (by simp [a1])))))
  refine Ev.bind (IsTier_ y hy) (Ev.ite (fun a2 => ?_) (fun a2 => Ev.step (fun _ => impl_MatchedNotes.j0.eq_2 ..) (Ev.pos rfl (Ev.some (by simp [a2])))))
  refine Ev.have (within_ s _ _) (Ev.step (fun _ => impl_MatchedNotes.j0.eq_2 ..) (Ev.ite (fun a3 => Ev.some ?_) (fun a3 => Ev.pos (by omega) (Ev.pos (by omega) ?_))))
  · simp only [Bool.not_eq_true', decide_eq_false_iff_not] at a3
    simp [a3]
  · simp only [Bool.not_eq_true', decide_eq_false_iff_not, Classical.not_not] at a3
    rw [if_pos (by simp [a1, a2, a3])]
    exact h4
end Go.Proofs.Ytmllkdgdkagkkaa.MMatch
