/- ClashesOf of the program returns what that of the reference returns, for all lists of persons, and in memory of its own; no condition beyond what every row's reading gives. -/
import Derived.Test.YtmllkdgdkagkkaaG0
import Derived.Test.YtmllkdgdkagkkaaG29
import Derived.Test.YtmllkdgdkagkkaaG30
import Derived.Test.YtmllkdgdkagkkaaG53
import Derived.Test.YtmllkdgdkagkkaaMMarkPA
import Derived.Test.YtmllkdgdkagkkaaMMarkSS
namespace Go.Proofs.Ytmllkdgdkagkkaa.Pure
open Go.RowKit Go.Proofs.Ytmllkdgdkagkkaa.G Go.Proofs.YtmllkdgdkagkkaaW.PrintWords Go.Proofs.YtmllkdgdkagkkaaW.PrintLast Go.Proofs.Ytmllkdgdkagkkaa.MPure Go.Proofs.Ytmllkdgdkagkkaa.MWord Go.Proofs.Ytmllkdgdkagkkaa.MPerson Go.Proofs.Ytmllkdgdkagkkaa.MMarkPA

theorem clash_eq (x y : PI) : spec_naClash.f x.f0 x.f1 x.f2 x.f3 y.f0 y.f1 y.f2 y.f3 = some (decide (x.f1 = y.f1 ∧ x.f2 = y.f2)) := by
  unfold spec_naClash.f
  by_cases h : x.f1 = y.f1
  · rw [if_pos h]; simp [h, Bool.beq_eq_decide_eq]
  · rw [if_neg h]; simp [h]
theorem clashes_eq (x y : PI) : impl_Person_clashes.f x.f0 x.f1 x.f2 x.f3 y.f1 y.f2 = some (decide (x.f1 = y.f1 ∧ x.f2 = y.f2)) := by
  unfold impl_Person_clashes.f
  by_cases h : x.f1 = y.f1
  · rw [if_pos h]; simp [h, Bool.beq_eq_decide_eq]
  · rw [if_neg h]; simp [h]
def CNext (x : List PI) (i : Nat) : Prop := ∀ out : List (List Int), out.length ≤ i * x.length → (∀ q, q ∈ out → q.length = 2) →
  ∃ r : List (List Int), r.length ≤ x.length * x.length ∧ (∀ q, q ∈ r → q.length = 2) ∧ Ev (fun k => spec_ClashesOf.l0 k x out (x.length : Int) (i : Int)) (r, true) ∧ Ev (fun k => impl_ClashesOf.l0 k x out x (x.length : Int) (i : Int)) (r, true)
theorem cinner (x : List PI) (hx : x.length ≤ 1000) (i : Nat) (hi : i < x.length) (hn : CNext x (i + 1)) : ∀ e j : Nat, j + e = x.length → ∀ out : List (List Int), out.length ≤ i * x.length + j → (∀ q, q ∈ out → q.length = 2) →
    ∃ r : List (List Int), r.length ≤ x.length * x.length ∧ (∀ q, q ∈ r → q.length = 2) ∧ Ev (fun k => spec_ClashesOf.l1 k x out (i : Int) (j : Int) (x.length : Int) (i : Int)) (r, true) ∧ Ev (fun k => impl_ClashesOf.l1 k x out (i : Int) (j : Int) x (x.length : Int) (i : Int) (rd_T76 x (i : Int)).f0 (rd_T76 x (i : Int)).f1 (rd_T76 x (i : Int)).f2 (rd_T76 x (i : Int)).f3) (r, true) := by
  intro e
  induction e with
  | zero =>
    intro j hj out ho hq
    obtain ⟨r, h1, h2, h3, h4⟩ := hn out (by rw [Nat.succ_mul]; omega) hq
    rw [← wrap_succ (by omega)] at h3 h4
    exact ⟨r, h1, h2, Ev.step (fun _ => spec_ClashesOf.l1.eq_2 ..) (Ev.neg (by omega) h3), Ev.step (fun _ => impl_ClashesOf.l1.eq_2 ..) (Ev.neg (by omega) h4)⟩
  | succ e ih =>
    intro j hj out ho hq
    have hb : i * x.length ≤ 1000 * 1000 := Nat.mul_le_mul (by omega) hx
    have hs := clash_eq (rd_T76 x (i : Int)) (rd_T76 x (j : Int))
    have hp := clashes_eq (rd_T76 x (i : Int)) (rd_T76 x (j : Int))
    cases hc : decide ((rd_T76 x (i : Int)).f1 = (rd_T76 x (j : Int)).f1 ∧ (rd_T76 x (i : Int)).f2 = (rd_T76 x (j : Int)).f2) with
    | true =>
      obtain ⟨r, h1, h2, h3, h4⟩ := ih (j + 1) (by omega) (out ++ [[(i : Int), (j : Int)]]) (by simp; omega) (by
        intro q hq'
        rcases List.mem_append.1 hq' with h | h
        · exact hq q h
        · rw [List.mem_singleton.1 h]; rfl)
      rw [← wrap_succ (by omega)] at h3 h4
      rw [hc] at hs hp
      exact ⟨r, h1, h2, Ev.step (fun _ => spec_ClashesOf.l1.eq_2 ..) (Ev.pos (by omega) (Ev.pos (by omega) (Ev.pos (by omega) (Ev.pos (by omega) (Ev.have hs (Ev.pos rfl (Ev.pos (by omega) h3))))))), Ev.step (fun _ => impl_ClashesOf.l1.eq_2 ..) (Ev.pos (by omega) (Ev.pos (by omega) (Ev.have hp (Ev.pos rfl (Ev.pos (by omega) h4)))))⟩
    | false =>
      obtain ⟨r, h1, h2, h3, h4⟩ := ih (j + 1) (by omega) out (by omega) hq
      rw [← wrap_succ (by omega)] at h3 h4
      rw [hc] at hs hp
      exact ⟨r, h1, h2, Ev.step (fun _ => spec_ClashesOf.l1.eq_2 ..) (Ev.pos (by omega) (Ev.pos (by omega) (Ev.pos (by omega) (Ev.pos (by omega) (Ev.have hs (Ev.neg (by simp) h3)))))), Ev.step (fun _ => impl_ClashesOf.l1.eq_2 ..) (Ev.pos (by omega) (Ev.pos (by omega) (Ev.have hp (Ev.neg (by simp) h4))))⟩
theorem cnext_all (x : List PI) (hx : x.length ≤ 1000) : ∀ d i : Nat, i + d = x.length → CNext x i := by
  intro d
  induction d with
  | zero =>
    intro i hi out ho hq
    obtain rfl : i = x.length := by omega
    exact ⟨out, ho, hq, Ev.step (fun _ => spec_ClashesOf.l0.eq_2 ..) (Ev.neg (by omega) (Ev.some rfl)), Ev.step (fun _ => impl_ClashesOf.l0.eq_2 ..) (Ev.neg (by omega) (Ev.some rfl))⟩
  | succ d ih =>
    intro i hi out ho hq
    obtain ⟨r, h1, h2, h3, h4⟩ := cinner x hx i (by omega) (ih (i + 1) (by omega)) (x.length - (i + 1)) (i + 1) (by omega) out (by omega) hq
    rw [← wrap_succ (by omega)] at h3 h4
    exact ⟨r, h1, h2, Ev.step (fun _ => spec_ClashesOf.l0.eq_2 ..) (Ev.pos (by omega) h3), Ev.step (fun _ => impl_ClashesOf.l0.eq_2 ..) (Ev.pos (by omega) (Ev.pos (by omega) (Ev.pos (by omega) h4)))⟩
theorem people_length {l : List PI} (h : peopleB l = true) : l.length ≤ 10 := by
  unfold peopleB at h
  simp only [Bool.and_eq_true, decide_eq_true_eq] at h
  omega
theorem Clashes_ (x : List PI) (hx : SizedP x) : ∃ (r : List (List Int)) (q : Bool), r.length ≤ 1000000 ∧ (∀ z, z ∈ r → z.length = 2) ∧ Ev (fun k => spec_ClashesOf.f k x) (r, q) ∧ Ev (fun k => impl_ClashesOf.f k x) (r, q) := by
  unfold spec_ClashesOf.f impl_ClashesOf.f
  have h1 := naGood_ x hx
  have h2 := ArePeople_ x hx
  cases e1 : peopleB x with
  | false =>
    rw [e1] at h1 h2
    exact ⟨[], false, Nat.zero_le _, (fun z h => nomatch h), Ev.bind h1 (Ev.neg (by simp) (Ev.some rfl)), Ev.bind h2 (Ev.neg (by simp) (Ev.some rfl))⟩
  | true =>
    rw [e1] at h1 h2
    have hl := people_length e1
    obtain ⟨r, g1, g2, g3, g4⟩ := cnext_all x (by omega) x.length 0 (by omega) [] (Nat.zero_le _) (fun z h => nomatch h)
    exact ⟨r, true, Nat.le_trans g1 (Nat.le_trans (Nat.mul_le_mul hl hl) (by decide)), g2, Ev.bind h1 (Ev.pos rfl g3), Ev.bind h2 (Ev.pos rfl g4)⟩
theorem FnExactClashesOf : laws_FnExactClashesOf.Pure := by
  intro l hl
  obtain ⟨z0, ⟨K0, hz0⟩, _, _⟩ := szPersonS_ l hl 1048576 (by omega) (by omega)
  obtain ⟨K2, ht0⟩ := toPersonS_ l hl.2
  have hs0 := GivenP.sized hl
  have hl2 : (l.map convP).length ≤ 4398046511104 := by rw [List.length_map]; have := hl.2; omega
  obtain ⟨r, q, g1, g2, ⟨K4, g3⟩, ⟨K5, g4⟩⟩ := Clashes_ _ hs0
  obtain ⟨n, s, K6, hn, hf⟩ := MMarkSS.facts r g1 g2
  obtain ⟨K7, hx⟩ := eqPersonS_ _ hs0.1
  obtain ⟨y, K9, hmx⟩ := markPersonS_any (l.map convP) (by omega) 1 (by omega) (by omega)
  obtain ⟨f1, f2, f3⟩ := hf (K0 + K2 + K4 + K5 + K6 + K7 + K9) (by omega)
  refine ⟨K0 + K2 + K4 + K5 + K6 + K7 + K9, z0, hz0 _ (by omega), fun _ => ?_⟩
  exact ⟨_, r, q, _, _, _, _, ht0 _ (by omega), g3 _ (by omega), g4 _ (by omega), f1, hx _ (by omega), hmx _ (by omega), by omega, f2, f3, hn⟩
end Go.Proofs.Ytmllkdgdkagkkaa.Pure
