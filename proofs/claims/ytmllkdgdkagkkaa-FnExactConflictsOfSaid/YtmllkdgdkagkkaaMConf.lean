/- Pairs of notes that conflict: the reference's list and the program's are one. -/
import Derived.Test.YtmllkdgdkagkkaaG0
import Derived.Test.YtmllkdgdkagkkaaG31
import Derived.Test.YtmllkdgdkagkkaaG32
import Derived.Test.YtmllkdgdkagkkaaMNote
namespace Go.Proofs.Ytmllkdgdkagkkaa.MConf
open Go.RowKit Go.Proofs.Ytmllkdgdkagkkaa.G Go.Proofs.YtmllkdgdkagkkaaW.PrintWords Go.Proofs.YtmllkdgdkagkkaaW.PrintLast Go.Proofs.Ytmllkdgdkagkkaa.MPure Go.Proofs.Ytmllkdgdkagkkaa.MWord Go.Proofs.Ytmllkdgdkagkkaa.MNote

/-- Whether two notes overlap and are not equal. -/
def conf (x y : NI) : Bool := decide (x.f0 < y.f1) && decide (y.f0 < x.f1) && (!(x.f0 == y.f0) || (!(x.f1 == y.f1) || (!(x.f2.toList == y.f2.toList))))
theorem conflict_ (x y : NI) : impl_conflict.f x.f0 x.f1 x.f2 y.f0 y.f1 y.f2 = some (conf x y) := by
  unfold impl_conflict.f conf
  by_cases h1 : x.f0 < y.f1
  · by_cases h2 : y.f0 < x.f1
    · rw [if_pos h1, if_pos h2]; simp [h1, h2]
    · rw [if_pos h1, if_neg h2]; simp [h2]
  · rw [if_neg h1]; simp [h1]
theorem meClash_ (x y : NI) : spec_meClash.f x.f0 x.f1 x.f2 y.f0 y.f1 y.f2 = some (conf x y) := by
  unfold spec_meClash.f conf
  cases hb : (!(x.f0 == y.f0) || (!(x.f1 == y.f1) || (!(x.f2.toList == y.f2.toList)))) with
  | false => simp
  | true =>
    rw [if_pos rfl]
    by_cases h1 : x.f0 < y.f1
    · rw [if_pos h1]; simp [h1]
    · rw [if_neg h1]; simp [h1]
/-- What the rest of the rounds comes to. -/
def Next (x y : List NI) (i : Nat) : Prop := ∀ out : List (List Int), out.length ≤ i * y.length → (∀ q, q ∈ out → q.length = 2) →
  ∃ r : List (List Int), r.length ≤ x.length * y.length ∧ (∀ q, q ∈ r → q.length = 2) ∧ Ev (fun k => spec_mePairs.l0 k y out x (x.length : Int) (i : Int)) r ∧ Ev (fun k => impl_conflicts.l0 k y out x (x.length : Int) (i : Int)) r
theorem inner (x y : List NI) (hx : x.length ≤ 1000) (hy : y.length ≤ 1000) (i : Nat) (hi : i < x.length) (hn : Next x y (i + 1)) (n : NI) : ∀ e j : Nat, j + e = y.length → ∀ out : List (List Int), out.length ≤ i * y.length + j → (∀ q, q ∈ out → q.length = 2) →
    ∃ r : List (List Int), r.length ≤ x.length * y.length ∧ (∀ q, q ∈ r → q.length = 2) ∧ Ev (fun k => spec_mePairs.l1 k y out (i : Int) x (x.length : Int) (i : Int) y (y.length : Int) (j : Int) n.f0 n.f1 n.f2) r ∧ Ev (fun k => impl_conflicts.l1 k y out (i : Int) x (x.length : Int) (i : Int) y (y.length : Int) (j : Int) n.f0 n.f1 n.f2) r := by
  intro e
  induction e with
  | zero =>
    intro j hj out ho hq
    obtain ⟨r, h1, h2, h3, h4⟩ := hn out (by rw [Nat.succ_mul]; omega) hq
    rw [← wrap_succ (by omega)] at h3 h4
    exact ⟨r, h1, h2, Ev.step (fun _ => spec_mePairs.l1.eq_2 ..) (Ev.neg (by omega) h3), Ev.step (fun _ => impl_conflicts.l1.eq_2 ..) (Ev.neg (by omega) h4)⟩
  | succ e ih =>
    intro j hj out ho hq
    have hb : i * y.length ≤ 1000 * 1000 := Nat.mul_le_mul (by omega) hy
    cases hc : conf n (rd_T63 y (j : Int)) with
    | true =>
      obtain ⟨r, h1, h2, h3, h4⟩ := ih (j + 1) (by omega) (out ++ [[(i : Int), (j : Int)]]) (by simp; omega) (by
        intro q hq'
        rcases List.mem_append.1 hq' with h | h
        · exact hq q h
        · rw [List.mem_singleton.1 h]; rfl)
      rw [← wrap_succ (by omega)] at h3 h4
      have hs := meClash_ n (rd_T63 y (j : Int))
      have hp := conflict_ n (rd_T63 y (j : Int))
      rw [hc] at hs hp
      exact ⟨r, h1, h2, Ev.step (fun _ => spec_mePairs.l1.eq_2 ..) (Ev.pos (by omega) (Ev.pos (by omega) (Ev.pos (by omega) (Ev.have hs (Ev.pos rfl (Ev.pos (by omega) h3)))))), Ev.step (fun _ => impl_conflicts.l1.eq_2 ..) (Ev.pos (by omega) (Ev.pos (by omega) (Ev.pos (by omega) (Ev.have hp (Ev.pos rfl (Ev.pos (by omega) h4))))))⟩
    | false =>
      obtain ⟨r, h1, h2, h3, h4⟩ := ih (j + 1) (by omega) out (by omega) hq
      rw [← wrap_succ (by omega)] at h3 h4
      have hs := meClash_ n (rd_T63 y (j : Int))
      have hp := conflict_ n (rd_T63 y (j : Int))
      rw [hc] at hs hp
      exact ⟨r, h1, h2, Ev.step (fun _ => spec_mePairs.l1.eq_2 ..) (Ev.pos (by omega) (Ev.pos (by omega) (Ev.pos (by omega) (Ev.have hs (Ev.neg (by simp) h3))))), Ev.step (fun _ => impl_conflicts.l1.eq_2 ..) (Ev.pos (by omega) (Ev.pos (by omega) (Ev.pos (by omega) (Ev.have hp (Ev.neg (by simp) h4)))))⟩
theorem next_all (x y : List NI) (hx : x.length ≤ 1000) (hy : y.length ≤ 1000) : ∀ d i : Nat, i + d = x.length → Next x y i := by
  intro d
  induction d with
  | zero =>
    intro i hi out ho hq
    obtain rfl : i = x.length := by omega
    exact ⟨out, ho, hq, Ev.step (fun _ => spec_mePairs.l0.eq_2 ..) (Ev.neg (by omega) (Ev.some rfl)), Ev.step (fun _ => impl_conflicts.l0.eq_2 ..) (Ev.neg (by omega) (Ev.some rfl))⟩
  | succ d ih =>
    intro i hi out ho hq
    obtain ⟨r, h1, h2, h3, h4⟩ := inner x y hx hy i (by omega) (ih (i + 1) (by omega)) (rd_T63 x (i : Int)) y.length 0 (by omega) out (by omega) hq
    exact ⟨r, h1, h2, Ev.step (fun _ => spec_mePairs.l0.eq_2 ..) (Ev.pos (by omega) (Ev.pos (by omega) (Ev.pos (by omega) h3))), Ev.step (fun _ => impl_conflicts.l0.eq_2 ..) (Ev.pos (by omega) (Ev.pos (by omega) (Ev.pos (by omega) h4)))⟩
theorem pairs_ (x y : List NI) (hx : x.length ≤ 1000) (hy : y.length ≤ 1000) : ∃ r : List (List Int), r.length ≤ 1000000 ∧ (∀ q, q ∈ r → q.length = 2) ∧ Ev (fun k => spec_mePairs.f k x y) r ∧ Ev (fun k => impl_conflicts.f k x y) r := by
  obtain ⟨r, h1, h2, h3, h4⟩ := next_all x y hx hy x.length 0 (by omega) [] (Nat.zero_le _) (fun q h => nomatch h)
  exact ⟨r, Nat.le_trans h1 (Nat.mul_le_mul hx hy), h2, h3, h4⟩
theorem meBoth_ (x y : List NI) (hx : Sized x) (hy : Sized y) : Ev (fun k => spec_meBoth.f k x y) (tierB x && tierB y) := by
  unfold spec_meBoth.f
  refine Ev.bind (tiGood_ x hx) (Ev.ite (fun h1 => ?_) (fun h1 => Ev.some (by simp [h1])))
  exact Ev.bind (tiGood_ y hy) (Ev.some (by simp [h1]))
theorem tier_length {l : List NI} (h : tierB l = true) : l.length ≤ 40 := by
  unfold tierB at h
  simp only [Bool.and_eq_true, decide_eq_true_eq] at h
  omega
end Go.Proofs.Ytmllkdgdkagkkaa.MConf
