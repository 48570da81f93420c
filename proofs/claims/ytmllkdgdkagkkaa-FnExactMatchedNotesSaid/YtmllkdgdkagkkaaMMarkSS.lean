/- The laws' marks on rows of rows of numbers: what they come to, and that they are held. -/
import Derived.Test.YtmllkdgdkagkkaaG28
import Derived.Test.YtmllkdgdkagkkaaG52
import Derived.Test.YtmllkdgdkagkkaaMMarkI
namespace Go.Proofs.Ytmllkdgdkagkkaa.MMarkSS
open Go.RowKit Go.Proofs.Ytmllkdgdkagkkaa.G Go.Proofs.YtmllkdgdkagkkaaW.PrintWords Go.Proofs.YtmllkdgdkagkkaaW.PrintLast Go.Proofs.Ytmllkdgdkagkkaa.MPure Go.Proofs.Ytmllkdgdkagkkaa.MMarkI

def tot : List (List Int) → Nat
  | [] => 0
  | q :: l => q.length + tot l
def marksSS (n : Int) : List (List Int) → List (List Int)
  | [] => []
  | q :: l => marksI n q.length :: marksSS (n + (q.length : Int)) l
theorem marksSS_length : ∀ (l : List (List Int)) (n : Int), (marksSS n l).length = l.length
  | [], _ => rfl
  | q :: l, n => by simp [marksSS, marksSS_length l]
theorem marksSS_get : ∀ (l : List (List Int)) (n : Int) (j : Nat), j < l.length → (marksSS n l).getD j [] = marksI (n + (tot (l.take j) : Int)) (l.getD j []).length
  | [], _, _, h => absurd h (Nat.not_lt_zero _)
  | q :: l, n, 0, _ => by simp [marksSS, tot]
  | q :: l, n, j + 1, h => by
    have ih := marksSS_get l (n + (q.length : Int)) j (by simpa using h)
    simp only [marksSS, List.getD_cons_succ, List.take_succ_cons, tot]
    rw [ih, show n + (q.length : Int) + (tot (l.take j) : Int) = n + ((q.length + tot (l.take j) : Nat) : Int) by omega]
theorem tot_take : ∀ (l : List (List Int)) (j : Nat), j < l.length → tot (l.take (j + 1)) = tot (l.take j) + (l.getD j []).length
  | [], _, h => absurd h (Nat.not_lt_zero _)
  | q :: l, 0, _ => by simp [tot]
  | q :: l, j + 1, h => by
    have ih := tot_take l j (by simpa using h)
    simp only [List.take_succ_cons, tot, List.getD_cons_succ]
    rw [ih]
    omega
theorem tot_le : ∀ (l : List (List Int)) (j : Nat), tot (l.take j) ≤ tot l
  | [], j => by simp [tot]
  | q :: l, 0 => by simp [tot]
  | q :: l, j + 1 => by
    have := tot_le l j
    simp only [List.take_succ_cons, tot]
    omega
theorem tot_two : ∀ (l : List (List Int)), (∀ q, q ∈ l → q.length = 2) → tot l = 2 * l.length
  | [], _ => rfl
  | q :: l, h => by
    have h1 := h q (List.mem_cons_self ..)
    have h2 := tot_two l (fun x hx => h x (List.mem_cons_of_mem _ hx))
    simp only [tot, List.length_cons]
    omega
theorem row_le (l : List (List Int)) (j : Nat) (h : j < l.length) : (l.getD j []).length ≤ tot l := by
  have h1 := tot_take l j h
  have h2 := tot_le l (j + 1)
  omega
theorem eqIntSS_ (l : List (List Int)) (hl : l.length ≤ 140737488351232) (ht : tot l ≤ 140737488351232) : Ev (fun k => laws_eqIntSS.f k l l) true := by
  unfold laws_eqIntSS.f
  refine Ev.pos rfl ?_
  have h := loop_all0 (L := fun k i => laws_eqIntSS.l0 k l l i) l.length (fun _ => true) true (Ev.step (fun _ => laws_eqIntSS.l0.eq_2 ..) (Ev.neg (by omega) (Ev.some rfl)))
    (fun i hi _ r ih => by
      rw [← wrap_succ (by omega)] at ih
      refine Ev.step (fun _ => laws_eqIntSS.l0.eq_2 ..) (Ev.pos (by omega) (Ev.pos (by omega) (Ev.pos (by omega) (Ev.bind (eqIntS_ _ ?_) (Ev.pos rfl ih)))))
      exact Nat.le_trans (row_le l i hi) ht)
    (fun _ _ h => by cases h)
  exact Ev.eq h (by simp)
theorem markSS_ : ∀ (l : List (List Int)) (n : Int), 0 ≤ n → n + tot l ≤ 140737488351232 → Ev (fun k => laws_markIntSS.f k l n) (n + (tot l : Int), marksSS n l)
  | [], n, _, _ => Ev.some (by simp [tot, marksSS])
  | q :: l, n, h0, h1 => by
    have h2 : tot (q :: l) = q.length + tot l := rfl
    have ih := markSS_ l (n + (q.length : Int)) (by omega) (by omega)
    show Ev (fun k => (laws_markIntS.f k q n).bind fun t => (laws_markIntSS.f k l t.1).bind fun u => some (u.1, t.2 :: u.2)) _
    refine Ev.bind (markIntS_ q (by omega) n h0 (by omega)) (Ev.bind ih (Ev.some ?_))
    rw [h2]
    simp only [marksSS, Prod.mk.injEq, and_true]
    omega
theorem heldSS_ (l : List (List Int)) (n : Int) (h0 : 0 ≤ n) (h1 : n + tot l ≤ 140737488351232) (hl : l.length ≤ 140737488351232) : Ev (fun k => laws_heldIntSS.f k (marksSS n l) n) (n + (tot l : Int)) := by
  have hlen := marksSS_length l n
  have key : ∀ d j : Nat, j + d = l.length → Ev (fun k => laws_heldIntSS.l0 k (marksSS n l) (n + (tot (l.take j) : Int)) (j : Int)) (n + (tot l : Int)) := by
    intro d
    induction d with
    | zero =>
      intro j hj
      rw [List.take_of_length_le (by omega)]
      exact Ev.step (fun _ => laws_heldIntSS.l0.eq_2 ..) (Ev.neg (by rw [hlen]; omega) (Ev.some rfl))
    | succ d ih =>
      intro j hj
      have h := ih (j + 1) (by omega)
      have ht := tot_take l j (by omega)
      have hle := tot_le l (j + 1)
      rw [ht, ← wrap_succ (by omega)] at h
      have hh := heldIntS_ (l.getD j []).length (by omega) (n + (tot (l.take j) : Int)) (by omega) (by omega)
      rw [← marksSS_get l n j (by omega)] at hh
      refine Ev.step (fun _ => laws_heldIntSS.l0.eq_2 ..) (Ev.pos (by rw [hlen]; omega) (Ev.pos (by omega) (Ev.bind hh (Ev.neg (by omega) ?_))))
      rw [show n + ((tot (l.take j) + (l.getD j []).length : Nat) : Int) = n + (tot (l.take j) : Int) + ((l.getD j []).length : Int) by omega] at h
      exact h
  have h := key l.length 0 (by omega)
  unfold laws_heldIntSS.f
  simpa [tot] using h
/-- All that an exact law asks of a list of pairs. -/
theorem facts (r : List (List Int)) (g1 : r.length ≤ 1000000) (g2 : ∀ q, q ∈ r → q.length = 2) : ∃ (n : Int) (s : List (List Int)) (K : Nat), 0 ≤ n ∧ ∀ k, K ≤ k → laws_eqIntSS.f k r r = some true ∧ laws_markIntSS.f k r 1 = some (n, s) ∧ laws_heldIntSS.f k s 1 = some n := by
  have htot := tot_two r g2
  obtain ⟨K1, h1⟩ := eqIntSS_ r (by omega) (by omega)
  obtain ⟨K2, h2⟩ := markSS_ r 1 (by omega) (by omega)
  obtain ⟨K3, h3⟩ := heldSS_ r 1 (by omega) (by omega) (by omega)
  exact ⟨_, _, K1 + K2 + K3, by omega, fun k hk => ⟨h1 k (by omega), h2 k (by omega), h3 k (by omega)⟩⟩
end Go.Proofs.Ytmllkdgdkagkkaa.MMarkSS
