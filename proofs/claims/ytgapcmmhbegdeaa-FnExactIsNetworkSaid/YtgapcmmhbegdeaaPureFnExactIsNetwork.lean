/- FnExactIsNetwork: the pure law. -/
import Derived.Test.YtgapcmmhbegdeaaG36
import Derived.Test.YtgapcmmhbegdeaaG40
import Derived.Test.YtgapcmmhbegdeaaG41
import Derived.Test.YtgapcmmhbegdeaaG42
import Derived.Test.YtgapcmmhbegdeaaG95
import Derived.Test.YtgapcmmhbegdeaaMAll
namespace Go.Proofs.Ytgapcmmhbegdeaa.Pure
open Go.RowKit Go.Proofs.Ytgapcmmhbegdeaa.G Go.Proofs.YtgapcmmhbegdeaaW.PrintWords Go.Proofs.YtgapcmmhbegdeaaW.PrintLast Go.Proofs.Ytgapcmmhbegdeaa.MPure Go.Proofs.Ytgapcmmhbegdeaa.MNet

theorem netToS (l : List Int) (hl : l.length * 8 ≤ 140737488351232) : Ev (fun k => laws_toIntS.f k l) l := by
  have key : ∀ d i : Nat, i + d = l.length → Ev (fun k => laws_toIntS.l0 k l (l.take i ++ (List.replicate l.length (0 : Int)).drop i) (i : Int)) l := by
    intro d
    induction d with
    | zero =>
      intro i hi
      exact Ev.step (fun _ => laws_toIntS.l0.eq_2 ..) (Ev.neg (by omega) (Ev.some (fill_all (by rw [List.length_replicate]) (by omega))))
    | succ d ih =>
      intro i hi
      refine Ev.step (fun _ => laws_toIntS.l0.eq_2 ..) (Ev.pos (by omega) (Ev.pos (by omega) (Ev.pos ?_ ?_)))
      · rw [fill_length (by rw [List.length_replicate])]; omega
      · rw [wrap_succ (by omega)]
        have hi2 : i < l.length := by omega
        have e := set_fill (xs := l) (ys := List.replicate l.length (0 : Int)) (by rw [List.length_replicate]) hi2
        have e2 : l[i]'hi2 = rd l (i : Int) := by
          show _ = l.getD i 0
          rw [List.getD_eq_getElem?_getD, List.getElem?_eq_getElem hi2]
          rfl
        rw [e2] at e
        have := ih (i + 1) (by omega)
        rw [← e] at this
        exact this
  unfold laws_toIntS.f
  refine Ev.pos (by omega) (Ev.pos (by omega) ?_)
  exact key l.length 0 (by omega)
theorem netToSS (l : List (List Int)) (hr : ∀ q, q ∈ l → q.length * 8 ≤ 140737488351232) (hl : l.length * 24 ≤ 140737488351232) : Ev (fun k => laws_toIntSS.f k l) l := by
  have key : ∀ d i : Nat, i + d = l.length → Ev (fun k => laws_toIntSS.l0 k l (l.take i ++ (List.replicate l.length ([] : List Int)).drop i) (i : Int)) l := by
    intro d
    induction d with
    | zero =>
      intro i hi
      exact Ev.step (fun _ => laws_toIntSS.l0.eq_2 ..) (Ev.neg (by omega) (Ev.some (fill_all (by rw [List.length_replicate]) (by omega))))
    | succ d ih =>
      intro i hi
      have hrow := netToS (l.getD i []) (hr _ (get_mem l i (by omega)))
      refine Ev.step (fun _ => laws_toIntSS.l0.eq_2 ..) (Ev.pos (by omega) (Ev.pos (by omega) (Ev.bind hrow (Ev.pos ?_ ?_))))
      · rw [fill_length (by rw [List.length_replicate])]; omega
      · rw [wrap_succ (by omega)]
        have hi2 : i < l.length := by omega
        have e := set_fill (xs := l) (ys := List.replicate l.length ([] : List Int)) (by rw [List.length_replicate]) hi2
        have e2 : l[i]'hi2 = l.getD i [] := by
          rw [List.getD_eq_getElem?_getD, List.getElem?_eq_getElem hi2]
          rfl
        rw [e2] at e
        have := ih (i + 1) (by omega)
        rw [← e] at this
        exact this
  unfold laws_toIntSS.f
  refine Ev.pos (by omega) (Ev.pos (by omega) ?_)
  exact key l.length 0 (by omega)
theorem netToSSS (l : Net) (hg : Given l) : Ev (fun k => laws_toIntSSS.f k l) l := by
  have hl := hg.2
  have key : ∀ d i : Nat, i + d = l.length → Ev (fun k => laws_toIntSSS.l0 k l (l.take i ++ (List.replicate l.length ([] : List (List Int))).drop i) (i : Int)) l := by
    intro d
    induction d with
    | zero =>
      intro i hi
      exact Ev.step (fun _ => laws_toIntSSS.l0.eq_2 ..) (Ev.neg (by omega) (Ev.some (fill_all (by rw [List.length_replicate]) (by omega))))
    | succ d ih =>
      intro i hi
      have hm := hg.1 _ (get_mem l i (by omega))
      have hrow := netToSS (l.getD i []) (fun q hq => (hm.1 q hq).2) hm.2
      refine Ev.step (fun _ => laws_toIntSSS.l0.eq_2 ..) (Ev.pos (by omega) (Ev.pos (by omega) (Ev.bind hrow (Ev.pos ?_ ?_))))
      · rw [fill_length (by rw [List.length_replicate])]; omega
      · rw [wrap_succ (by omega)]
        have hi2 : i < l.length := by omega
        have e := set_fill (xs := l) (ys := List.replicate l.length ([] : List (List Int))) (by rw [List.length_replicate]) hi2
        have e2 : l[i]'hi2 = l.getD i [] := by
          rw [List.getD_eq_getElem?_getD, List.getElem?_eq_getElem hi2]
          rfl
        rw [e2] at e
        have := ih (i + 1) (by omega)
        rw [← e] at this
        exact this
  unfold laws_toIntSSS.f
  refine Ev.pos (by omega) (Ev.pos (by omega) ?_)
  exact key l.length 0 (by omega)
theorem netSzS (l : List Int) (hl : l.length * 8 ≤ 140737488351232) (n : Int) (h0 : 0 ≤ n) (h1 : n ≤ 1048576) : ∃ z, laws_szIntS.f l n = some z ∧ z ≤ n := by
  unfold laws_szIntS.f
  rw [wrap_in (by omega) (by omega)]
  by_cases h : n - (l.length : Int) < 0
  · rw [if_pos h]; exact ⟨-1, rfl, by omega⟩
  · rw [if_neg h]; exact ⟨_, rfl, by omega⟩
theorem netSzSS (l : List (List Int)) (hr : ∀ q, q ∈ l → q.length * 8 ≤ 140737488351232) (hl : l.length * 24 ≤ 140737488351232) (n : Int) (h0 : 0 ≤ n) (h1 : n ≤ 1048576) : ∃ z, Ev (fun k => laws_szIntSS.f k l n) z ∧ z ≤ n := by
  have key : ∀ d i : Nat, i + d = l.length → ∀ z : Int, 0 ≤ z → z ≤ 1048576 → ∃ r, Ev (fun k => laws_szIntSS.l0 k l z (i : Int)) r ∧ r ≤ z := by
    intro d
    induction d with
    | zero =>
      intro i hi z _ _
      exact ⟨z, Ev.step (fun _ => laws_szIntSS.l0.eq_2 ..) (Ev.neg (by omega) (Ev.some rfl)), Int.le_refl _⟩
    | succ d ih =>
      intro i hi z h0 h1
      obtain ⟨z1, hz1, g1⟩ := netSzS (l.getD i []) (hr _ (get_mem l i (by omega))) z h0 h1
      by_cases hneg : z1 < 0
      · exact ⟨-1, Ev.step (fun _ => laws_szIntSS.l0.eq_2 ..) (Ev.pos (by omega) (Ev.pos (by omega) (Ev.have hz1 (Ev.pos hneg (Ev.some rfl))))), by omega⟩
      · obtain ⟨r, hr2, h2⟩ := ih (i + 1) (by omega) z1 (by omega) (by omega)
        rw [← wrap_succ (by omega)] at hr2
        exact ⟨r, Ev.step (fun _ => laws_szIntSS.l0.eq_2 ..) (Ev.pos (by omega) (Ev.pos (by omega) (Ev.have hz1 (Ev.neg hneg hr2)))), by omega⟩
  unfold laws_szIntSS.f
  rw [wrap_in (by omega) (by omega)]
  by_cases h : n - (l.length : Int) < 0
  · exact ⟨-1, Ev.pos h (Ev.some rfl), by omega⟩
  · obtain ⟨r, hr2, h2⟩ := key l.length 0 (by omega) _ (Int.not_lt.1 h) (by omega)
    exact ⟨r, Ev.neg h hr2, by omega⟩
theorem netSz (l : Net) (hg : Given l) : ∃ z, Ev (fun k => laws_szIntSSS.f k l 1048576) z := by
  have hl := hg.2
  have key : ∀ d i : Nat, i + d = l.length → ∀ z : Int, 0 ≤ z → z ≤ 1048576 → ∃ r, Ev (fun k => laws_szIntSSS.l0 k l z (i : Int)) r := by
    intro d
    induction d with
    | zero =>
      intro i hi z _ _
      exact ⟨z, Ev.step (fun _ => laws_szIntSSS.l0.eq_2 ..) (Ev.neg (by omega) (Ev.some rfl))⟩
    | succ d ih =>
      intro i hi z h0 h1
      have hm := hg.1 _ (get_mem l i (by omega))
      obtain ⟨z1, hz1, g1⟩ := netSzSS (l.getD i []) (fun q hq => (hm.1 q hq).2) hm.2 z h0 h1
      by_cases hneg : z1 < 0
      · exact ⟨-1, Ev.step (fun _ => laws_szIntSSS.l0.eq_2 ..) (Ev.pos (by omega) (Ev.pos (by omega) (Ev.bind hz1 (Ev.pos hneg (Ev.some rfl)))))⟩
      · obtain ⟨r, hr2⟩ := ih (i + 1) (by omega) z1 (by omega) (by omega)
        rw [← wrap_succ (by omega)] at hr2
        exact ⟨r, Ev.step (fun _ => laws_szIntSSS.l0.eq_2 ..) (Ev.pos (by omega) (Ev.pos (by omega) (Ev.bind hz1 (Ev.neg hneg hr2))))⟩
  unfold laws_szIntSSS.f
  rw [wrap_in (by omega) (by omega)]
  by_cases h : (1048576 : Int) - (l.length : Int) < 0
  · exact ⟨-1, Ev.pos h (Ev.some rfl)⟩
  · obtain ⟨r, hr2⟩ := key l.length 0 (by omega) _ (Int.not_lt.1 h) (by omega)
    exact ⟨r, Ev.neg h hr2⟩
theorem netEqS (l : List Int) (hl : l.length ≤ 140737488351232) : Ev (fun k => laws_eqIntS.f k l l) true := by
  unfold laws_eqIntS.f
  refine Ev.pos rfl ?_
  have h := loop_all0 (L := fun k i => laws_eqIntS.l0 k l l i) l.length (fun _ => true) true (Ev.step (fun _ => laws_eqIntS.l0.eq_2 ..) (Ev.neg (by omega) (Ev.some rfl)))
    (fun i hi _ r ih => by
      rw [← wrap_succ (by omega)] at ih
      exact Ev.step (fun _ => laws_eqIntS.l0.eq_2 ..) (Ev.pos (by omega) (Ev.pos (by omega) (Ev.pos (by omega) (Ev.pos rfl ih)))))
    (fun _ _ h => by cases h)
  exact Ev.eq h (by simp)
theorem netEqSS (l : List (List Int)) (hr : ∀ q, q ∈ l → q.length * 8 ≤ 140737488351232) (hl : l.length * 24 ≤ 140737488351232) : Ev (fun k => laws_eqIntSS.f k l l) true := by
  unfold laws_eqIntSS.f
  refine Ev.pos rfl ?_
  have h := loop_all0 (L := fun k i => laws_eqIntSS.l0 k l l i) l.length (fun _ => true) true (Ev.step (fun _ => laws_eqIntSS.l0.eq_2 ..) (Ev.neg (by omega) (Ev.some rfl)))
    (fun i hi _ r ih => by
      rw [← wrap_succ (by omega)] at ih
      exact Ev.step (fun _ => laws_eqIntSS.l0.eq_2 ..) (Ev.pos (by omega) (Ev.pos (by omega) (Ev.pos (by omega) (Ev.bind (netEqS (l.getD i []) (by have := hr _ (get_mem l i hi); omega)) (Ev.pos rfl ih))))))
    (fun _ _ h => by cases h)
  exact Ev.eq h (by simp)
theorem netEqSSS (l : Net) (hg : Given l) : Ev (fun k => laws_eqIntSSS.f k l l) true := by
  have hl := hg.2
  unfold laws_eqIntSSS.f
  refine Ev.pos rfl ?_
  have h := loop_all0 (L := fun k i => laws_eqIntSSS.l0 k l l i) l.length (fun _ => true) true (Ev.step (fun _ => laws_eqIntSSS.l0.eq_2 ..) (Ev.neg (by omega) (Ev.some rfl)))
    (fun i hi _ r ih => by
      rw [← wrap_succ (by omega)] at ih
      have hm := hg.1 _ (get_mem l i hi)
      exact Ev.step (fun _ => laws_eqIntSSS.l0.eq_2 ..) (Ev.pos (by omega) (Ev.pos (by omega) (Ev.pos (by omega) (Ev.bind (netEqSS _ (fun q hq => (hm.1 q hq).2) hm.2) (Ev.pos rfl ih))))))
    (fun _ _ h => by cases h)
  exact Ev.eq h (by simp)
theorem FnExactIsNetwork : laws_FnExactIsNetwork.Pure := by
  intro l hl
  have hg : Given l := hl
  obtain ⟨z, hz⟩ := netSz l hg
  have h1 := netToSSS l hg
  have h2 := spNetwork_ l hg
  have h3 := isNetwork_ l hg
  have h4 := netEqSSS l hg
  have h5 : Ev (fun k => spec_IsNetwork.f k l) (netB l) := by
    unfold spec_IsNetwork.f
    exact Ev.bind h2 (Ev.some rfl)
  have key : Ev (fun k => laws_FnExactIsNetwork.f k l) true := by
    unfold laws_FnExactIsNetwork.f
    refine Ev.bind hz ?_
    by_cases hneg : z < 0
    · exact Ev.pos hneg (Ev.some rfl)
    · exact Ev.neg hneg (Ev.bind h1 (Ev.bind h5 (Ev.bind h1 (Ev.bind h3 (Ev.neg (by simp) (Ev.bind h1 (Ev.bind h4 (Ev.pos rfl (Ev.some rfl)))))))))
  obtain ⟨K, hK⟩ := key
  exact ⟨K, hK K (Nat.le_refl _)⟩
end Go.Proofs.Ytgapcmmhbegdeaa.Pure
