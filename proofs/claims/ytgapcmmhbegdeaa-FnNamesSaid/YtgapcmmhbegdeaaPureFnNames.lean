/- FnNames answers true for all bytes. No condition beyond what every row's reading gives. -/
import Derived.Test.YtgapcmmhbegdeaaG0
import Derived.Test.YtgapcmmhbegdeaaG12
import Derived.Test.YtgapcmmhbegdeaaG62
import Derived.Test.YtgapcmmhbegdeaaG63
import Derived.Test.YtgapcmmhbegdeaaG69
import Derived.Test.YtgapcmmhbegdeaaG70
import Derived.Test.YtgapcmmhbegdeaaG72
import Derived.Test.YtgapcmmhbegdeaaMAll
import Derived.Test.YtgapcmmhbegdeaaMBase
namespace Go.Proofs.Ytgapcmmhbegdeaa.Pure
open Go.RowKit Go.Proofs.Ytgapcmmhbegdeaa.G Go.Proofs.YtgapcmmhbegdeaaW.PrintWords Go.Proofs.YtgapcmmhbegdeaaW.PrintLast Go.Proofs.Ytgapcmmhbegdeaa.MPure Go.Proofs.Ytgapcmmhbegdeaa.MWord Go.Proofs.Ytgapcmmhbegdeaa.MPerson Go.Proofs.Ytgapcmmhbegdeaa.MDraw Go.Proofs.Ytgapcmmhbegdeaa.MDrawP Go.Proofs.Ytgapcmmhbegdeaa.MDrawN Go.Proofs.Ytgapcmmhbegdeaa.MQLists Go.Proofs.Ytgapcmmhbegdeaa.MQPeople Go.Proofs.Ytgapcmmhbegdeaa.MClash
open Go.Proofs.Ytgapcmmhbegdeaa.MCSolveClashes (solR Solve_s Solve_i)
open Go.Proofs.Ytgapcmmhbegdeaa.MCRenamePerson (renR renOk Rename_s Rename_i renR_length)
open Go.Proofs.Ytgapcmmhbegdeaa.MCFewestChanges (fewR Fewest_s Fewest_i fewR_length)
open Go.Proofs.Ytgapcmmhbegdeaa.MFree (naFree_)
open Go.Proofs.Ytgapcmmhbegdeaa.MChanges (cnd hit_eq atP_get upto_lt)

theorem rd_at (l : List PI) (n : Nat) : rd_T77 l (n : Int) = atP l n := rfl
theorem pIn_ (L : List Int) (x : Int) (hL : L.length ≤ 1000000) : Ev (fun k => laws_pIn.f k L x) (decide (x ∈ L)) := by
  have key : ∀ d i : Nat, i + d = L.length → Ev (fun k => laws_pIn.l0 k x L (L.length : Int) (i : Int)) (decide (x ∈ L.drop i)) := by
    intro d
    induction d with
    | zero =>
      intro i hi
      rw [List.drop_of_length_le (by omega)]
      exact Ev.step (fun _ => laws_pIn.l0.eq_2 ..) (Ev.neg (by omega) (Ev.some (by simp)))
    | succ d ih =>
      intro i hi
      have h := ih (i + 1) (by omega)
      rw [← wrap_succ (by omega)] at h
      have hr : rd L (i : Int) = L[i]'(by omega) := by
        show L.getD i 0 = _
        rw [List.getD_eq_getElem?_getD, List.getElem?_eq_getElem (by omega)]
        rfl
      rw [List.drop_eq_getElem_cons (show i < L.length by omega)]
      refine Ev.step (fun _ => laws_pIn.l0.eq_2 ..) (Ev.pos (by omega) (Ev.pos (by omega) (Ev.pos (by omega) (Ev.ite (fun e => Ev.some ?_) (fun e => Ev.eq h ?_)))))
      · rw [hr] at e
        rw [e]; simp
      · rw [hr] at e
        have h3 : ¬ x = L[i]'(by omega) := fun h => e h.symm
        rw [decide_eq_decide, List.mem_cons]
        exact ⟨Or.inr, fun h => h.resolve_left h3⟩
  have h := key L.length 0 (by omega)
  rw [List.drop_zero] at h
  exact h

/-! ### people, place by place -/
def oneB (x : PI) : Bool := personB x.f0 x.f1 x.f2 x.f3
theorem peopleB_iff (l : List PI) : peopleB l = true ↔ l.length ≤ 10 ∧ ∀ i, i < l.length → oneB (atP l i) = true ∧ (i = 0 ∨ lessB (atP l (i - 1)).f0 (atP l i).f0 = true) := by
  unfold peopleB peopleP oneB
  simp only [Bool.and_eq_true, decide_eq_true_eq, List.all_eq_true, List.mem_range, Bool.or_eq_true]
  constructor
  · rintro ⟨h1, h2⟩
    exact ⟨by omega, h1⟩
  · rintro ⟨h1, h2⟩
    exact ⟨h2, by omega⟩
theorem one_iff (x : PI) : oneB x = true ↔ wordB smallB x.f0 = true ∧ (0 ≤ x.f1 ∧ x.f1 ≤ 25) ∧ (0 ≤ x.f2 ∧ x.f2 ≤ 9) ∧ (1800 ≤ x.f3 ∧ x.f3 ≤ 2200) := by
  unfold oneB personB letterB placeB yearB
  simp only [Bool.and_eq_true, decide_eq_true_eq, and_assoc]
theorem atP_set (l : List PI) (n j : Nat) (v : PI) (h : n < l.length) : atP (l.set n v) j = if j = n then v else atP l j := by
  unfold atP
  by_cases e : j = n
  · subst e
    rw [if_pos rfl, List.getD_eq_getElem?_getD, List.getElem?_set_self h]
    rfl
  · rw [if_neg e, List.getD_eq_getElem?_getD, List.getElem?_set_ne (fun h => e h.symm), ← List.getD_eq_getElem?_getD]
theorem mem_atP {l : List PI} {x : PI} (h : x ∈ l) : ∃ i, i < l.length ∧ atP l i = x := by
  obtain ⟨i, hi, e⟩ := List.mem_iff_getElem.1 h
  exact ⟨i, hi, (atP_get hi).trans e⟩
/-- One person gets another letter, place and year: people they stay. -/
theorem people_set (l : List PI) (n : Nat) (v : PI) (hn : n < l.length) (h : peopleB l = true) (h0 : v.f0 = (atP l n).f0) (hv : oneB v = true) : peopleB (l.set n v) = true := by
  rw [peopleB_iff] at h ⊢
  obtain ⟨h1, h2⟩ := h
  have hname : ∀ j, (atP (l.set n v) j).f0 = (atP l j).f0 := by
    intro j
    rw [atP_set l n j v hn]
    split
    · rename_i e; rw [e, h0]
    · rfl
  rw [List.length_set]
  refine ⟨h1, fun i hi => ⟨?_, ?_⟩⟩
  · rw [atP_set l n i v hn]
    split
    · exact hv
    · exact (h2 i hi).1
  · rw [hname, hname]
    exact (h2 i hi).2

/-! ### the least free place -/
theorem from_ge (l : List PI) (a : Int) : ∀ d : Nat, d ≤ 10 → -1 ≤ impl_freePlace.from l a d ∧ impl_freePlace.from l a d ≤ 9
  | 0, _ => by rw [impl_freePlace.from]; omega
  | d + 1, h => by
    have := from_ge l a d (by omega)
    rw [impl_freePlace.from]
    split
    · exact this
    · omega
theorem from_free (l : List PI) (a : Int) : ∀ d : Nat, 0 ≤ impl_freePlace.from l a d → ∀ x, x ∈ l → ¬ (x.f1 = a ∧ x.f2 = impl_freePlace.from l a d)
  | 0, h => by rw [impl_freePlace.from] at h; omega
  | d + 1, h => by
    rw [impl_freePlace.from] at h ⊢
    by_cases c : l.any (impl_freePlace.p a (9 - (d : Int))) = true
    · rw [if_pos c] at h ⊢
      exact from_free l a d h
    · rw [if_neg c] at h ⊢
      intro x hx hc
      exact c (List.any_eq_true.2 ⟨x, hx, decide_eq_true hc⟩)

/-! ### who has to change -/
theorem mem_upto (l : List PI) (i : Nat) : ∀ n, (i : Int) ∈ impl_changes.upto l n ↔ i < n ∧ impl_changes.hit l i = true
  | 0 => by simp [impl_changes.upto]
  | n + 1 => by
    rw [impl_changes.upto]
    by_cases h : impl_changes.hit l n = true
    · rw [if_pos h, List.mem_append, mem_upto l i n, List.mem_singleton]
      constructor
      · rintro (⟨h1, h2⟩ | h1)
        · exact ⟨by omega, h2⟩
        · obtain rfl : i = n := by omega
          exact ⟨by omega, h⟩
      · rintro ⟨h1, h2⟩
        by_cases e : i = n
        · exact Or.inr (by omega)
        · exact Or.inl ⟨by omega, h2⟩
    · rw [if_neg h, mem_upto l i n]
      constructor
      · rintro ⟨h1, h2⟩
        exact ⟨by omega, h2⟩
      · rintro ⟨h1, h2⟩
        refine ⟨?_, h2⟩
        rcases Nat.lt_or_ge i n with h3 | h3
        · exact h3
        · obtain rfl : i = n := by omega
          exact absurd h2 h
theorem hit_of (l : List PI) (i k : Nat) (hi : i < l.length) (hk : k < l.length) (hne : k ≠ i) (hc : cl (atP l i) (atP l k) = true) (hs : (atP l k).f3 < (atP l i).f3 ∨ (atP l k).f3 = (atP l i).f3 ∧ k < i) : (i : Int) ∈ impl_changes.upto l l.length := by
  rw [mem_upto]
  refine ⟨hi, ?_⟩
  rw [← hit_eq l i hi]
  exact List.any_eq_true.2 ⟨k, List.mem_range.2 hk, decide_eq_true ⟨hne, (cl_iff _ _).1 hc, hs⟩⟩
theorem cl_comm (x y : PI) : cl x y = cl y x := by
  unfold cl
  rw [decide_eq_decide]
  exact ⟨fun h => ⟨h.1.symm, h.2.symm⟩, fun h => ⟨h.1.symm, h.2.symm⟩⟩
/-- Of two who clash one has to change. -/
theorem cover (l : List PI) (a k : Nat) (ha : a < l.length) (hk : k < l.length) (hne : a ≠ k) (hc : cl (atP l a) (atP l k) = true) : (a : Int) ∈ impl_changes.upto l l.length ∨ (k : Int) ∈ impl_changes.upto l l.length := by
  have hc2 : cl (atP l k) (atP l a) = true := (cl_comm _ _).trans hc
  rcases Int.lt_trichotomy (atP l a).f3 (atP l k).f3 with h | h | h
  · exact Or.inr (hit_of l k a hk ha hne hc2 (Or.inl h))
  · rcases Nat.lt_or_gt_of_ne hne with h2 | h2
    · exact Or.inr (hit_of l k a hk ha hne hc2 (Or.inr ⟨h, h2⟩))
    · exact Or.inl (hit_of l a k ha hk (fun h => hne h.symm) hc (Or.inr ⟨h.symm, h2⟩))
  · exact Or.inl (hit_of l a k ha hk (fun h => hne h.symm) hc (Or.inl h))
theorem few_clash (l : List PI) (a : Int) (h : a ∈ impl_changes.upto l l.length) : ∃ i k : Nat, i < k ∧ k < l.length ∧ cl (atP l i) (atP l k) = true := by
  have hb := upto_lt l l.length a h
  obtain ⟨i, rfl⟩ := Int.eq_ofNat_of_zero_le hb.1
  have h2 := (mem_upto l i l.length).1 h
  rw [← hit_eq l i h2.1] at h2
  obtain ⟨k, hk, hc⟩ := List.any_eq_true.1 h2.2
  have hk := List.mem_range.1 hk
  unfold cnd at hc
  have hc := of_decide_eq_true hc
  rcases Nat.lt_or_gt_of_ne hc.1 with h3 | h3
  · exact ⟨k, i, h3, h2.1, decide_eq_true ⟨hc.2.1.1.symm, hc.2.1.2.symm⟩⟩
  · exact ⟨i, k, h3, hk, decide_eq_true hc.2.1⟩
theorem len0 (L : List Int) : ((L.length : Int) == 0) = decide (L = []) := by
  cases L with
  | nil => rfl
  | cons a L =>
    have h : ¬ (((a :: L).length : Nat) : Int) = 0 := by rw [List.length_cons]; omega
    rw [show decide (a :: L = []) = false from decide_eq_false (fun h => nomatch h)]
    exact beq_false_of_ne h
theorem len0L (L : List (List Int)) : ((L.length : Int) == 0) = decide (L = []) := by
  cases L with
  | nil => rfl
  | cons a L =>
    have h : ¬ (((a :: L).length : Nat) : Int) = 0 := by rw [List.length_cons]; omega
    rw [show decide (a :: L = []) = false from decide_eq_false (fun h => nomatch h)]
    exact beq_false_of_ne h
theorem few_empty (l : List PI) (h : peopleB l = true) : (impl_changes.upto l l.length = []) ↔ ((clR l).1 = []) := by
  constructor
  · intro e
    refine List.eq_nil_iff_forall_not_mem.2 (fun q hq => ?_)
    obtain ⟨a, k, h1, h2, h3, _⟩ := (mem_clR l h q).1 hq
    rcases cover l a k (by omega) h2 (by omega) h3 with h4 | h4
    · rw [e] at h4; exact nomatch h4
    · rw [e] at h4; exact nomatch h4
  · intro e
    refine List.eq_nil_iff_forall_not_mem.2 (fun a ha => ?_)
    obtain ⟨i, k, h1, h2, h3⟩ := few_clash l a ha
    have := (mem_clR l h [(i : Int), (k : Int)]).2 ⟨i, k, h1, h2, h3, rfl⟩
    rw [e] at this
    exact nomatch this

/-! ### the clashes are solved -/
/-- Nobody clashes but those of L. -/
def Quiet (L : List Int) (o : List PI) : Prop := ∀ a b : Nat, a < o.length → b < o.length → a ≠ b → (a : Int) ∉ L → (b : Int) ∉ L → cl (atP o a) (atP o b) = false
theorem step_all (l : List PI) (y : Int) (hy : 1800 ≤ y ∧ y ≤ 2200) : ∀ (L : List Int) (o r : List PI), (∀ a, a ∈ L → 0 ≤ a ∧ a < (l.length : Int)) → o.length = l.length → (∀ j, (atP o j).f0 = (atP l j).f0 ∧ (atP o j).f1 = (atP l j).f1) → peopleB o = true → Quiet L o → impl_SolveClashes.step l y L o = some r →
    r.length = l.length ∧ (∀ j, (atP r j).f0 = (atP l j).f0 ∧ (atP r j).f1 = (atP l j).f1) ∧ peopleB r = true ∧ Quiet [] r ∧ (∀ j : Nat, (j : Int) ∉ L → atP r j = atP o j)
  | [], o, r, _, h1, h2, h3, h4, h => by
    rw [impl_SolveClashes.step] at h
    obtain rfl := Option.some.inj h
    exact ⟨h1, h2, h3, h4, fun _ _ => rfl⟩
  | i :: L, o, r, hL, h1, h2, h3, h4, h => by
    rw [impl_SolveClashes.step] at h
    split at h
    · exact absurd h (by simp)
    · rename_i hneg
      have hi := hL i List.mem_cons_self
      obtain ⟨n, rfl⟩ := Int.eq_ofNat_of_zero_le hi.1
      have hn : n < o.length := by omega
      rw [Int.toNat_natCast, rd_at, rd_at] at h
      rw [rd_at] at hneg
      obtain ⟨p, hp⟩ : ∃ p, p = impl_freePlace.from o (atP l n).f1 10 := ⟨_, rfl⟩
      have hb := from_ge o (atP l n).f1 10 (Nat.le_refl _)
      have hf := from_free o (atP l n).f1 10 (by omega)
      rw [← hp] at h hneg hb hf
      have ho := (peopleB_iff o).1 h3
      have hone := (one_iff _).1 (ho.2 n hn).1
      obtain ⟨v, hv⟩ : ∃ v : PI, v = ⟨(atP o n).f0, (atP o n).f1, p, y⟩ := ⟨_, rfl⟩
      rw [← hv] at h
      have hvo : oneB v = true := by
        rw [one_iff, hv]
        exact ⟨hone.1, hone.2.1, ⟨by show 0 ≤ p; omega, by show p ≤ 9; omega⟩, hy⟩
      have hat : ∀ j, atP (o.set n v) j = if j = n then v else atP o j := fun j => atP_set o n j v hn
      have g2 : ∀ j, (atP (o.set n v) j).f0 = (atP l j).f0 ∧ (atP (o.set n v) j).f1 = (atP l j).f1 := by
        intro j
        rw [hat]
        split
        · rename_i e
          rw [e, hv]
          exact h2 n
        · exact h2 j
      have new : ∀ b, b < o.length → b ≠ n → cl v (atP o b) = false := by
        intro b hb' hne
        refine decide_eq_false (fun hc => hf _ (atP_mem hb') ⟨?_, ?_⟩)
        · rw [← hc.1, hv]; exact (h2 n).2
        · rw [← hc.2, hv]
      have g4 : Quiet L (o.set n v) := by
        intro a b ha hb' hne na nb
        rw [List.length_set] at ha hb'
        rw [hat, hat]
        by_cases ea : a = n
        · rw [if_pos ea, if_neg (by omega)]
          exact new b hb' (by omega)
        · rw [if_neg ea]
          by_cases eb : b = n
          · rw [if_pos eb, cl_comm]
            exact new a ha ea
          · rw [if_neg eb]
            refine h4 a b ha hb' hne (fun hm => ?_) (fun hm => ?_)
            · rcases List.mem_cons.1 hm with hm | hm
              · exact ea (by omega)
              · exact na hm
            · rcases List.mem_cons.1 hm with hm | hm
              · exact eb (by omega)
              · exact nb hm
      obtain ⟨r1, r2, r3, r4, r5⟩ := step_all l y hy L (o.set n v) r (fun a ha => hL a (List.mem_cons_of_mem _ ha)) (by rw [List.length_set]; exact h1) g2 (people_set o n v hn h3 (by rw [hv]) hvo) g4 h
      refine ⟨r1, r2, r3, r4, fun j hj => ?_⟩
      rw [r5 j (fun hm => hj (List.mem_cons_of_mem _ hm)), hat, if_neg]
      intro e
      exact hj (by rw [e]; exact List.mem_cons_self)
theorem quiet_clR (r : List PI) (h : peopleB r = true) (hq : Quiet [] r) : clR r = ([], true) := by
  have e : (clR r).1 = [] := by
    refine List.eq_nil_iff_forall_not_mem.2 (fun q hm => ?_)
    obtain ⟨a, k, h1, h2, h3, _⟩ := (mem_clR r h q).1 hm
    have := hq a k (by omega) h2 (by omega) (fun h => nomatch h) (fun h => nomatch h)
    rw [h3] at this
    exact absurd this (by decide)
  have e2 : (clR r).2 = true := by unfold clR; rw [if_pos h]
  exact Prod.ext e e2
/-- What SolveClashes answers where it answers. -/
theorem sol_ok (l : List PI) (y : Int) (h : (solR l y).2.2 = true) : peopleB l = true ∧ (solR l y).2.1 = ((impl_changes.upto l l.length).length : Int) ∧ (solR l y).1.length = l.length ∧ (∀ j, (atP (solR l y).1 j).f0 = (atP l j).f0 ∧ (atP (solR l y).1 j).f1 = (atP l j).f1) ∧ peopleB (solR l y).1 = true ∧ clR (solR l y).1 = ([], true) ∧ (∀ j : Nat, (j : Int) ∉ impl_changes.upto l l.length → atP (solR l y).1 j = atP l j) := by
  unfold solR at h ⊢
  split at h
  rotate_left
  · exact absurd h (by decide)
  rename_i hok
  rw [if_pos hok]
  cases e : impl_SolveClashes.step l y (impl_changes.upto l l.length) l with
  | none => rw [e] at h; exact absurd h (by simp [impl_SolveClashes.fin])
  | some r =>
    have hq : Quiet (impl_changes.upto l l.length) l := by
      intro a b ha hb hne na nb
      refine Bool.eq_false_iff.2 (fun hc => ?_)
      rcases cover l a b ha hb hne hc with h1 | h1
      · exact na h1
      · exact nb h1
    obtain ⟨r1, r2, r3, r4, r5⟩ := step_all l y hok.2.1 _ l r (fun a ha => upto_lt l l.length a ha) rfl (fun _ => ⟨rfl, rfl⟩) hok.1 hq e
    exact ⟨hok.1, rfl, r1, r2, r3, quiet_clR r r3 r4, r5⟩

/-! ### new names -/
def newR (l : List PI) (s : ByteArray) (a y : Int) : ByteArray × Int × Int × Int × Bool := if peopleB l = true ∧ (wordB smallB s = true ∧ letterB a = true ∧ yearB y = true) ∧ 0 ≤ impl_freePlace.from l a 10 then (s, a, impl_freePlace.from l a 10, y, true) else ((⟨#[]⟩ : ByteArray), 0, 0, 0, false)
theorem New_s (l : List PI) (hl : SizedP l) (s : ByteArray) (hs : s.size ≤ 140737488351232) (a y : Int) : Ev (fun k => spec_NewName.f k l s a y) (newR l s a y) := by
  unfold spec_NewName.f newR
  have hf := naFree_ l hl.1 a
  refine Ev.bind (naGood_ l hl) (Ev.ite (fun h1 => ?_) (fun h1 => Ev.some (by rw [if_neg (fun h => h1 h.1)])))
  refine Ev.bind (naName_ s hs) (Ev.ite (fun h2 => ?_) (fun h2 => Ev.some (by rw [if_neg (fun h => h2 h.2.1.1)])))
  refine Ev.have (naLetter_ a) (Ev.ite (fun h3 => ?_) (fun h3 => Ev.some (by rw [if_neg (fun h => h3 h.2.1.2.1)])))
  refine Ev.have (naYear_ y) (Ev.ite (fun h4 => ?_) (fun h4 => Ev.some (by rw [if_neg (fun h => h4 h.2.1.2.2)])))
  refine Ev.bind hf (Ev.ite (fun h5 => Ev.some (by rw [if_neg (fun h => by have := h.2.2; omega)])) (fun h5 => Ev.bind hf (Ev.some (by rw [if_pos ⟨h1, ⟨h2, h3, h4⟩, by omega⟩]))))
theorem New_i (l : List PI) (hl : SizedP l) (s : ByteArray) (hs : s.size ≤ 140737488351232) (a y : Int) : Ev (fun k => impl_NewName.f k l s a y) (newR l s a y) := by
  unfold impl_NewName.f newR
  have hi : impl_freePlace.f l a = some (impl_freePlace.from l a 10) := rfl
  have hp := IsPerson_ s a 0 y hs
  have hfail : ∀ q : Bool, q = true → Ev (fun k => impl_NewName.j0 k l a q s a 0 y) ((⟨#[]⟩ : ByteArray), 0, 0, 0, false) := fun q hq => Ev.step (fun _ => impl_NewName.j0.eq_2 ..) (Ev.pos hq (Ev.some rfl))
  have hpe : personB s a 0 y = (wordB smallB s && letterB a && yearB y) := by
    unfold personB
    rw [show placeB 0 = true by decide, Bool.and_true]
  refine Ev.bind (ArePeople_ l hl) (Ev.ite (fun h1 => ?_) (fun h1 => Ev.eq (hfail true rfl) (by rw [if_neg (fun h => h1 h.1)])))
  refine Ev.bind hp ?_
  by_cases h2 : personB s a 0 y = true
  · have h3 : wordB smallB s = true ∧ letterB a = true ∧ yearB y = true := by
      rw [hpe] at h2
      simp only [Bool.and_eq_true, and_assoc] at h2
      exact h2
    refine Ev.step (fun _ => impl_NewName.j0.eq_2 ..) (Ev.neg (by rw [h2]; decide) (Ev.have hi (Ev.ite (fun h5 => Ev.some (by rw [if_neg (fun h => by have := h.2.2; omega)])) (fun h5 => Ev.some (by rw [if_pos ⟨h1, h3, by omega⟩])))))
  · refine Ev.eq (hfail _ (by rw [Bool.eq_false_iff.2 h2]; rfl)) ?_
    rw [if_neg]
    intro h
    apply h2
    rw [hpe]
    simp [h.2.1.1, h.2.1.2.1, h.2.1.2.2]
def whoR (l : List PI) (a b : Int) : List Int × Bool := if peopleB l = true ∧ (0 ≤ a ∧ a ≤ 25) ∧ (0 ≤ b ∧ b ≤ 9) then (MFun.places (impl_WhoIs.p a b) l, true) else ([], false)
theorem WhoIs_i (l : List PI) (hl : SizedP l) (hl2 : l.length ≤ 4398046511104) (a b : Int) : Ev (fun k => impl_WhoIs.f k l a b) (whoR l a b) := by
  unfold impl_WhoIs.f whoR
  refine Ev.bind (ArePeople_ l hl) (Ev.ite (fun h => Ev.pos (by omega) (Ev.some ?_)) (fun h => Ev.some ?_))
  · rw [if_pos h]
  · rw [if_neg h]
theorem places_none {α : Type} (p : α → Bool) : ∀ (l : List α) (i : Nat), (∀ x, x ∈ l → p x = false) → MFun.placesFrom p l i = []
  | [], _, _ => rfl
  | x :: l, i, h => by
    rw [MFun.placesFrom, h x List.mem_cons_self]
    exact places_none p l (i + 1) (fun y hy => h y (List.mem_cons_of_mem _ hy))
/-- One place alone. -/
theorem places_one {α : Type} (p : α → Bool) (z : α) : ∀ (l : List α) (n i : Nat), n < l.length → (∀ j, j < l.length → (p (l.getD j z) = true ↔ j = n)) → MFun.placesFrom p l i = [((i + n : Nat) : Int)]
  | [], n, i, hn, _ => nomatch hn
  | x :: l, n, i, hn, h => by
    have h0 := h 0 (by rw [List.length_cons]; omega)
    rw [List.getD_cons_zero] at h0
    rw [MFun.placesFrom]
    by_cases e : 0 = n
    · rw [if_pos (h0.2 e), ← e, places_none p l (i + 1) (fun y hy => ?_)]
      · rfl
      · obtain ⟨j, hj, rfl⟩ := List.mem_iff_getElem.1 hy
        have h2 := h (j + 1) (by rw [List.length_cons]; omega)
        rw [List.getD_cons_succ, List.getD_eq_getElem?_getD, List.getElem?_eq_getElem hj] at h2
        exact Bool.eq_false_iff.2 (fun h3 => by have := h2.1 h3; omega)
    · rw [if_neg (fun h3 => e (h0.1 h3))]
      obtain ⟨m, rfl⟩ : ∃ m, n = m + 1 := ⟨n - 1, by omega⟩
      rw [places_one p z l m (i + 1) (by rw [List.length_cons] at hn; omega) (fun j hj => ?_)]
      · congr 2
        omega
      · have h2 := h (j + 1) (by rw [List.length_cons]; omega)
        rw [List.getD_cons_succ] at h2
        rw [h2]
        omega
theorem new_ok (l : List PI) (s : ByteArray) (a y : Int) (h : (newR l s a y).2.2.2.2 = true) : whoR l a (newR l s a y).2.2.1 = ([], true) ∧ personB (newR l s a y).1 (newR l s a y).2.1 (newR l s a y).2.2.1 (newR l s a y).2.2.2.1 = true := by
  unfold newR at h ⊢
  split at h
  rotate_left
  · exact absurd h (by decide)
  rename_i hok
  rw [if_pos hok]
  obtain ⟨h1, ⟨h2, h3, h4⟩, h5⟩ := hok
  have hb := from_ge l a 10 (Nat.le_refl _)
  have hf := from_free l a 10 h5
  show whoR l a (impl_freePlace.from l a 10) = ([], true) ∧ personB s a (impl_freePlace.from l a 10) y = true
  constructor
  · unfold whoR
    rw [if_pos ⟨h1, of_decide_eq_true h3, by omega, hb.2⟩]
    have : MFun.places (impl_WhoIs.p a (impl_freePlace.from l a 10)) l = [] := places_none _ l 0 (fun x hx => decide_eq_false (hf x hx))
    rw [this]
  · unfold personB
    rw [h2, h3, h4, show placeB (impl_freePlace.from l a 10) = true from decide_eq_true ⟨h5, hb.2⟩]
    rfl
/-- What RenamePerson answers where it answers. -/
theorem ren_ok (l : List PI) (i a b y : Int) (hl : SizedP l) (h : (renR l i a b y).2 = true) : whoR (renR l i a b y).1 a b = ([i], true) ∧ peopleB (renR l i a b y).1 = true ∧ SizedP (renR l i a b y).1 := by
  unfold renR at h ⊢
  split at h
  rotate_left
  · exact absurd h (by decide)
  rename_i hok
  rw [if_pos hok]
  split at h
  · exact absurd h (by decide)
  rename_i hno
  rw [if_neg hno]
  obtain ⟨h1, h2, h3, h4, h5⟩ := hok
  have hlen := (peopleB_iff l).1 h1
  have hi : 0 ≤ i ∧ i < (l.length : Int) := by have := h2.2; unfold wrap64 at this; omega
  obtain ⟨n, rfl⟩ := Int.eq_ofNat_of_zero_le hi.1
  have hn : n < l.length := by omega
  rw [Int.toNat_natCast, rd_at]
  have hone := (one_iff _).1 (hlen.2 n hn).1
  have hp : peopleB (l.set n ⟨(atP l n).f0, a, b, y⟩) = true := people_set l n _ hn h1 rfl ((one_iff _).2 ⟨hone.1, h3, h4, h5⟩)
  have hno2 : ∀ x, x ∈ l → impl_RenamePerson.p a b x = false := fun x hx => Bool.eq_false_iff.2 (fun hc => hno (Or.inr (List.any_eq_true.2 ⟨x, hx, hc⟩)))
  refine ⟨?_, hp, ?_⟩
  · show whoR (l.set n ⟨(atP l n).f0, a, b, y⟩) a b = ([(n : Int)], true)
    unfold whoR
    rw [if_pos ⟨hp, h3, h4⟩]
    have : MFun.places (impl_WhoIs.p a b) (l.set n ⟨(atP l n).f0, a, b, y⟩) = [((0 + n : Nat) : Int)] := by
      refine places_one _ z77 _ n 0 (by rw [List.length_set]; exact hn) (fun j hj => ?_)
      rw [List.length_set] at hj
      show impl_WhoIs.p a b (atP (l.set n ⟨(atP l n).f0, a, b, y⟩) j) = true ↔ j = n
      rw [atP_set l n j _ hn]
      split
      · rename_i e
        exact ⟨fun _ => e, fun _ => decide_eq_true ⟨rfl, rfl⟩⟩
      · rename_i e
        refine ⟨fun hc => ?_, fun h => absurd h e⟩
        have := hno2 _ (atP_mem hj)
        rw [show impl_RenamePerson.p a b (atP l j) = true from hc] at this
        exact absurd this (by decide)
    rw [this, Nat.zero_add]
  · refine ⟨by rw [List.length_set]; exact hl.1, fun x hx => ?_⟩
    rcases List.mem_or_eq_of_mem_set hx with hx | rfl
    · exact hl.2 x hx
    · exact hl.2 (atP l n) (atP_mem hn)
theorem sized_names (l r : List PI) (h : r.length = l.length) (hn : ∀ j, (atP r j).f0 = (atP l j).f0 ∧ (atP r j).f1 = (atP l j).f1) (hl : SizedP l) : SizedP r := by
  refine ⟨by rw [h]; exact hl.1, fun x hx => ?_⟩
  obtain ⟨i, hi, rfl⟩ := mem_atP hx
  rw [(hn i).1]
  exact hl.2 _ (atP_mem (by omega))
theorem FnNames : laws_FnNames.Pure := by
  intro c m hc hm
  obtain ⟨l, y, e1, l1, S1⟩ := DrawSolveClashes_ c hc.1
  obtain ⟨u, n, a, y2, e2, l2, S2, hn⟩ := DrawNewName_ m hm.1
  obtain ⟨v, i, a2, b2, y3, e3, l3, S3⟩ := DrawRenamePerson_ m hm.1
  have z1 := S1.sized (by omega)
  have z2 := S2.sized (by omega)
  have z3 := S3.sized (by omega)
  have hn2 : n.size ≤ 140737488351232 := by omega
  -- the last part
  have F8 : Ev (fun k => laws_FnNames.j8 k i a2 b2 (renR v i a2 b2 y3).1 (renR v i a2 b2 y3).2 false) true := by
    refine Ev.step (fun _ => laws_FnNames.j8.eq_2 ..) (Ev.neg (by decide) (Ev.ite (fun h => ?_) (fun _ => Ev.some rfl)))
    obtain ⟨k1, k2, k3⟩ := ren_ok v i a2 b2 y3 z3 h
    have t := WhoIs_i _ k3 (by have := renR_length v i a2 b2 y3; omega) a2 b2
    rw [k1] at t
    exact Ev.bind t (Ev.pos rfl (Ev.bind (sameInts_ [i] (by simp)) (Ev.pos rfl (Ev.bind (Ev.eq (ArePeople_ _ k3) k2) (Ev.some rfl)))))
  have F7 : Ev (fun k => laws_FnNames.j7 k m) true := by
    refine Ev.step (fun _ => laws_FnNames.j7.eq_2 ..) (Ev.bind e3 (Ev.bind (Rename_i v z3 i a2 b2 y3) (Ev.bind (Rename_s v z3 i a2 b2 y3) ?_)))
    refine Ev.neg (by simp) (Ev.bind (pSamePeople_ _ (by have := renR_length v i a2 b2 y3; omega)) ?_)
    exact F8
  have F5 : Ev (fun k => laws_FnNames.j5 k m) true := by
    refine Ev.step (fun _ => laws_FnNames.j5.eq_2 ..) (Ev.bind e2 (Ev.bind (New_i u z2 n hn2 a y2) (Ev.bind (New_s u z2 n hn2 a y2) ?_)))
    refine Ev.neg (by simp) ?_
    have hs : (!((newR u n a y2).1.toList == (newR u n a y2).1.toList) || (!((newR u n a y2).2.1 == (newR u n a y2).2.1) || (!((newR u n a y2).2.2.1 == (newR u n a y2).2.2.1) || (!((newR u n a y2).2.2.2.1 == (newR u n a y2).2.2.2.1))))) = false := by simp
    rw [hs]
    refine Ev.step (fun _ => laws_FnNames.j6.eq_2 ..) (Ev.neg (by decide) (Ev.ite (fun h => ?_) (fun _ => F7)))
    obtain ⟨k1, k2⟩ := new_ok u n a y2 h
    have t := WhoIs_i u z2 (by omega) a (newR u n a y2).2.2.1
    rw [k1] at t
    have hz : (newR u n a y2).1.size ≤ 140737488351232 := by
      unfold newR
      split
      · exact hn2
      · exact Nat.zero_le _
    exact Ev.bind t (Ev.pos rfl (Ev.neg (by simp) (Ev.bind (Ev.eq (IsPerson_ _ _ _ _ hz) k2) (Ev.pos rfl F7))))
  -- solved
  have hfew : (fewR l).1.length ≤ 20 := Nat.le_trans (fewR_length l) l1
  have hcl := clR_length l
  have F2 : Ev (fun k => laws_FnNames.j2 k m l (solR l y).1 (solR l y).2.2 (solR l y).1 (solR l y).2.1 (fewR l).1) true := by
    refine Ev.step (fun _ => laws_FnNames.j2.eq_2 ..) (Ev.ite (fun h => ?_) (fun _ => F5))
    obtain ⟨k1, k2, k3, k4, k5, k6, k7⟩ := sol_ok l y h
    have zs := sized_names l _ k3 k4 z1
    have t := Clashes_i _ zs
    rw [k6] at t
    have ef : (fewR l).1 = impl_changes.upto l l.length := by unfold fewR; rw [if_pos k1]
    have L : ∀ d j : Nat, j + d = l.length → Ev (fun k => laws_FnNames.l1 k m l (fewR l).1 (solR l y).1 ((solR l y).1.length : Int) (j : Int)) true := by
      intro d
      induction d with
      | zero =>
        intro j hj
        exact Ev.step (fun _ => laws_FnNames.l1.eq_2 ..) (Ev.neg (by omega) F5)
      | succ d ih =>
        intro j hj
        have h2 := ih (j + 1) (by omega)
        rw [← wrap_succ (by omega)] at h2
        have hnames : Ev (fun k => if ((rd_T77 (solR l y).1 (j : Int)).f0).toList = ((rd_T77 l (j : Int)).f0).toList then (if ((rd_T77 (solR l y).1 (j : Int)).f1) = ((rd_T77 l (j : Int)).f1) then (laws_FnNames.l1 k m l (fewR l).1 (solR l y).1 ((solR l y).1.length : Int) (wrap64 ((j : Int) + 1))) else (some false)) else (some false)) true := by
          rw [rd_at, rd_at, (k4 j).1, (k4 j).2]
          exact Ev.pos rfl (Ev.pos rfl h2)
        refine Ev.step (fun _ => laws_FnNames.l1.eq_2 ..) (Ev.pos (by omega) (Ev.pos (by omega) (Ev.pos (by omega) (Ev.bind (pIn_ _ (j : Int) (by omega)) (Ev.ite (fun _ => Ev.pos (by omega) hnames) (fun hno => Ev.pos (by omega) (Ev.neg ?_ hnames)))))))
        have hj2 := k7 j (by rw [← ef]; exact of_decide_eq_false (Bool.eq_false_iff.2 hno))
        rw [rd_at, rd_at, hj2]
        simp
    have h3 : Ev (fun k => laws_FnNames.j3 k m l (solR l y).1 (fewR l).1 false) true := Ev.step (fun _ => laws_FnNames.j3.eq_2 ..) (Ev.neg (by decide) (L l.length 0 (by omega)))
    refine Ev.bind t (Ev.pos rfl (Ev.neg (by simp) (Ev.pos (by rw [k2, ef]) ?_)))
    rw [show (((solR l y).1.length : Int) != (l.length : Int)) = false by rw [k3]; simp]
    exact h3
  have hL0 : peopleB l = true → ∀ d j : Nat, j + d = (clR l).1.length → Ev (fun k => laws_FnNames.l0 k m l (solR l y).1 (solR l y).2.2 (solR l y).1 (solR l y).2.1 (fewR l).1 (clR l).1 ((clR l).1.length : Int) (j : Int)) true := by
    intro hp d
    have ef : (fewR l).1 = impl_changes.upto l l.length := by unfold fewR; rw [if_pos hp]
    induction d with
    | zero =>
      intro j hj
      exact Ev.step (fun _ => laws_FnNames.l0.eq_2 ..) (Ev.neg (by omega) F2)
    | succ d ih =>
      intro j hj
      have h2 := ih (j + 1) (by omega)
      rw [← wrap_succ (by omega)] at h2
      have hm : rd_L15 (clR l).1 (j : Int) ∈ (clR l).1 := by
        show (clR l).1.getD j [] ∈ (clR l).1
        rw [List.getD_eq_getElem?_getD, List.getElem?_eq_getElem (show j < (clR l).1.length by omega)]
        exact List.getElem_mem _
      obtain ⟨x, k, g1, g2, g3, g4⟩ := (mem_clR l hp _).1 hm
      have hcov := cover l x k (by omega) g2 (by omega) g3
      rw [← ef] at hcov
      refine Ev.step (fun _ => laws_FnNames.l0.eq_2 ..) (Ev.pos (by omega) (Ev.pos (by omega) (Ev.pos (by omega) ?_)))
      rw [g4]
      refine Ev.pos (by simp) (Ev.bind (pIn_ _ _ (by omega)) (Ev.ite (fun _ => h2) (fun hno => Ev.pos (by simp) (Ev.bind (pIn_ _ _ (by omega)) (Ev.pos ?_ h2)))))
      rcases hcov with h5 | h5
      · exact absurd (decide_eq_true h5) hno
      · exact decide_eq_true h5
  have F0 : Ev (fun k => laws_FnNames.j0 k m l (solR l y).1 (solR l y).2.2 (solR l y).1 (solR l y).2.1 (fewR l).2 (fewR l).1 (clR l).1 false) true := by
    refine Ev.step (fun _ => laws_FnNames.j0.eq_2 ..) (Ev.neg (by decide) (Ev.ite (fun h => ?_) (fun _ => F2)))
    have hp : peopleB l = true := by
      unfold fewR at h
      split at h
      · assumption
      · exact absurd h (by decide)
    have ef : (fewR l).1 = impl_changes.upto l l.length := by unfold fewR; rw [if_pos hp]
    refine Ev.neg ?_ (hL0 hp (clR l).1.length 0 (by omega))
    rw [len0, len0L, ef, show decide (impl_changes.upto l l.length = []) = decide ((clR l).1 = []) from decide_eq_decide.2 (few_empty l hp)]
    simp
  have hsl := MCSolveClashes.solR_length l y
  unfold laws_FnNames.f laws_big.f
  refine Ev.rounds ?_
  by_cases hb : (c.length : Int) > 1048576
  · exact Ev.have (by rw [if_pos hb]) (Ev.pos rfl (Ev.some rfl))
  refine Ev.have (by rw [if_neg hb]) (Ev.ite (fun _ => Ev.some rfl) (fun _ => ?_))
  refine Ev.bind e1 (Ev.bind (Solve_i l z1 y) (Ev.bind (Solve_s l z1 y) (Ev.bind (Fewest_i l z1) (Ev.bind (Fewest_s l z1) (Ev.bind (Clashes_i l z1) (Ev.bind (Clashes_s l z1) ?_))))))
  refine Ev.neg (by simp) (Ev.bind (pSamePeople_ _ (by omega)) (Ev.pos rfl (Ev.pos rfl (Ev.neg (by simp) (Ev.bind (sameInts_ _ (by omega)) (Ev.pos rfl (Ev.neg (by simp) (Ev.bind (sameLists_ _ (by omega) (fun x hx => ?_)) (Ev.pos rfl (Ev.bind (ArePeople_ l z1) ?_))))))))))
  · by_cases hp : peopleB l = true
    · obtain ⟨_, _, _, _, _, rfl⟩ := (mem_clR l hp x).1 hx
      simp
    · unfold clR at hx
      rw [if_neg hp] at hx
      exact nomatch hx
  have e5 : (fewR l).2 = peopleB l := by
    unfold fewR
    split
    · rename_i h; rw [h]
    · rename_i h; rw [Bool.eq_false_iff.2 h]
  have e6 : (clR l).2 = (fewR l).2 := by
    rw [e5]
    unfold clR
    split
    · rename_i h; rw [h]
    · rename_i h; rw [Bool.eq_false_iff.2 h]
  refine Ev.neg (by rw [e5]; simp) (Ev.neg (by rw [e6]; simp) (Ev.ite (fun h => ?_) (fun _ => F0)))
  have hp := (sol_ok l y h).1
  rw [show (!(fewR l).2) = false by rw [e5, hp]; rfl]
  exact F0
end Go.Proofs.Ytgapcmmhbegdeaa.Pure
