/- What the program's sort of a tier comes to: of two orderings of the same notes by their begins at most one is a tier. -/
import Derived.Test.YtmllkdgdkagkkaaG8
import Derived.Test.YtmllkdgdkagkkaaG9
import Derived.Test.YtmllkdgdkagkkaaG58
import Derived.Test.YtmllkdgdkagkkaaMMerge
namespace Go.Proofs.Ytmllkdgdkagkkaa.MTier
open Go.RowKit Go.Proofs.Ytmllkdgdkagkkaa.G Go.Proofs.YtmllkdgdkagkkaaW.PrintWords Go.Proofs.YtmllkdgdkagkkaaW.PrintLast Go.Proofs.Ytmllkdgdkagkkaa.MPure Go.Proofs.Ytmllkdgdkagkkaa.MWord Go.Proofs.Ytmllkdgdkagkkaa.MNote Go.Proofs.Ytmllkdgdkagkkaa.MSort Go.Proofs.Ytmllkdgdkagkkaa.MMerge

theorem tier_at {l : List NI} (h : tierB l = true) {i : Nat} (hi : i < l.length) : noteB (atN l i).f0 (atN l i).f1 (atN l i).f2 = true ∧ (i = 0 ∨ (atN l (i - 1)).f1 ≤ (atN l i).f0) := by
  unfold tierB at h
  simp only [Bool.and_eq_true, List.all_eq_true, List.mem_range] at h
  have := h.1 i hi
  unfold tierP at this
  simp only [Bool.and_eq_true, Bool.or_eq_true, decide_eq_true_eq] at this
  exact this
theorem note_in {f t : Int} {g : ByteArray} (h : noteB f t g = true) : 0 ≤ f ∧ f < t ∧ t ≤ 99999 := by
  unfold noteB frameB at h
  simp only [Bool.and_eq_true, decide_eq_true_eq] at h
  omega
theorem tier_KB {l : List NI} (h : tierB l = true) : KB l := by
  refine ⟨fun x hx => ?_, ?_⟩
  · obtain ⟨i, hi, rfl⟩ := List.mem_iff_getElem.1 hx
    have := note_in (tier_at h hi).1
    rw [atN_get hi] at this
    omega
  · unfold tierB at h
    simp only [Bool.and_eq_true, decide_eq_true_eq] at h
    omega
/-- A tier's notes begin one behind the other. -/
theorem tier_lt {l : List NI} (h : tierB l = true) : ∀ d i j : Nat, j = i + d + 1 → j < l.length → ky l i < ky l j := by
  intro d
  induction d with
  | zero =>
    intro i j hj hl
    have h1 := tier_at h hl
    have h2 := note_in (tier_at h (show i < l.length by omega)).1
    have e : j - 1 = i := by omega
    rw [e] at h1
    unfold ky
    have := h1.2
    omega
  | succ d ih =>
    intro i j hj hl
    have h0 := ih i (j - 1) (by omega) (by omega)
    have h1 := tier_at h hl
    have h2 := note_in (tier_at h (show j - 1 < l.length by omega)).1
    unfold ky at h0 ⊢
    have := h1.2
    omega
theorem tier_srt {l : List NI} (h : tierB l = true) : Srt l 0 l.length := fun p q _ h2 h3 => Int.le_of_lt (tier_lt h (q - p - 1) p q (by omega) h3)
theorem srt_pairwise {l : List NI} (h : Srt l 0 l.length) : l.Pairwise (fun a b => a.f0 ≤ b.f0) := by
  rw [List.pairwise_iff_getElem]
  intro i j hi hj hij
  have := h i j (Nat.zero_le _) hij hj
  unfold ky at this
  rwa [atN_get hi, atN_get hj] at this
theorem one_order {r p : List NI} (hp : r.Perm p) (hr : Srt r 0 r.length) (hs : Srt p 0 p.length) (h : tierB p = true) : r = p := by
  refine List.Perm.eq_of_pairwise (le := fun a b => a.f0 ≤ b.f0) (fun a b ha hb h1 h2 => ?_) (srt_pairwise hr) (srt_pairwise hs) hp
  obtain ⟨i, hi, rfl⟩ := List.mem_iff_getElem.1 (hp.mem_iff.1 ha)
  obtain ⟨j, hj, rfl⟩ := List.mem_iff_getElem.1 hb
  rcases Nat.lt_trichotomy i j with c | c | c
  · have := tier_lt h (j - i - 1) i j (by omega) hj
    unfold ky at this
    rw [atN_get hi, atN_get hj] at this
    omega
  · subst c; rfl
  · have := tier_lt h (i - j - 1) j i (by omega) hi
    unfold ky at this
    rw [atN_get hi, atN_get hj] at this
    omega
theorem both_or_none {r p : List NI} (hp : r.Perm p) (hr : Srt r 0 r.length) (hs : Srt p 0 p.length) : tierB r = tierB p := by
  cases h : tierB p with
  | true => rw [one_order hp hr hs h]; exact h
  | false =>
    cases h2 : tierB r with
    | false => rfl
    | true =>
      rw [one_order hp.symm hs hr h2] at h
      rw [h] at h2
      exact h2.symm
theorem sized_perm {r p : List NI} (h : Sized p) (hp : r.Perm p) : Sized r := ⟨by rw [hp.length_eq]; exact h.1, fun x hx => h.2 x (hp.mem_iff.1 hx)⟩
def tierOr (p : List NI) : List NI × Bool := if tierB p = true then (p, true) else ([], false)
/-- The program's sort, and whether it is a tier: p is any ordering by the begins. -/
theorem sortedTier_ (x p : List NI) (hk : KB x) (hz : Sized x) (hp : p.Perm x) (hS : Srt p 0 p.length) : Ev (fun k => impl_sortedTier.f k x) (tierOr p) := by
  obtain ⟨r, r1, r2, r3⟩ := stable x hk
  have hpr : r.Perm p := r2.trans hp.symm
  have ht := IsTier_ r (sized_perm hz r2)
  have hb := both_or_none hpr r3 hS
  unfold impl_sortedTier.f tierOr
  refine Ev.bind r1 (Ev.bind ht (Ev.ite (fun h => Ev.some ?_) (fun h => Ev.some ?_)))
  · rw [hb] at h
    rw [if_pos h, one_order hpr r3 hS h]
  · rw [hb] at h
    rw [if_neg h]
theorem tiIf_ (l : List NI) (hl : Sized l) : Ev (fun k => spec_tiIf.f k l) (tierOr l) := by
  unfold spec_tiIf.f tierOr
  exact Ev.bind (tiGood_ l hl) (Ev.ite (fun h => Ev.some (by rw [if_pos h])) (fun h => Ev.some (by rw [if_neg h])))
/-- The reference's place for a note. -/
def place (n : Int) : List NI → Nat
  | [] => 0
  | x :: l => if x.f0 < n then place n l + 1 else 0
def put (l : List NI) (n : NI) : List NI := l.take (place n.f0 l) ++ [n] ++ l.drop (place n.f0 l)
theorem place_le (n : Int) : ∀ l : List NI, place n l ≤ l.length
  | [] => Nat.le_refl _
  | x :: l => by
    have := place_le n l
    simp only [place, List.length_cons]
    split <;> omega
theorem place_low (n : Int) : ∀ (l : List NI) (i : Nat), i < place n l → ky l i < n
  | [], i, h => by simp [place] at h
  | x :: l, i, h => by
    simp only [place] at h
    by_cases c : x.f0 < n
    · rw [if_pos c] at h
      cases i with
      | zero => exact c
      | succ i => exact place_low n l i (by omega)
    · rw [if_neg c] at h; omega
theorem place_high (n : Int) : ∀ (l : List NI), place n l < l.length → n ≤ ky l (place n l)
  | [], h => by simp at h
  | x :: l, h => by
    simp only [place] at h ⊢
    by_cases c : x.f0 < n
    · rw [if_pos c] at h ⊢
      exact place_high n l (by simpa using h)
    · rw [if_neg c]
      show n ≤ x.f0
      omega
theorem put_perm (l : List NI) (n : NI) : (put l n).Perm (l ++ [n]) := by
  unfold put
  have h : (l.take (place n.f0 l) ++ [n] ++ l.drop (place n.f0 l)).Perm (l.take (place n.f0 l) ++ l.drop (place n.f0 l) ++ [n]) := by
    rw [List.append_assoc, List.append_assoc]
    exact List.Perm.append_left _ List.perm_append_comm
  rw [List.take_append_drop] at h
  exact h
theorem put_length (l : List NI) (n : NI) : (put l n).length = l.length + 1 := by rw [(put_perm l n).length_eq]; simp
theorem put_at (l : List NI) (n : NI) (i : Nat) (_h : i < l.length + 1) : atN (put l n) i = if i < place n.f0 l then atN l i else if i = place n.f0 l then n else atN l (i - 1) := by
  have hp := place_le n.f0 l
  unfold atN put
  rw [List.getD_eq_getElem?_getD]
  have ht : (l.take (place n.f0 l)).length = place n.f0 l := by rw [List.length_take]; omega
  by_cases c : i < place n.f0 l
  · rw [if_pos c, List.append_assoc, List.getElem?_append_left (by omega), List.getElem?_take, if_pos c, ← List.getD_eq_getElem?_getD]
  · rw [if_neg c, List.append_assoc, List.getElem?_append_right (by omega), ht]
    by_cases c2 : i = place n.f0 l
    · rw [if_pos c2, c2, Nat.sub_self]
      rfl
    · rw [if_neg c2, show i - place n.f0 l = (i - place n.f0 l - 1) + 1 by omega]
      show ((l.drop (place n.f0 l))[i - place n.f0 l - 1]?).getD _ = _
      rw [List.getElem?_drop, List.getD_eq_getElem?_getD, show place n.f0 l + (i - place n.f0 l - 1) = i - 1 by omega]
theorem put_srt (l : List NI) (n : NI) (hl : Srt l 0 l.length) : Srt (put l n) 0 (put l n).length := by
  intro p q _ h2 h3
  rw [put_length] at h3
  have hp := place_le n.f0 l
  unfold ky
  rw [put_at l n p (by omega), put_at l n q h3]
  have high : ∀ i, place n.f0 l ≤ i → i < l.length → n.f0 ≤ ky l i := by
    intro i h1 h2
    have h0 := place_high n.f0 l (by omega)
    by_cases e : i = place n.f0 l
    · rw [e]; exact h0
    · exact Int.le_trans h0 (hl _ _ (Nat.zero_le _) (by omega) h2)
  by_cases c : p < place n.f0 l
  · rw [if_pos c]
    have hlow := place_low n.f0 l p c
    by_cases c2 : q < place n.f0 l
    · rw [if_pos c2]; exact hl p q (Nat.zero_le _) h2 (by omega)
    · rw [if_neg c2]
      by_cases c3 : q = place n.f0 l
      · rw [if_pos c3]; exact Int.le_of_lt hlow
      · rw [if_neg c3]; exact Int.le_trans (Int.le_of_lt hlow) (high (q - 1) (by omega) (by omega))
  · rw [if_neg c, if_neg (show ¬ q < place n.f0 l by omega), if_neg (show ¬ q = place n.f0 l by omega)]
    by_cases c3 : p = place n.f0 l
    · rw [if_pos c3]; exact high (q - 1) (by omega) (by omega)
    · rw [if_neg c3]; exact hl (p - 1) (q - 1) (Nat.zero_le _) (by omega) (by omega)
theorem place_take (n : Int) : ∀ (l : List NI) (i : Nat), i ≤ l.length → (∀ j, j < i → ky l j < n) → (i < l.length → ¬ ky l i < n) → place n l = i
  | [], i, h, _, _ => by simp at h; simp [place, h]
  | x :: l, 0, _, _, h3 => by
    have : ¬ x.f0 < n := h3 (by simp)
    simp [place, this]
  | x :: l, i + 1, h1, h2, h3 => by
    have h0 : x.f0 < n := h2 0 (by omega)
    have ih := place_take n l i (by simpa using h1) (fun j hj => h2 (j + 1) (by omega)) (fun h => h3 (by simpa using h))
    simp [place, h0, ih]
theorem tiPut_ (l : List NI) (hl : l.length ≤ 1000000) (n : NI) : Ev (fun k => spec_tiPut.f k l n.f0 n.f1 n.f2) (put l n) := by
  have key : ∀ d i : Nat, i + d = l.length → (∀ j, j < i → ky l j < n.f0) → Ev (fun k => spec_tiPut.l0 k l (i : Int) n.f0 n.f1 n.f2) (put l n) := by
    intro d
    induction d with
    | zero =>
      intro i hi h
      have e := place_take n.f0 l i (by omega) h (fun h => by omega)
      have ht : (l.take ((i : Int)).toNat).length = i := by rw [List.length_take]; omega
      have hd : (l.drop ((i : Int)).toNat).length = l.length - i := by rw [List.length_drop]; omega
      refine Ev.step (fun _ => spec_tiPut.l0.eq_2 ..) (Ev.neg (by omega) (Ev.have rfl (Ev.pos (by omega) (Ev.pos (by omega) (Ev.have rfl (Ev.pos ?_ (Ev.have rfl (Ev.have rfl (Ev.pos ?_ (Ev.have rfl (Ev.have rfl (Ev.pos ?_ (Ev.some ?_)))))))))))))
      · simp only [List.length_nil]; omega
      · simp only [List.nil_append, List.length_cons, List.length_nil]; omega
      · simp only [List.nil_append, List.length_append, List.length_cons, List.length_nil]; omega
      · unfold put
        rw [e]
        rfl
    | succ d ih =>
      intro i hi h
      by_cases c : ky l i < n.f0
      · have h2 := ih (i + 1) (by omega) (fun j hj => by
          by_cases e : j = i
          · rw [e]; exact c
          · exact h j (by omega))
        rw [← wrap_succ (by omega)] at h2
        exact Ev.step (fun _ => spec_tiPut.l0.eq_2 ..) (Ev.pos (by omega) (Ev.pos (by omega) (Ev.pos c h2)))
      · have e := place_take n.f0 l i (by omega) h (fun _ => c)
        have ht : (l.take ((i : Int)).toNat).length = i := by rw [List.length_take]; omega
        have hd : (l.drop ((i : Int)).toNat).length = l.length - i := by rw [List.length_drop]; omega
        refine Ev.step (fun _ => spec_tiPut.l0.eq_2 ..) (Ev.pos (by omega) (Ev.pos (by omega) (Ev.neg c (Ev.have rfl (Ev.pos (by omega) (Ev.have rfl (Ev.pos ?_ (Ev.have rfl (Ev.have rfl (Ev.pos ?_ (Ev.have rfl (Ev.have rfl (Ev.pos ?_ (Ev.some ?_))))))))))))))
        · simp only [List.length_nil]; omega
        · simp only [List.nil_append, List.length_cons, List.length_nil]; omega
        · simp only [List.nil_append, List.length_append, List.length_cons, List.length_nil]; omega
        · unfold put
          rw [e]
          rfl
  exact key l.length 0 (by omega) (fun j hj => absurd hj (Nat.not_lt_zero _))
end Go.Proofs.Ytmllkdgdkagkkaa.MTier
