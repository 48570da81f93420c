/- The library's stable sort, as the print tells it: what comes back are the same elements, in the order of their first numbers. -/
import Derived.Test.YtmllkdgdkagkkaaG13
import Derived.Test.YtmllkdgdkagkkaaG50
import Derived.Test.YtmllkdgdkagkkaaG51
import Derived.Test.YtmllkdgdkagkkaaG57
import Derived.Test.YtmllkdgdkagkkaaMNote
namespace Go.Proofs.Ytmllkdgdkagkkaa.MSort
open Go.RowKit Go.Proofs.Ytmllkdgdkagkkaa.G Go.Proofs.YtmllkdgdkagkkaaW.PrintWords Go.Proofs.YtmllkdgdkagkkaaW.PrintLast Go.Proofs.Ytmllkdgdkagkkaa.MPure Go.Proofs.Ytmllkdgdkagkkaa.MNote

def ky (l : List NI) (i : Nat) : Int := (atN l i).f0
theorem atN_get {l : List NI} {i : Nat} (h : i < l.length) : atN l i = l[i] := by
  unfold atN
  rw [List.getD_eq_getElem?_getD, List.getElem?_eq_getElem h]
  rfl
/-- r is l with the elements from a up to b in another order. -/
def W (l r : List NI) (a b : Nat) : Prop := r.length = l.length ∧ r.Perm l ∧ (∀ i, i < a ∨ b ≤ i → atN r i = atN l i) ∧ (∀ i, a ≤ i → i < b → ∃ j, a ≤ j ∧ j < b ∧ atN r i = atN l j)
theorem W.refl (l : List NI) (a b : Nat) : W l l a b := ⟨rfl, List.Perm.refl _, fun _ _ => rfl, fun i h1 h2 => ⟨i, h1, h2, rfl⟩⟩
theorem W.trans {l r s : List NI} {a b : Nat} (h : W l r a b) (k : W r s a b) : W l s a b := by
  refine ⟨k.1.trans h.1, k.2.1.trans h.2.1, fun i hi => (k.2.2.1 i hi).trans (h.2.2.1 i hi), fun i h1 h2 => ?_⟩
  obtain ⟨j, j1, j2, e⟩ := k.2.2.2 i h1 h2
  obtain ⟨m, m1, m2, e2⟩ := h.2.2.2 j j1 j2
  exact ⟨m, m1, m2, e.trans e2⟩
theorem W.widen {l r : List NI} {a b a' b' : Nat} (h : W l r a b) (ha : a' ≤ a) (hb : b ≤ b') : W l r a' b' := by
  refine ⟨h.1, h.2.1, fun i hi => h.2.2.1 i (by omega), fun i h1 h2 => ?_⟩
  by_cases hc : a ≤ i ∧ i < b
  · obtain ⟨j, j1, j2, e⟩ := h.2.2.2 i hc.1 hc.2
    exact ⟨j, by omega, by omega, e⟩
  · exact ⟨i, h1, h2, h.2.2.1 i (by omega)⟩
def sw (l : List NI) (i j : Nat) : List NI := (l.set i (atN l j)).set j (atN l i)
theorem atN_set (l : List NI) (i j : Nat) (v : NI) (h : i < l.length) : atN (l.set i v) j = if j = i then v else atN l j := by
  unfold atN
  rw [List.getD_eq_getElem?_getD, List.getElem?_set]
  by_cases e : i = j
  · subst e
    rw [if_pos rfl, if_pos h, if_pos rfl]
    rfl
  · rw [if_neg e, if_neg (fun h => e h.symm), ← List.getD_eq_getElem?_getD]
theorem sw_at (l : List NI) {i j : Nat} (hi : i < l.length) (hj : j < l.length) (t : Nat) : atN (sw l i j) t = if t = j then atN l i else if t = i then atN l j else atN l t := by
  unfold sw
  rw [atN_set _ _ _ _ (by rw [List.length_set]; exact hj), atN_set _ _ _ _ hi]
theorem sw_length (l : List NI) (i j : Nat) : (sw l i j).length = l.length := by simp [sw]
theorem sw_perm (l : List NI) {i j : Nat} (hi : i < l.length) (hj : j < l.length) : (sw l i j).Perm l := by
  unfold sw
  rw [atN_get hi, atN_get hj]
  exact List.set_set_perm hi hj
theorem W.sw (l : List NI) {i j a b : Nat} (hi : i < l.length) (hj : j < l.length) (h1 : a ≤ i) (h2 : i < b) (h3 : a ≤ j) (h4 : j < b) : W l (sw l i j) a b := by
  refine ⟨sw_length l i j, sw_perm l hi hj, fun t ht => ?_, fun t ht1 ht2 => ?_⟩
  · rw [sw_at l hi hj, if_neg (by omega), if_neg (by omega)]
  · rw [sw_at l hi hj]
    by_cases e : t = j
    · rw [if_pos e]; exact ⟨i, h1, h2, rfl⟩
    · rw [if_neg e]
      by_cases e2 : t = i
      · rw [if_pos e2]; exact ⟨j, h3, h4, rfl⟩
      · rw [if_neg e2]; exact ⟨t, ht1, ht2, rfl⟩
/-- Sorted from a up to b. -/
def Srt (l : List NI) (a b : Nat) : Prop := ∀ p q, a ≤ p → p < q → q < b → ky l p ≤ ky l q
theorem Srt.sub {l : List NI} {a b a' b' : Nat} (h : Srt l a b) (ha : a ≤ a') (hb : b' ≤ b) : Srt l a' b' := fun p q h1 h2 h3 => h p q (by omega) h2 (by omega)
theorem Srt.same {l r : List NI} {a b : Nat} (h : Srt l a b) (e : ∀ i, a ≤ i → i < b → atN r i = atN l i) : Srt r a b := by
  intro p q h1 h2 h3
  unfold ky
  rw [e p h1 (by omega), e q (by omega) h3]
  exact h p q h1 h2 h3
def KB (l : List NI) : Prop := (∀ x, x ∈ l → 0 ≤ x.f0 ∧ x.f0 ≤ 99999) ∧ l.length ≤ 4398046511104
theorem KB.perm {l r : List NI} (h : KB l) (p : r.Perm l) : KB r := ⟨fun x hx => h.1 x (p.mem_iff.1 hx), by rw [p.length_eq]; exact h.2⟩
theorem KB.at {l : List NI} (h : KB l) {i : Nat} (hi : i < l.length) : 0 ≤ ky l i ∧ ky l i ≤ 99999 := h.1 _ (atN_mem hi)
theorem cmp_ (x y : NI) (hx : 0 ≤ x.f0 ∧ x.f0 ≤ 99999) (hy : 0 ≤ y.f0 ∧ y.f0 ≤ 99999) : impl_sortedTierLit1.f x.f0 x.f1 x.f2 y.f0 y.f1 y.f2 = some (x.f0 - y.f0) := by
  unfold impl_sortedTierLit1.f
  rw [wrap_in (by omega) (by omega)]

/-! ### insertion -/
def Inv (l : List NI) (a i j : Nat) : Prop := (∀ p q, a ≤ p → p < q → q ≤ i → p ≠ j → q ≠ j → ky l p ≤ ky l q) ∧ (∀ q, j < q → q ≤ i → ky l j ≤ ky l q)
theorem ins (a b : Nat) : ∀ d i : Nat, i + d = b → a ≤ i → ∀ x : List NI, b ≤ x.length → KB x → Srt x a i →
    ∃ r, Ev (fun k => slices_insertionSortCmpFunc_Note.l0 k x (a : Int) (b : Int) (i : Int)) r ∧ W x r a b ∧ Srt r a b := by
  intro d
  induction d with
  | zero =>
    intro i hi ha x hb hk hs
    obtain rfl : i = b := by omega
    exact ⟨x, Ev.step (fun _ => slices_insertionSortCmpFunc_Note.l0.eq_2 ..) (Ev.neg (by omega) (Ev.some rfl)), W.refl _ _ _, hs⟩
  | succ d ih =>
    intro i hi ha x hb hk hs
    have inner : ∀ e j : Nat, j = a + e → j ≤ i → ∀ y : List NI, y.length = x.length → KB y → Inv y a i j → ∃ r, Ev (fun k => slices_insertionSortCmpFunc_Note.l1 k y (a : Int) (b : Int) (i : Int) (j : Int)) r ∧ W y r a b ∧ Srt r a b := by
      intro e
      induction e with
      | zero =>
        intro j hj hji y hy hky hI
        obtain ⟨r, h1, h2, h3⟩ := ih (i + 1) (by omega) (by omega) y (by omega) hky (fun p q p1 p2 p3 => by
          by_cases e1 : p = j
          · subst e1; exact hI.2 q p2 (by omega)
          · exact hI.1 p q p1 p2 (by omega) e1 (by omega))
        have := hky.2
        rw [← wrap_succ (by omega)] at h1
        exact ⟨r, Ev.step (fun _ => slices_insertionSortCmpFunc_Note.l1.eq_2 ..) (Ev.neg (by omega) h1), h2, h3⟩
      | succ e ihe =>
        intro j hj hji y hy hky hI
        have hlen := hky.2
        have hj1 : j < y.length := by omega
        have hj2 : j - 1 < y.length := by omega
        have hw : wrap64 ((j : Int) - 1) = ((j - 1 : Nat) : Int) := wrap_pred (by omega) (by omega)
        have hc := cmp_ (atN y j) (atN y (j - 1)) (hky.at hj1) (hky.at hj2)
        by_cases hlt : ky y j < ky y (j - 1)
        · obtain ⟨r, h1, h2, h3⟩ := ihe (j - 1) (by omega) (by omega) (sw y j (j - 1)) (by rw [sw_length]; exact hy) (hky.perm (sw_perm y hj1 hj2)) (by
            have hv : ∀ t, ky (sw y j (j - 1)) t = if t = j - 1 then ky y j else if t = j then ky y (j - 1) else ky y t := by
              intro t
              unfold ky
              rw [sw_at y hj1 hj2]
              split
              · rfl
              · split <;> rfl
            refine ⟨fun p q p1 p2 p3 p4 p5 => ?_, fun q q1 q2 => ?_⟩
            · rw [hv p, hv q, if_neg p4, if_neg p5]
              by_cases e1 : p = j
              · rw [if_pos e1, if_neg (by omega)]
                exact hI.1 (j - 1) q (by omega) (by omega) p3 (by omega) (by omega)
              · rw [if_neg e1]
                by_cases e2 : q = j
                · rw [if_pos e2]
                  exact hI.1 p (j - 1) p1 (by omega) (by omega) e1 (by omega)
                · rw [if_neg e2]
                  exact hI.1 p q p1 p2 p3 e1 e2
            · rw [hv (j - 1), hv q, if_pos rfl, if_neg (by omega)]
              by_cases e2 : q = j
              · rw [if_pos e2]; omega
              · rw [if_neg e2]
                exact hI.2 q (by omega) q2)
          have hW := W.sw y (a := a) (b := b) hj1 hj2 (by omega) (by omega) (by omega) (by omega)
          refine ⟨r, Ev.step (fun _ => slices_insertionSortCmpFunc_Note.l1.eq_2 ..) (Ev.pos (by omega) (Ev.pos (by omega) (Ev.pos (by omega) ?_))), hW.trans h2, h3⟩
          rw [hw]
          exact Ev.pos (by omega) (Ev.pos (by omega) (Ev.have hc (Ev.pos (by unfold ky at hlt; omega) h1)))
        · obtain ⟨r, h1, h2, h3⟩ := ih (i + 1) (by omega) (by omega) y (by omega) hky (fun p q p1 p2 p3 => by
            by_cases e1 : p = j
            · subst e1; exact hI.2 q p2 (by omega)
            · by_cases e2 : q = j
              · subst e2
                by_cases e3 : p = q - 1
                · subst e3; omega
                · have := hI.1 p (q - 1) p1 (by omega) (by omega) e1 (by omega)
                  omega
              · exact hI.1 p q p1 p2 (by omega) e1 e2)
          rw [← wrap_succ (by omega)] at h1
          refine ⟨r, Ev.step (fun _ => slices_insertionSortCmpFunc_Note.l1.eq_2 ..) (Ev.pos (by omega) (Ev.pos (by omega) (Ev.pos (by omega) ?_))), h2, h3⟩
          rw [hw]
          exact Ev.pos (by omega) (Ev.pos (by omega) (Ev.have hc (Ev.neg (by unfold ky at hlt; omega) h1)))
    obtain ⟨r, h1, h2, h3⟩ := inner (i - a) i (by omega) (Nat.le_refl _) x rfl hk ⟨fun p q p1 p2 p3 p4 p5 => hs p q p1 p2 (by omega), fun q q1 q2 => by omega⟩
    exact ⟨r, Ev.step (fun _ => slices_insertionSortCmpFunc_Note.l0.eq_2 ..) (Ev.pos (by omega) h1), h2, h3⟩
theorem insertion (x : List NI) (a b : Nat) (hab : a ≤ b) (hb : b ≤ x.length) (hk : KB x) : ∃ r, Ev (fun k => slices_insertionSortCmpFunc_Note.f k x (a : Int) (b : Int)) r ∧ W x r a b ∧ Srt r a b := by
  unfold slices_insertionSortCmpFunc_Note.f
  have := hk.2
  rw [wrap_succ (by omega)]
  rcases Nat.eq_or_lt_of_le hab with e | e
  · refine ⟨x, Ev.step (fun _ => slices_insertionSortCmpFunc_Note.l0.eq_2 ..) (Ev.neg (by omega) (Ev.some rfl)), W.refl _ _ _, fun p q h1 h2 h3 => by omega⟩
  · exact ins a b (b - (a + 1)) (a + 1) (by omega) (by omega) x hb hk (fun p q h1 h2 h3 => by omega)

/-! ### rows of swaps, turns -/
theorem wrap_add {a b : Nat} (h : a + b ≤ 4611686018427387904) : wrap64 ((a : Int) + (b : Int)) = ((a + b : Nat) : Int) := by unfold wrap64; omega
theorem wrap_sub {a b : Nat} (h : b ≤ a) (h' : a ≤ 4611686018427387904) : wrap64 ((a : Int) - (b : Int)) = ((a - b : Nat) : Int) := by unfold wrap64; omega
theorem half {a b : Nat} (h : a + b ≤ 4611686018427387904) : wrap64 ((IntKind.u64.wrap (wrap64 ((a : Int) + (b : Int)))) / 2) = (((a + b) / 2 : Nat) : Int) := by
  rw [wrap_add h]
  have : IntKind.u64.wrap ((a + b : Nat) : Int) = ((a + b : Nat) : Int) := by
    show ((a + b : Nat) : Int) % 2 ^ 64 = _
    omega
  rw [this]
  unfold wrap64
  omega
theorem swapRange (x : List NI) (a b n : Nat) (hab : a + n ≤ b) (hb : b + n ≤ x.length) (hl : x.length ≤ 4398046511104) :
    ∃ r, Ev (fun k => slices_swapRangeCmpFunc_Note.f k x (a : Int) (b : Int) (n : Int)) r ∧ r.length = x.length ∧ r.Perm x ∧ (∀ t, t < n → atN r (a + t) = atN x (b + t) ∧ atN r (b + t) = atN x (a + t)) ∧ (∀ t, t < a ∨ a + n ≤ t → t < b ∨ b + n ≤ t → atN r t = atN x t) := by
  have key : ∀ d i : Nat, i + d = n → ∀ y : List NI, y.length = x.length → y.Perm x → (∀ t, t < i → atN y (a + t) = atN x (b + t) ∧ atN y (b + t) = atN x (a + t)) → (∀ t, t < a ∨ a + i ≤ t → t < b ∨ b + i ≤ t → atN y t = atN x t) →
      ∃ r, Ev (fun k => slices_swapRangeCmpFunc_Note.l0 k y (a : Int) (b : Int) (n : Int) (i : Int)) r ∧ r.length = x.length ∧ r.Perm x ∧ (∀ t, t < n → atN r (a + t) = atN x (b + t) ∧ atN r (b + t) = atN x (a + t)) ∧ (∀ t, t < a ∨ a + n ≤ t → t < b ∨ b + n ≤ t → atN r t = atN x t) := by
    intro d
    induction d with
    | zero =>
      intro i hi y hy hp h1 h2
      obtain rfl : i = n := by omega
      exact ⟨y, Ev.step (fun _ => slices_swapRangeCmpFunc_Note.l0.eq_2 ..) (Ev.neg (by omega) (Ev.some rfl)), hy, hp, h1, h2⟩
    | succ d ih =>
      intro i hi y hy hp h1 h2
      have ha' : a + i < y.length := by omega
      have hb' : b + i < y.length := by omega
      obtain ⟨r, g1, g2, g3, g4, g5⟩ := ih (i + 1) (by omega) (sw y (a + i) (b + i)) (by rw [sw_length]; exact hy) ((sw_perm y ha' hb').trans hp) (fun t ht => by
        rw [sw_at y ha' hb', sw_at y ha' hb', if_neg (by omega)]
        by_cases e : t = i
        · subst e
          rw [if_pos rfl, if_pos rfl, h2 (b + t) (by omega) (by omega), h2 (a + t) (by omega) (by omega)]
          exact ⟨rfl, rfl⟩
        · rw [if_neg (by omega), if_neg (by omega), if_neg (by omega)]
          exact h1 t (by omega)) (fun t t1 t2 => by
        rw [sw_at y ha' hb', if_neg (by omega), if_neg (by omega)]
        exact h2 t (by omega) (by omega))
      rw [← wrap_succ (by omega)] at g1
      refine ⟨r, Ev.step (fun _ => slices_swapRangeCmpFunc_Note.l0.eq_2 ..) (Ev.pos (by omega) ?_), g2, g3, g4, g5⟩
      rw [wrap_add (a := b) (b := i) (by omega), wrap_add (a := a) (b := i) (by omega)]
      exact Ev.pos (by omega) (Ev.pos (by omega) (Ev.pos (by omega) (Ev.pos (by omega) g1)))
  exact key n 0 (by omega) x rfl (List.Perm.refl _) (fun t ht => absurd ht (Nat.not_lt_zero _)) (fun t _ _ => rfl)
theorem rot : ∀ N i j : Nat, i + j ≤ N → 0 < i → 0 < j → ∀ (x : List NI) (m : Nat), i ≤ m → m + j ≤ x.length → x.length ≤ 4398046511104 →
    ∃ r, Ev (fun k => slices_rotateCmpFunc_Note.l0 k x (m : Int) (i : Int) (j : Int)) r ∧ r.length = x.length ∧ r.Perm x ∧ (∀ t, t < j → atN r (m - i + t) = atN x (m + t)) ∧ (∀ t, t < i → atN r (m - i + j + t) = atN x (m - i + t)) ∧ (∀ t, t < m - i ∨ m + j ≤ t → atN r t = atN x t) := by
  intro N
  induction N with
  | zero => intro i j h hi; omega
  | succ N ih =>
    intro i j hN hi hj x m him hmj hl
    have e0 : wrap64 ((m : Int) - (i : Int)) = ((m - i : Nat) : Int) := wrap_sub him (by omega)
    rcases Nat.lt_trichotomy i j with h | h | h
    · obtain ⟨y, y1, y2, y3, y4, y5⟩ := swapRange x (m - i) (m + j - i) i (by omega) (by omega) hl
      obtain ⟨r, r1, r2, r3, r4, r5, r6⟩ := ih i (j - i) (by omega) hi (by omega) y m him (by omega) (by omega)
      refine ⟨r, Ev.step (fun _ => slices_rotateCmpFunc_Note.l0.eq_2 ..) (Ev.neg (by omega) (Ev.neg (by omega) ?_)), r2.trans y2, r3.trans y3, fun t ht => ?_, fun t ht => ?_, fun t ht => ?_⟩
      · rw [e0, wrap_add (a := m) (b := j) (by omega), wrap_sub (a := m + j) (b := i) (by omega) (by omega), wrap_sub (a := j) (b := i) (by omega) (by omega)]
        exact Ev.bind y1 r1
      · by_cases c : t < j - i
        · rw [r4 t c, y5 (m + t) (by omega) (by omega)]
        · have h1 := r6 (m - i + t)
          have h2 := r5 (t - (j - i)) (by omega)
          have h3 := (y4 (t - (j - i)) (by omega)).1
          rw [show m - i + (j - i) + (t - (j - i)) = m - i + t by omega] at h2
          rw [h2, h3]
          congr 1
          omega
      · have h1 := r6 (m - i + j + t) (by omega)
        have h2 := (y4 t ht).2
        rw [h1, show m - i + j + t = m + j - i + t by omega, h2]
      · rw [r6 t (by omega), y5 t (by omega) (by omega)]
    · subst h
      obtain ⟨y, y1, y2, y3, y4, y5⟩ := swapRange x (m - i) m i (by omega) (by omega) hl
      refine ⟨y, Ev.step (fun _ => slices_rotateCmpFunc_Note.l0.eq_2 ..) (Ev.pos rfl ?_), y2, y3, fun t ht => (y4 t ht).1, fun t ht => ?_, fun t ht => y5 t (by omega) (by omega)⟩
      · rw [e0]
        exact Ev.bind y1 (Ev.some rfl)
      · rw [show m - i + i + t = m + t by omega]
        exact (y4 t ht).2
    · obtain ⟨y, y1, y2, y3, y4, y5⟩ := swapRange x (m - i) m j (by omega) (by omega) hl
      obtain ⟨r, r1, r2, r3, r4, r5, r6⟩ := ih (i - j) j (by omega) (by omega) hj y m (by omega) (by omega) (by omega)
      refine ⟨r, Ev.step (fun _ => slices_rotateCmpFunc_Note.l0.eq_2 ..) (Ev.neg (by omega) (Ev.pos (by omega) ?_)), r2.trans y2, r3.trans y3, fun t ht => ?_, fun t ht => ?_, fun t ht => ?_⟩
      · rw [e0, wrap_sub (a := i) (b := j) (by omega) (by omega)]
        exact Ev.bind y1 r1
      · rw [r6 (m - i + t) (by omega), (y4 t ht).1]
      · by_cases c : t < j
        · have h1 := r4 t c
          rw [show m - (i - j) + t = m - i + j + t by omega] at h1
          rw [h1, (y4 t c).2]
        · have h1 := r5 (t - j) (by omega)
          rw [show m - (i - j) + j + (t - j) = m - i + j + t by omega] at h1
          rw [h1, y5 (m - (i - j) + (t - j)) (by omega) (by omega)]
          congr 1
          omega
      · rw [r6 t (by omega), y5 t (by omega) (by omega)]
theorem rotate (x : List NI) (a m b : Nat) (h1 : a < m) (h2 : m < b) (hb : b ≤ x.length) (hl : x.length ≤ 4398046511104) :
    ∃ r, Ev (fun k => slices_rotateCmpFunc_Note.f k x (a : Int) (m : Int) (b : Int)) r ∧ r.length = x.length ∧ r.Perm x ∧ (∀ t, t < b - m → atN r (a + t) = atN x (m + t)) ∧ (∀ t, t < m - a → atN r (a + (b - m) + t) = atN x (a + t)) ∧ (∀ t, t < a ∨ b ≤ t → atN r t = atN x t) := by
  obtain ⟨r, r1, r2, r3, r4, r5, r6⟩ := rot (m - a + (b - m)) (m - a) (b - m) (Nat.le_refl _) (by omega) (by omega) x m (by omega) (by omega) hl
  unfold slices_rotateCmpFunc_Note.f
  rw [wrap_sub (by omega) (by omega), wrap_sub (by omega) (by omega)]
  have e : m - (m - a) = a := by omega
  rw [e] at r4 r5 r6
  exact ⟨r, r1, r2, r3, r4, r5, fun t ht => r6 t (by omega)⟩

/-! ### one element brought to its place -/
/-- What the walk up comes to. -/
theorem up (x : List NI) (a s b : Nat) (h1 : a < s) (hs : s ≤ b) (hb : b ≤ x.length) (hl : x.length ≤ 4398046511104) :
    ∃ r, Ev (fun k => slices_symMergeCmpFunc_Note.l1 k x (s : Int) (a : Int)) r ∧ W x r a b ∧ (∀ t, a ≤ t → t < s - 1 → atN r t = atN x (t + 1)) ∧ atN r (s - 1) = atN x a ∧ (∀ t, t < a ∨ s ≤ t → atN r t = atN x t) := by
  have key : ∀ d k : Nat, k + d = s - 1 → a ≤ k → ∀ y : List NI, W x y a b → (∀ t, a ≤ t → t < k → atN y t = atN x (t + 1)) → atN y k = atN x a → (∀ t, t < a ∨ k < t → atN y t = atN x t) →
      ∃ r, Ev (fun n => slices_symMergeCmpFunc_Note.l1 n y (s : Int) (k : Int)) r ∧ W x r a b ∧ (∀ t, a ≤ t → t < s - 1 → atN r t = atN x (t + 1)) ∧ atN r (s - 1) = atN x a ∧ (∀ t, t < a ∨ s ≤ t → atN r t = atN x t) := by
    intro d
    induction d with
    | zero =>
      intro k hk hak y hW g1 g2 g3
      obtain rfl : k = s - 1 := by omega
      refine ⟨y, Ev.step (fun _ => slices_symMergeCmpFunc_Note.l1.eq_2 ..) (Ev.neg ?_ (Ev.some rfl)), hW, g1, g2, fun t ht => g3 t (by omega)⟩
      rw [wrap_pred (by omega) (by omega)]
      omega
    | succ d ih =>
      intro k hk hak y hW g1 g2 g3
      have hy := hW.1
      have k1 : k < y.length := by omega
      have k2 : k + 1 < y.length := by omega
      obtain ⟨r, r1, r2⟩ := ih (k + 1) (by omega) (by omega) (sw y k (k + 1)) (hW.trans (W.sw y k1 k2 hak (by omega) (by omega) (by omega))) (fun t t1 t2 => by
        rw [sw_at y k1 k2, if_neg (by omega)]
        by_cases e : t = k
        · subst e; rw [if_pos rfl]; exact g3 (t + 1) (by omega)
        · rw [if_neg e]; exact g1 t t1 (by omega)) (by rw [sw_at y k1 k2, if_pos rfl]; exact g2) (fun t ht => by
        rw [sw_at y k1 k2, if_neg (by omega), if_neg (by omega)]; exact g3 t (by omega))
      rw [← wrap_succ (by omega)] at r1
      refine ⟨r, Ev.step (fun _ => slices_symMergeCmpFunc_Note.l1.eq_2 ..) (Ev.pos (by rw [wrap_pred (by omega) (by omega)]; omega) ?_), r2⟩
      rw [wrap_succ (i := k) (by omega)]
      rw [wrap_succ (i := k) (by omega)] at r1
      exact Ev.pos (by omega) (Ev.pos (by omega) (Ev.pos (by omega) (Ev.pos (by omega) r1)))
  exact key (s - 1 - a) a (by omega) (Nat.le_refl _) x (W.refl _ _ _) (fun t t1 t2 => by omega) rfl (fun t _ => rfl)
/-- What the walk down comes to. -/
theorem down (x : List NI) (a s m b : Nat) (ha : a ≤ s) (h1 : s ≤ m) (hs : m < b) (hb : b ≤ x.length) (hl : x.length ≤ 4398046511104) :
    ∃ r, Ev (fun k => slices_symMergeCmpFunc_Note.l3 k x (s : Int) (m : Int)) r ∧ W x r a b ∧ (∀ t, s < t → t ≤ m → atN r t = atN x (t - 1)) ∧ atN r s = atN x m ∧ (∀ t, t < s ∨ m < t → atN r t = atN x t) := by
  have key : ∀ d k : Nat, k = s + d → k ≤ m → ∀ y : List NI, W x y a b → (∀ t, k < t → t ≤ m → atN y t = atN x (t - 1)) → atN y k = atN x m → (∀ t, t < k ∨ m < t → atN y t = atN x t) →
      ∃ r, Ev (fun n => slices_symMergeCmpFunc_Note.l3 n y (s : Int) (k : Int)) r ∧ W x r a b ∧ (∀ t, s < t → t ≤ m → atN r t = atN x (t - 1)) ∧ atN r s = atN x m ∧ (∀ t, t < s ∨ m < t → atN r t = atN x t) := by
    intro d
    induction d with
    | zero =>
      intro k hk hak y hW g1 g2 g3
      obtain rfl : k = s := by omega
      exact ⟨y, Ev.step (fun _ => slices_symMergeCmpFunc_Note.l3.eq_2 ..) (Ev.neg (by omega) (Ev.some rfl)), hW, g1, g2, g3⟩
    | succ d ih =>
      intro k hk hak y hW g1 g2 g3
      have hy := hW.1
      have k1 : k < y.length := by omega
      have k2 : k - 1 < y.length := by omega
      obtain ⟨r, r1, r2⟩ := ih (k - 1) (by omega) (by omega) (sw y k (k - 1)) (hW.trans (W.sw y k1 k2 (by omega) (by omega) (by omega) (by omega))) (fun t t1 t2 => by
        rw [sw_at y k1 k2, if_neg (by omega)]
        by_cases e : t = k
        · subst e; rw [if_pos rfl]; exact g3 (t - 1) (by omega)
        · rw [if_neg e]; exact g1 t (by omega) t2) (by rw [sw_at y k1 k2, if_pos rfl]; exact g2) (fun t ht => by
        rw [sw_at y k1 k2, if_neg (by omega), if_neg (by omega)]; exact g3 t (by omega))
      refine ⟨r, Ev.step (fun _ => slices_symMergeCmpFunc_Note.l3.eq_2 ..) (Ev.pos (by omega) ?_), r2⟩
      rw [wrap_pred (i := k) (by omega) (by omega)]
      exact Ev.pos (by omega) (Ev.pos (by omega) (Ev.pos (by omega) (Ev.pos (by omega) r1)))
  exact key (m - s) m (by omega) (Nat.le_refl _) x (W.refl _ _ _) (fun t t1 t2 => by omega) rfl (fun t _ => rfl)
theorem first (x : List NI) (a b : Nat) (hab : a + 1 < b) (hb : b ≤ x.length) (hk : KB x) (hS : Srt x (a + 1) b) :
    ∃ r, Ev (fun k => slices_symMergeCmpFunc_Note.l0 k x (a : Int) ((a + 1 : Nat) : Int) (b : Int)) r ∧ W x r a b ∧ Srt r a b := by
  have hl := hk.2
  have key : ∀ N i j : Nat, j - i ≤ N → a + 1 ≤ i → i ≤ j → j ≤ b → (∀ q, a + 1 ≤ q → q < i → ky x q < ky x a) → (∀ q, j ≤ q → q < b → ky x a ≤ ky x q) →
      ∃ r, Ev (fun k => slices_symMergeCmpFunc_Note.l0 k x (a : Int) (i : Int) (j : Int)) r ∧ W x r a b ∧ Srt r a b := by
    intro N
    induction N with
    | zero =>
      intro i j h1 h2 h3 h4 g1 g2
      obtain rfl : i = j := by omega
      obtain ⟨r, r1, r2, r3, r4, r5⟩ := up x a i b (by omega) h4 hb hl
      refine ⟨r, Ev.step (fun _ => slices_symMergeCmpFunc_Note.l0.eq_2 ..) (Ev.neg (by omega) r1), r2, fun p q p1 p2 p3 => ?_⟩
      have hv : ∀ t, a ≤ t → ky r t = if t < i - 1 then ky x (t + 1) else if t = i - 1 then ky x a else ky x t := by
        intro t ht
        unfold ky
        split
        · rw [r3 t ht (by assumption)]
        · split
          · next e => subst e; rw [r4]
          · rw [r5 t (by omega)]
      rw [hv p p1, hv q (by omega)]
      by_cases e1 : p < i - 1
      · rw [if_pos e1]
        by_cases e2 : q < i - 1
        · rw [if_pos e2]; exact hS (p + 1) (q + 1) (by omega) (by omega) (by omega)
        · rw [if_neg e2]
          by_cases e3 : q = i - 1
          · rw [if_pos e3]; have := g1 (p + 1) (by omega) (by omega); omega
          · rw [if_neg e3]; exact hS (p + 1) q (by omega) (by omega) p3
      · rw [if_neg e1, if_neg (show ¬ q < i - 1 by omega), if_neg (show ¬ q = i - 1 by omega)]
        by_cases e3 : p = i - 1
        · rw [if_pos e3]; exact g2 q (by omega) p3
        · rw [if_neg e3]; exact hS p q (by omega) p2 p3
    | succ N ih =>
      intro i j h1 h2 h3 h4 g1 g2
      by_cases hij : i < j
      · have c1 : (i + j) / 2 < x.length := by omega
        have hc := cmp_ (atN x ((i + j) / 2)) (atN x a) (hk.at c1) (hk.at (by omega))
        by_cases hlt : ky x ((i + j) / 2) < ky x a
        · obtain ⟨r, r1, r2⟩ := ih ((i + j) / 2 + 1) j (by omega) (by omega) (by omega) h4 (fun q q1 q2 => by
            by_cases e : q = (i + j) / 2
            · subst e; exact hlt
            · have := hS q ((i + j) / 2) q1 (by omega) (by omega); omega) g2
          refine ⟨r, Ev.step (fun _ => slices_symMergeCmpFunc_Note.l0.eq_2 ..) (Ev.pos (by omega) ?_), r2⟩
          rw [half (by omega)]
          rw [← wrap_succ (by omega)] at r1
          exact Ev.pos (by omega) (Ev.pos (by omega) (Ev.pos (by omega) (Ev.pos (by omega) (Ev.have hc (Ev.pos (by unfold ky at hlt; omega) r1)))))
        · obtain ⟨r, r1, r2⟩ := ih i ((i + j) / 2) (by omega) h2 (by omega) (by omega) g1 (fun q q1 q2 => by
            by_cases e : q = (i + j) / 2
            · subst e; omega
            · have := hS ((i + j) / 2) q (by omega) (by omega) q2; omega)
          refine ⟨r, Ev.step (fun _ => slices_symMergeCmpFunc_Note.l0.eq_2 ..) (Ev.pos (by omega) ?_), r2⟩
          rw [half (by omega)]
          exact Ev.pos (by omega) (Ev.pos (by omega) (Ev.pos (by omega) (Ev.pos (by omega) (Ev.have hc (Ev.neg (by unfold ky at hlt; omega) r1)))))
      · exact (by
          obtain rfl : i = j := by omega
          exact ih i i (by omega) h2 (Nat.le_refl _) h4 g1 g2)
  exact key (b - (a + 1)) (a + 1) b (by omega) (Nat.le_refl _) (by omega) (Nat.le_refl _) (fun q q1 q2 => by omega) (fun q q1 q2 => by omega)
theorem last (x : List NI) (a m : Nat) (ham : a < m) (hb : m + 1 ≤ x.length) (hk : KB x) (hS : Srt x a m) :
    ∃ r, Ev (fun k => slices_symMergeCmpFunc_Note.l2 k x (m : Int) (a : Int) (m : Int)) r ∧ W x r a (m + 1) ∧ Srt r a (m + 1) := by
  have hl := hk.2
  have key : ∀ N i j : Nat, j - i ≤ N → a ≤ i → i ≤ j → j ≤ m → (∀ q, a ≤ q → q < i → ky x q ≤ ky x m) → (∀ q, j ≤ q → q < m → ky x m < ky x q) →
      ∃ r, Ev (fun k => slices_symMergeCmpFunc_Note.l2 k x (m : Int) (i : Int) (j : Int)) r ∧ W x r a (m + 1) ∧ Srt r a (m + 1) := by
    intro N
    induction N with
    | zero =>
      intro i j h1 h2 h3 h4 g1 g2
      obtain rfl : i = j := by omega
      obtain ⟨r, r1, r2, r3, r4, r5⟩ := down x a i m (m + 1) h2 h4 (by omega) hb hl
      refine ⟨r, Ev.step (fun _ => slices_symMergeCmpFunc_Note.l2.eq_2 ..) (Ev.neg (by omega) r1), r2, fun p q p1 p2 p3 => ?_⟩
      have hv : ∀ t, t ≤ m → ky r t = if t < i then ky x t else if t = i then ky x m else ky x (t - 1) := by
        intro t ht
        unfold ky
        split
        · rw [r5 t (by omega)]
        · split
          · next e => subst e; rw [r4]
          · rw [r3 t (by omega) ht]
      rw [hv p (by omega), hv q (by omega)]
      by_cases e1 : p < i
      · rw [if_pos e1]
        by_cases e2 : q < i
        · rw [if_pos e2]; exact hS p q p1 p2 (by omega)
        · rw [if_neg e2]
          by_cases e3 : q = i
          · rw [if_pos e3]; exact g1 p p1 e1
          · rw [if_neg e3]
            by_cases e4 : p = q - 1
            · omega
            · exact hS p (q - 1) p1 (by omega) (by omega)
      · rw [if_neg e1, if_neg (show ¬ q < i by omega), if_neg (show ¬ q = i by omega)]
        by_cases e3 : p = i
        · rw [if_pos e3]; have := g2 (q - 1) (by omega) (by omega); omega
        · rw [if_neg e3]; exact hS (p - 1) (q - 1) (by omega) (by omega) (by omega)
    | succ N ih =>
      intro i j h1 h2 h3 h4 g1 g2
      by_cases hij : i < j
      · have c1 : (i + j) / 2 < x.length := by omega
        have hc := cmp_ (atN x m) (atN x ((i + j) / 2)) (hk.at (by omega)) (hk.at c1)
        by_cases hlt : ky x m < ky x ((i + j) / 2)
        · obtain ⟨r, r1, r2⟩ := ih i ((i + j) / 2) (by omega) h2 (by omega) (by omega) g1 (fun q q1 q2 => by
            by_cases e : q = (i + j) / 2
            · subst e; exact hlt
            · have := hS ((i + j) / 2) q (by omega) (by omega) q2; omega)
          refine ⟨r, Ev.step (fun _ => slices_symMergeCmpFunc_Note.l2.eq_2 ..) (Ev.pos (by omega) (Ev.pos (by omega) (Ev.pos (by omega) ?_))), r2⟩
          rw [half (by omega)]
          exact Ev.pos (by omega) (Ev.pos (by omega) (Ev.have hc (Ev.pos (by unfold ky at hlt; omega) r1)))
        · obtain ⟨r, r1, r2⟩ := ih ((i + j) / 2 + 1) j (by omega) (by omega) (by omega) h4 (fun q q1 q2 => by
            by_cases e : q = (i + j) / 2
            · subst e; omega
            · have := hS q ((i + j) / 2) q1 (by omega) (by omega); omega) g2
          refine ⟨r, Ev.step (fun _ => slices_symMergeCmpFunc_Note.l2.eq_2 ..) (Ev.pos (by omega) (Ev.pos (by omega) (Ev.pos (by omega) ?_))), r2⟩
          rw [half (by omega)]
          rw [← wrap_succ (by omega)] at r1
          exact Ev.pos (by omega) (Ev.pos (by omega) (Ev.have hc (Ev.neg (by unfold ky at hlt; omega) r1)))
      · obtain rfl : i = j := by omega
        exact ih i i (by omega) h2 (Nat.le_refl _) h4 g1 g2
  exact key (m - a) a m (by omega) (Nat.le_refl _) (by omega) (Nat.le_refl _) (fun q q1 q2 => by omega) (fun q q1 q2 => by omega)

end Go.Proofs.Ytmllkdgdkagkkaa.MSort
