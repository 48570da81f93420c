/- Patterns of glosses: the program's table of ends and the reference's recursion come to one answer. -/
import Derived.Test.YthmegimmnhkkhaaG8
import Derived.Test.YthmegimmnhkkhaaG24
import Derived.Test.YthmegimmnhkkhaaMWord
import Derived.Laws.Closers25b
import Derived.Lib.IndexBytes
namespace Go.Proofs.Ythmegimmnhkkhaa.MFits
open Go.RowKit Go.Proofs.Ythmegimmnhkkhaa.G Go.Proofs.YthmegimmnhkkhaaW.PrintWords Go.Proofs.YthmegimmnhkkhaaW.PrintLast Go.Proofs.Ythmegimmnhkkhaa.MPure Go.Proofs.Ythmegimmnhkkhaa.MWord

/-! ### the reference's recursion, over lists -/
def like : List UInt8 → List UInt8 → Bool
  | [], t => t.isEmpty
  | c :: p, [] => if c.toNat = 42 then like p [] else false
  | c :: p, d :: t => if c.toNat = 42 then (like p (d :: t) || like (c :: p) t) else ((decide (c.toNat = 63) || decide (c.toNat = d.toNat)) && like p t)
termination_by p t => p.length + t.length
theorem like_nil (t : List UInt8) : like [] t = t.isEmpty := by rw [like]
theorem like_star_nil (c : UInt8) (p : List UInt8) (h : c.toNat = 42) : like (c :: p) [] = like p [] := by rw [like, if_pos h]
theorem like_star_cons (c d : UInt8) (p t : List UInt8) (h : c.toNat = 42) : like (c :: p) (d :: t) = (like p (d :: t) || like (c :: p) t) := by rw [like, if_pos h]
theorem like_else_nil (c : UInt8) (p : List UInt8) (h : c.toNat ≠ 42) : like (c :: p) [] = false := by rw [like, if_neg h]
theorem like_else_cons (c d : UInt8) (p t : List UInt8) (h : c.toNat ≠ 42) : like (c :: p) (d :: t) = ((decide (c.toNat = 63) || decide (c.toNat = d.toNat)) && like p t) := by rw [like, if_neg h]

theorem bt_get (s : ByteArray) (i : Nat) (h : i < s.data.toList.length) : bt s (i : Int) = ((s.data.toList[i]'h).toNat : Int) := by
  have h2 : i < s.size := by simpa using h
  unfold bt
  have e : ((i : Int)).toNat = i := rfl
  rw [e, dif_pos h2]
  rfl
theorem toList_nil (s : ByteArray) : s.toList = [] ↔ s.data.toList = [] := by
  rw [toList_nil_iff_emptyBytes]
  constructor
  · rintro rfl
    rfl
  · intro h
    apply ByteArray.ext
    apply Array.toList_inj.1
    rw [h]
    rfl
theorem toList_isNil (s : ByteArray) : (s.toList == ([] : List UInt8)) = s.data.toList.isEmpty := by
  rw [Bool.eq_iff_iff, beq_iff_eq, toList_nil, List.isEmpty_iff]
theorem tail_data (s : ByteArray) : (s.extract 1 s.size).data.toList = s.data.toList.drop 1 := Lib.extract_to_end s 1

theorem quLike_ : ∀ n (a b : ByteArray), a.data.toList.length + b.data.toList.length ≤ n → a.size ≤ 140737488351232 → b.size ≤ 140737488351232 → Ev (fun k => spec_quLike.f k a b) (like a.data.toList b.data.toList) := by
  intro n
  induction n with
  | zero =>
    intro a b hn _ _
    have ha : a.data.toList = [] := List.eq_nil_of_length_eq_zero (by omega)
    refine Ev.step (fun _ => spec_quLike.f.eq_2 ..) (Ev.pos ((toList_nil a).2 ha) (Ev.some ?_))
    rw [ha, like_nil, toList_isNil]
  | succ n ih =>
    intro a b hn hsa hsb
    refine Ev.step (fun _ => spec_quLike.f.eq_2 ..) ?_
    cases ha : a.data.toList with
    | nil =>
      refine Ev.pos ((toList_nil a).2 ha) (Ev.some ?_)
      rw [like_nil, toList_isNil]
    | cons c p =>
      have hal : a.size = p.length + 1 := by
        have : a.data.toList.length = p.length + 1 := by rw [ha]; rfl
        simpa using this
      have hc : bt a 0 = (c.toNat : Int) := by
        have := bt_get a 0 (by rw [ha]; simp)
        simpa [ha] using this
      have htl : (a.extract 1 a.size).data.toList = p := by rw [tail_data, ha]; rfl
      have htls : (a.extract 1 a.size).size ≤ 140737488351232 := by
        have : (a.extract 1 a.size).data.toList.length = p.length := by rw [htl]
        have h2 : (a.extract 1 a.size).size = p.length := by simpa using this
        omega
      refine Ev.neg (by rw [toList_nil, ha]; simp) (Ev.pos (by omega) ?_)
      rw [hc]
      by_cases h42 : c.toNat = 42
      · refine Ev.pos (by omega) (Ev.pos (by omega) ?_)
        have h1 := ih (a.extract 1 a.size) b (by rw [htl]; rw [ha] at hn; simp at hn ⊢; omega) htls hsb
        rw [htl] at h1
        refine Ev.bind h1 (Ev.ite (fun ht => Ev.some ?_) (fun ht => ?_))
        · cases hb : b.data.toList with
          | nil => rw [like_star_nil _ _ h42, ← hb, ht]
          | cons d t => rw [like_star_cons _ _ _ _ h42, ← hb, ht]; rfl
        · refine Ev.ite (fun hb0 => Ev.some ?_) (fun hb0 => ?_)
          · have hb := (toList_nil b).1 hb0
            rw [hb] at ht ⊢
            rw [like_star_nil _ _ h42, Bool.eq_false_iff.2 ht]
          · cases hb : b.data.toList with
            | nil => exact absurd ((toList_nil b).2 hb) hb0
            | cons d t =>
              have hbl : b.size = t.length + 1 := by
                have : b.data.toList.length = t.length + 1 := by rw [hb]; rfl
                simpa using this
              have hbt : (b.extract 1 b.size).data.toList = t := by rw [tail_data, hb]; rfl
              have hbs : (b.extract 1 b.size).size ≤ 140737488351232 := by
                have : (b.extract 1 b.size).data.toList.length = t.length := by rw [hbt]
                have h2 : (b.extract 1 b.size).size = t.length := by simpa using this
                omega
              have h2 := ih a (b.extract 1 b.size) (by rw [hbt]; rw [hb] at hn; simp at hn ⊢; omega) hsa hbs
              rw [hbt, ha] at h2
              refine Ev.pos (by omega) (Ev.bind h2 (Ev.some ?_))
              rw [like_star_cons _ _ _ _ h42, ← hb, Bool.eq_false_iff.2 ht, Bool.false_or]
      · refine Ev.neg (by omega) (Ev.ite (fun hb0 => Ev.some ?_) (fun hb0 => ?_))
        · have hb := (toList_nil b).1 hb0
          rw [hb, like_else_nil _ _ h42]
        · cases hb : b.data.toList with
          | nil => exact absurd ((toList_nil b).2 hb) hb0
          | cons d t =>
            have hbl : b.size = t.length + 1 := by
              have : b.data.toList.length = t.length + 1 := by rw [hb]; rfl
              simpa using this
            have hd : bt b 0 = (d.toNat : Int) := by
              have := bt_get b 0 (by rw [hb]; simp)
              simpa [hb] using this
            have hbt : (b.extract 1 b.size).data.toList = t := by rw [tail_data, hb]; rfl
            have hbs : (b.extract 1 b.size).size ≤ 140737488351232 := by
              have : (b.extract 1 b.size).data.toList.length = t.length := by rw [hbt]
              have h2 : (b.extract 1 b.size).size = t.length := by simpa using this
              omega
            have h2 := ih (a.extract 1 a.size) (b.extract 1 b.size) (by rw [htl, hbt]; rw [ha, hb] at hn; simp at hn ⊢; omega) htls hbs
            rw [hbt, htl] at h2
            rw [hd, like_else_cons _ _ _ _ h42]
            refine Ev.ite (fun h63 => ?_) (fun h63 => ?_)
            · refine Ev.pos (by omega) (Ev.pos (by omega) (Ev.bind h2 (Ev.some ?_)))
              rw [decide_eq_true (show c.toNat = 63 by omega)]
              simp
            · refine Ev.pos (by omega) (Ev.ite (fun he => ?_) (fun he => Ev.some ?_))
              · refine Ev.pos (by omega) (Ev.pos (by omega) (Ev.bind h2 (Ev.some ?_)))
                rw [decide_eq_true (show c.toNat = d.toNat by omega)]
                simp
              · rw [decide_eq_false (show ¬ c.toNat = 63 by omega), decide_eq_false (show ¬ c.toNat = d.toNat by omega)]
                rfl

/-! ### the program's table -/
def upTo (f : Nat → Bool) : Nat → Bool
  | 0 => f 0
  | a + 1 => f (a + 1) || upTo f a
theorem upTo_iff (f : Nat → Bool) : ∀ a, upTo f a = true ↔ ∃ b, b ≤ a ∧ f b = true
  | 0 => ⟨fun h => ⟨0, Nat.le_refl _, h⟩, fun ⟨b, hb, h⟩ => by obtain rfl : b = 0 := by omega
                                                               exact h⟩
  | a + 1 => by
    simp only [upTo, Bool.or_eq_true, upTo_iff f a]
    constructor
    · rintro (h | ⟨b, hb, h⟩)
      · exact ⟨a + 1, Nat.le_refl _, h⟩
      · exact ⟨b, by omega, h⟩
    · rintro ⟨b, hb, h⟩
      by_cases e : b = a + 1
      · subst e; exact .inl h
      · exact .inr ⟨b, by omega, h⟩
/-- Whether the first i signs of the pattern can end at place a of the text. -/
def ends (p t : ByteArray) : Nat → Nat → Bool
  | 0, a => decide (a = 0)
  | i + 1, a => if bt p (i : Int) = 42 then upTo (ends p t i) a else match a with
    | 0 => false
    | b + 1 => ends p t i b && (decide (bt p (i : Int) = 63) || bt p (i : Int) == bt t (b : Int))
def rowE (p t : ByteArray) (m i : Nat) : List Bool := (List.range (m + 1)).map (ends p t i)
theorem rowE_length (p t : ByteArray) (m i : Nat) : (rowE p t m i).length = m + 1 := by simp [rowE]
theorem rowE_get (p t : ByteArray) (m i a : Nat) (h : a ≤ m) : rdOf false (rowE p t m i) (a : Int) = ends p t i a := by
  show (rowE p t m i).getD a false = _
  rw [List.getD_eq_getElem?_getD, rowE, List.getElem?_map, List.getElem?_range (by omega)]
  rfl
theorem rowE_elem (p t : ByteArray) (m i a : Nat) (h : a < (rowE p t m i).length) : (rowE p t m i)[a] = ends p t i a := by simp [rowE]
/-- The row that is being filled: its first a places are told. -/
def part (p t : ByteArray) (m i a : Nat) : List Bool := (rowE p t m (i + 1)).take a ++ (List.replicate (m + 1) false).drop a
theorem part_length (p t : ByteArray) (m i a : Nat) : (part p t m i a).length = m + 1 := by
  unfold part
  rw [fill_length (by simp [rowE_length]), rowE_length]
theorem part_set (p t : ByteArray) (m i a : Nat) (h : a ≤ m) {v : Bool} (hv : v = ends p t (i + 1) a) : (part p t m i a).set a v = part p t m i (a + 1) := by
  subst hv
  unfold part
  rw [← rowE_elem p t m (i + 1) a (by rw [rowE_length]; omega)]
  exact set_fill (by simp [rowE_length]) (by rw [rowE_length]; omega)
theorem part_get (p t : ByteArray) (m i a : Nat) (h : a < m + 1) (h0 : 0 < a) : rdOf false (part p t m i a) ((a - 1 : Nat) : Int) = ends p t (i + 1) (a - 1) := by
  show (part p t m i a).getD (a - 1) false = _
  rw [List.getD_eq_getElem?_getD, part, List.getElem?_append_left (by simp [rowE_length]; omega), List.getElem?_take_of_lt (by omega), rowE, List.getElem?_map, List.getElem?_range (by omega)]
  rfl

theorem fits_inner (p t : ByteArray) (ht : t.size ≤ 1048576) (hp : p.size ≤ 1048576) (i : Nat) (hi : i < p.size) (r : Bool)
    (hnext : Ev (fun k => impl_fits.l0 k p t (rowE p t t.size (i + 1)) (p.size : Int) ((i + 1 : Nat) : Int)) r) :
    ∀ d a : Nat, a + d = t.size + 1 → Ev (fun k => impl_fits.l1 k p t (rowE p t t.size i) (i : Int) (part p t t.size i a) (p.size : Int) (i : Int) ((t.size + 1 : Nat) : Int) (a : Int)) r := by
  intro d
  induction d with
  | zero =>
    intro a ha
    refine Ev.step (fun _ => impl_fits.l1.eq_2 ..) (Ev.neg (by omega) ?_)
    rw [wrap_succ (by omega)]
    have e : part p t t.size i a = rowE p t t.size (i + 1) := fill_all (by simp [rowE_length]) (by rw [rowE_length]; omega)
    rw [e]
    exact hnext
  | succ d ih =>
    intro a ha
    have go : ∀ v : Bool, v = ends p t (i + 1) a → Ev (fun k => impl_fits.l1 k p t (rowE p t t.size i) (i : Int) ((part p t t.size i a).set (a : Int).toNat v) (p.size : Int) (i : Int) ((t.size + 1 : Nat) : Int) (wrap64 ((a : Int) + 1))) r := by
      intro v hv
      rw [wrap_succ (by omega)]
      have e : (part p t t.size i a).set (a : Int).toNat v = part p t t.size i (a + 1) := part_set p t t.size i a (by omega) hv
      rw [e]
      exact ih (a + 1) (by omega)
    have hl := rowE_length p t t.size i
    have hpl := part_length p t t.size i a
    have hg := rowE_get p t t.size i a (by omega)
    refine Ev.step (fun _ => impl_fits.l1.eq_2 ..) (Ev.pos (by omega) (Ev.pos (by omega) (Ev.pos (by omega) ?_)))
    by_cases h42 : bt p (i : Int) = 42
    · refine Ev.pos h42 (Ev.pos (by omega) (Ev.pos (by omega) ?_))
      rw [hg]
      refine Ev.ite (fun he => Ev.pos (by omega) (go _ ?_)) (fun he => Ev.ite (fun h0 => ?_) (fun h0 => Ev.pos (by omega) (go _ ?_)))
      · simp only [ends, if_pos h42]
        exact ((upTo_iff _ _).2 ⟨a, Nat.le_refl _, he⟩).symm
      · rw [wrap_pred (by omega) (by omega)]
        refine Ev.pos (by omega) (Ev.pos (by omega) (Ev.pos (by omega) (go _ ?_)))
        rw [part_get p t t.size i a (by omega) (by omega)]
        obtain ⟨b, rfl⟩ : ∃ b, a = b + 1 := ⟨a - 1, by omega⟩
        simp only [ends, if_pos h42, upTo, Nat.add_sub_cancel]
        rw [Bool.eq_false_iff.2 he, Bool.false_or]
      · obtain rfl : a = 0 := by omega
        simp only [ends, if_pos h42, upTo]
        exact (Bool.eq_false_iff.2 he).symm
    · refine Ev.neg h42 (Ev.ite (fun h0 => ?_) (fun h0 => Ev.pos (by omega) (Ev.pos (by omega) (go _ ?_))))
      · rw [wrap_pred (by omega) (by omega)]
        obtain ⟨b, rfl⟩ : ∃ b, a = b + 1 := ⟨a - 1, by omega⟩
        have hg2 := rowE_get p t t.size i b (by omega)
        refine Ev.pos (by omega) (Ev.pos (by omega) ?_)
        have eb : ((b + 1 - 1 : Nat) : Int) = (b : Int) := rfl
        rw [eb, hg2]
        refine Ev.ite (fun he => Ev.ite (fun h63 => Ev.pos (by omega) (Ev.pos (by omega) (go _ ?_))) (fun h63 => Ev.pos (by omega) (Ev.pos (by omega) (Ev.pos (by omega) (go _ ?_))))) (fun he => Ev.pos (by omega) (Ev.pos (by omega) (go _ ?_)))
        · simp only [ends, if_neg h42, he, decide_eq_true h63]
          rfl
        · simp only [ends, if_neg h42, he, decide_eq_false h63]
          rfl
        · simp only [ends, if_neg h42, Bool.eq_false_iff.2 he]
          rfl
      · obtain rfl : a = 0 := by omega
        simp only [ends, if_neg h42]
theorem fits_ (p t : ByteArray) (hp : p.size ≤ 1048576) (ht : t.size ≤ 1048576) : Ev (fun k => impl_fits.f k p t) (ends p t p.size t.size) := by
  have key : ∀ d i : Nat, i + d = p.size → Ev (fun k => impl_fits.l0 k p t (rowE p t t.size i) (p.size : Int) (i : Int)) (ends p t p.size t.size) := by
    intro d
    induction d with
    | zero =>
      intro i hi
      have hl := rowE_length p t t.size i
      refine Ev.step (fun _ => impl_fits.l0.eq_2 ..) (Ev.neg (by omega) (Ev.pos (by omega) (Ev.pos (by omega) (Ev.some ?_))))
      rw [rowE_get p t t.size i t.size (Nat.le_refl _)]
      obtain rfl : i = p.size := by omega
      rfl
    | succ d ih =>
      intro i hi
      have hl := rowE_length p t t.size i
      refine Ev.step (fun _ => impl_fits.l0.eq_2 ..) (Ev.pos (by omega) (Ev.pos (by omega) (Ev.pos (by omega) ?_)))
      have h := fits_inner p t ht hp i (by omega) _ (ih (i + 1) (by omega)) (t.size + 1) 0 (by omega)
      have e : List.replicate ((rowE p t t.size i).length : Int).toNat false = part p t t.size i 0 := by
        rw [hl]
        rfl
      have e2 : ((rowE p t t.size i).length : Int) = ((t.size + 1 : Nat) : Int) := by rw [hl]
      rw [e, e2]
      exact h
  unfold impl_fits.f
  refine Ev.ite (fun h0 => Ev.some ?_) (fun h0 => ?_)
  · have hp0 : p.size = 0 := by
      have := congrArg List.length ((toList_nil p).1 h0)
      simpa using this
    rw [hp0, toList_isNil]
    simp only [ends]
    rw [Bool.eq_iff_iff, List.isEmpty_iff, decide_eq_true_eq, ← List.length_eq_zero_iff]
    simp
  · have hw : wrap64 ((t.size : Int) + 1) = ((t.size + 1 : Nat) : Int) := wrap_succ (by omega)
    rw [hw]
    refine Ev.pos (by omega) (Ev.pos (by omega) (Ev.have rfl (Ev.pos (by simp) ?_)))
    have e : (List.replicate ((t.size + 1 : Nat) : Int).toNat false).set (0 : Int).toNat true = rowE p t t.size 0 := by
      show (List.replicate (t.size + 1) false).set 0 true = _
      rw [List.replicate_succ, List.set_cons_zero, rowE, List.range_succ_eq_map, List.map_cons, List.map_map]
      congr 1
      apply List.ext_getElem
      · simp
      · intro j h1 h2
        simp [ends]
    rw [e]
    exact key p.size 0 (by omega)

/-! ### the two come to one answer -/
theorem like_star (c : UInt8) (p t : List UInt8) (h : c.toNat = 42) : ∀ d a : Nat, a + d = t.length → (like (c :: p) (t.drop a) = true ↔ ∃ b, a ≤ b ∧ b ≤ t.length ∧ like p (t.drop b) = true)
  | 0, a, ha => by
    rw [List.drop_eq_nil_of_le (by omega), like_star_nil _ _ h]
    constructor
    · intro hl
      exact ⟨a, Nat.le_refl _, by omega, by rw [List.drop_eq_nil_of_le (by omega)]; exact hl⟩
    · rintro ⟨b, hb, hb2, hl⟩
      rwa [List.drop_eq_nil_of_le (by omega)] at hl
  | d + 1, a, ha => by
    have ih := like_star c p t h d (a + 1) (by omega)
    rw [List.drop_eq_getElem_cons (show a < t.length by omega), like_star_cons _ _ _ _ h, Bool.or_eq_true, ih, ← List.drop_eq_getElem_cons (show a < t.length by omega)]
    constructor
    · rintro (hl | ⟨b, hb, hb2, hl⟩)
      · exact ⟨a, Nat.le_refl _, by omega, hl⟩
      · exact ⟨b, by omega, hb2, hl⟩
    · rintro ⟨b, hb, hb2, hl⟩
      by_cases e : b = a
      · subst e; exact .inl hl
      · exact .inr ⟨b, by omega, hb2, hl⟩
theorem meets (p t : ByteArray) (i : Nat) (hi : i < p.data.toList.length) :
    (∃ a, a ≤ t.data.toList.length ∧ ends p t i a = true ∧ like (p.data.toList.drop i) (t.data.toList.drop a) = true) ↔ (∃ a, a ≤ t.data.toList.length ∧ ends p t (i + 1) a = true ∧ like (p.data.toList.drop (i + 1)) (t.data.toList.drop a) = true) := by
  have hc := bt_get p i hi
  rw [List.drop_eq_getElem_cons hi]
  generalize p.data.toList[i] = c at hc ⊢
  generalize p.data.toList.drop (i + 1) = q
  by_cases h42 : c.toNat = 42
  · have hb : bt p (i : Int) = 42 := by omega
    simp only [ends, if_pos hb, upTo_iff]
    constructor
    · rintro ⟨a, ha, he, hl⟩
      obtain ⟨b, h1, h2, h3⟩ := (like_star c q t.data.toList h42 (t.data.toList.length - a) a (by omega)).1 hl
      exact ⟨b, h2, ⟨a, h1, he⟩, h3⟩
    · rintro ⟨b, hb2, ⟨a, ha, he⟩, hl⟩
      exact ⟨a, by omega, he, (like_star c q t.data.toList h42 (t.data.toList.length - a) a (by omega)).2 ⟨b, ha, hb2, hl⟩⟩
  · have hb : ¬ bt p (i : Int) = 42 := by omega
    constructor
    · rintro ⟨a, ha, he, hl⟩
      by_cases ham : a < t.data.toList.length
      · rw [List.drop_eq_getElem_cons ham, like_else_cons _ _ _ _ h42] at hl
        simp only [Bool.and_eq_true, Bool.or_eq_true, decide_eq_true_eq] at hl
        refine ⟨a + 1, by omega, ?_, hl.2⟩
        have ht := bt_get t a ham
        simp only [ends, if_neg hb, he, Bool.true_and, Bool.or_eq_true, decide_eq_true_eq, beq_iff_eq]
        rcases hl.1 with h | h
        · exact .inl (by omega)
        · exact .inr (by omega)
      · rw [List.drop_eq_nil_of_le (by omega), like_else_nil _ _ h42] at hl
        cases hl
    · rintro ⟨a, ha, he, hl⟩
      cases a with
      | zero => simp [ends, if_neg hb] at he
      | succ a =>
        have ht := bt_get t a (by omega)
        simp only [ends, if_neg hb, Bool.and_eq_true, Bool.or_eq_true, decide_eq_true_eq, beq_iff_eq] at he
        refine ⟨a, by omega, he.1, ?_⟩
        rw [List.drop_eq_getElem_cons (show a < t.data.toList.length by omega), like_else_cons _ _ _ _ h42, hl, Bool.and_true]
        simp only [Bool.or_eq_true, decide_eq_true_eq]
        rcases he.2 with h | h
        · exact .inl (by omega)
        · exact .inr (by omega)
theorem one_answer (p t : ByteArray) : ends p t p.size t.size = like p.data.toList t.data.toList := by
  have all : ∀ i, i ≤ p.data.toList.length → ((∃ a, a ≤ t.data.toList.length ∧ ends p t 0 a = true ∧ like (p.data.toList.drop 0) (t.data.toList.drop a) = true) ↔ (∃ a, a ≤ t.data.toList.length ∧ ends p t i a = true ∧ like (p.data.toList.drop i) (t.data.toList.drop a) = true)) := by
    intro i
    induction i with
    | zero => exact fun _ => Iff.rfl
    | succ i ih => exact fun h => (ih (by omega)).trans (meets p t i (by omega))
  have hp : p.data.toList.length = p.size := by simp
  have ht : t.data.toList.length = t.size := by simp
  have h := all p.data.toList.length (Nat.le_refl _)
  rw [Bool.eq_iff_iff]
  constructor
  · intro he
    obtain ⟨a, ha, h0, hl⟩ := h.2 ⟨t.data.toList.length, Nat.le_refl _, by rw [hp, ht]; exact he, by rw [List.drop_length, List.drop_length, like_nil]; rfl⟩
    simp only [ends, decide_eq_true_eq] at h0
    subst h0
    exact hl
  · intro hl
    obtain ⟨a, ha, h0, hl2⟩ := h.1 ⟨0, Nat.zero_le _, rfl, hl⟩
    rw [List.drop_length, like_nil, List.isEmpty_iff] at hl2
    have : t.data.toList.length ≤ a := List.drop_eq_nil_iff.1 hl2
    obtain rfl : a = t.data.toList.length := by omega
    rw [hp, ht] at h0
    exact h0
end Go.Proofs.Ythmegimmnhkkhaa.MFits
