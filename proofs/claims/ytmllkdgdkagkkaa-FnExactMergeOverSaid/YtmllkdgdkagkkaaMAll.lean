/- Plain laws of the functions that the claim's functions call: what they compute, with no program in sight. No condition. -/
import Derived.Test.YtmllkdgdkagkkaaWAll
import Derived.Lib.Bytealg
import Derived.Test.YtmllkdgdkagkkaaG6
import Derived.Test.YtmllkdgdkagkkaaG0
import Derived.Test.YtmllkdgdkagkkaaG1
import Derived.Test.YtmllkdgdkagkkaaG2
import Derived.Test.YtmllkdgdkagkkaaG7
import Derived.Test.YtmllkdgdkagkkaaG11
import Derived.Test.YtmllkdgdkagkkaaG12
import Derived.Test.YtmllkdgdkagkkaaG38
import Derived.Test.YtmllkdgdkagkkaaG39
import Derived.Test.YtmllkdgdkagkkaaG50
import Derived.Test.YtmllkdgdkagkkaaG13
import Derived.Test.YtmllkdgdkagkkaaG14
import Derived.Test.YtmllkdgdkagkkaaG15
import Derived.Test.YtmllkdgdkagkkaaG16
import Derived.Test.YtmllkdgdkagkkaaG17
import Derived.Test.YtmllkdgdkagkkaaG8
import Derived.Test.YtmllkdgdkagkkaaG9
import Derived.Test.YtmllkdgdkagkkaaG52
import Derived.Test.YtmllkdgdkagkkaaG53
import Derived.Test.YtmllkdgdkagkkaaG33
import Derived.Test.YtmllkdgdkagkkaaG3
import Derived.Test.YtmllkdgdkagkkaaG4
import Derived.Test.YtmllkdgdkagkkaaG5
import Derived.Test.YtmllkdgdkagkkaaG34
section
/- Plain lemmas on rounds, lists and numbers, for the laws' pure statements: no program in sight. -/
namespace Go.Proofs.Ytmllkdgdkagkkaa.MPure
open Go.RowKit Go.Proofs.YtmllkdgdkagkkaaW.PrintWords Go.Proofs.YtmllkdgdkagkkaaW.PrintLast

theorem Ev.pos {α : Type} {c : Prop} [Decidable c] {f g : Nat → Option α} {r : α} (h : c) (k : Ev f r) : Ev (fun n => if c then f n else g n) r := by
  simpa only [if_pos h] using k
theorem Ev.neg {α : Type} {c : Prop} [Decidable c] {f g : Nat → Option α} {r : α} (h : ¬ c) (k : Ev g r) : Ev (fun n => if c then f n else g n) r := by
  simpa only [if_neg h] using k
theorem Ev.some {α : Type} {a r : α} (h : a = r) : Ev (fun _ => Option.some a) r := h ▸ Ev.now a
theorem Ev.have {α β : Type} {a : Option α} {x : α} {f : Nat → α → Option β} {r : β} (h : a = .some x) (k : Ev (fun n => f n x) r) : Ev (fun n => a.bind (f n)) r := by
  subst h
  exact k
theorem Ev.ite {α : Type} {c : Prop} [Decidable c] {f g : Nat → Option α} {r : α} (h : c → Ev f r) (k : ¬ c → Ev g r) : Ev (fun n => if c then f n else g n) r := by
  by_cases hc : c
  · exact Ev.pos hc (h hc)
  · exact Ev.neg hc (k hc)
theorem Ev.eq {α : Type} {g : Nat → Option α} {a r : α} (k : Ev g a) (h : a = r) : Ev g r := h ▸ k
theorem wrap_in {n : Int} (h : -9223372036854775808 ≤ n) (h' : n ≤ 9223372036854775807) : wrap64 n = n := by unfold wrap64; omega
theorem wrap_succ {i : Nat} (h : i ≤ 9223372036854775806) : wrap64 ((i : Int) + 1) = ((i + 1 : Nat) : Int) := by unfold wrap64; omega
theorem wrap_pred {i : Nat} (h0 : 0 < i) (h : i ≤ 9223372036854775806) : wrap64 ((i : Int) - 1) = ((i - 1 : Nat) : Int) := by unfold wrap64; omega
/-- A loop that stops with 'false' at the first place at which p does not hold, and answers e behind the last one. -/
theorem loop_all {L : Nat → Int → Option Bool} (n : Nat) (p : Nat → Bool) (e : Bool) (hend : Ev (fun k => L k (n : Int)) e)
    (hyes : ∀ i : Nat, i < n → p i = true → ∀ r, Ev (fun k => L k ((i + 1 : Nat) : Int)) r → Ev (fun k => L k (i : Int)) r) (hno : ∀ i : Nat, i < n → p i = false → Ev (fun k => L k (i : Int)) false) :
    ∀ d i : Nat, i + d = n → Ev (fun k => L k (i : Int)) ((List.range' i d).all p && e)
  | 0, i, h => by
    have : i = n := by omega
    subst this
    simpa using hend
  | d + 1, i, h => by
    have hi : i < n := by omega
    cases hp : p i with
    | true =>
      have ih := loop_all n p e hend hyes hno d (i + 1) (by omega)
      have := hyes i hi hp _ ih
      simpa [List.range'_succ, hp] using this
    | false =>
      have := hno i hi hp
      simpa [List.range'_succ, hp] using this
/-- The same from its begin. -/
theorem loop_all0 {L : Nat → Int → Option Bool} (n : Nat) (p : Nat → Bool) (e : Bool) (hend : Ev (fun k => L k (n : Int)) e)
    (hyes : ∀ i : Nat, i < n → p i = true → ∀ r, Ev (fun k => L k ((i + 1 : Nat) : Int)) r → Ev (fun k => L k (i : Int)) r) (hno : ∀ i : Nat, i < n → p i = false → Ev (fun k => L k (i : Int)) false) :
    Ev (fun k => L k 0) ((List.range n).all p && e) := by
  have h := loop_all n p e hend hyes hno n 0 (by omega)
  rw [← List.range_eq_range'] at h
  exact h

theorem all_congr {n : Nat} {p q : Nat → Bool} (h : ∀ i, i < n → p i = q i) : (List.range n).all p = (List.range n).all q := by
  rw [Bool.eq_iff_iff]
  simp only [List.all_eq_true, List.mem_range]
  constructor
  · exact fun H i hi => by rw [← h i hi]; exact H i hi
  · exact fun H i hi => by rw [h i hi]; exact H i hi

/-- A list that is filled from its begin. -/
theorem set_fill {α : Type} {xs ys : List α} (h : ys.length = xs.length) {i : Nat} (hi : i < xs.length) : (xs.take i ++ ys.drop i).set i xs[i] = xs.take (i + 1) ++ ys.drop (i + 1) := by
  rw [List.set_append, if_neg (by simp; omega)]
  have : i - (List.take i xs).length = 0 := by simp; omega
  rw [this, List.drop_eq_getElem_cons (show i < ys.length by omega), List.set_cons_zero, List.take_succ_eq_append_getElem hi, List.append_assoc]
  rfl
theorem fill_all {α : Type} {xs ys : List α} (h : ys.length = xs.length) {i : Nat} (hi : xs.length ≤ i) : xs.take i ++ ys.drop i = xs := by
  rw [List.take_of_length_le hi, List.drop_of_length_le (by omega), List.append_nil]
theorem fill_length {α : Type} {xs ys : List α} (h : ys.length = xs.length) (i : Nat) : (xs.take i ++ ys.drop i).length = xs.length := by
  simp; omega
end Go.Proofs.Ytmllkdgdkagkkaa.MPure
end
section
/- Words: what the printed functions on texts of some letters come to. -/
namespace Go.Proofs.Ytmllkdgdkagkkaa.MWord
open Go.RowKit Go.Proofs.Ytmllkdgdkagkkaa.G Go.Proofs.YtmllkdgdkagkkaaW.PrintWords Go.Proofs.YtmllkdgdkagkkaaW.PrintLast Go.Proofs.Ytmllkdgdkagkkaa.MPure

/-- 1 to 8 bytes, of each of which p holds. -/
def wordB (p : Int → Bool) (s : ByteArray) : Bool := (List.range s.size).all (fun i => p (bt s (i : Int))) && decide (1 ≤ (s.size : Int) ∧ (s.size : Int) ≤ 8)
def capB (c : Int) : Bool := decide (65 ≤ c ∧ c ≤ 90)
theorem l1In_ (a b c : Int) : spec_l1In.f a b c = some (decide (b ≤ a ∧ a ≤ c)) := by
  unfold spec_l1In.f
  by_cases h : a ≥ b
  · rw [if_pos h]; simp [show b ≤ a from h]
  · rw [if_neg h]; simp [show ¬ b ≤ a from h]
theorem within_ (a b c : Int) : impl_within.f a b c = some (decide (b ≤ a ∧ a ≤ c)) := by
  unfold impl_within.f
  by_cases h : a ≥ b
  · rw [if_pos h]; simp [show b ≤ a from h]
  · rw [if_neg h]; simp [show ¬ b ≤ a from h]

/-- Which bytes are among some letters. -/
def amongB (ls : ByteArray) (c : Int) : Bool := decide (0 ≤ Lib.indexByte ls.data.toList c.toNat.toUInt8)
theorem hasOnly_ (s ls : ByteArray) (hs : s.size ≤ 140737488351232) : Ev (fun k => impl_hasOnly.f k s ls) ((List.range s.size).all (fun i => amongB ls (bt s (i : Int)))) := by
  refine Ev.eq (loop_all0 (L := fun k i => impl_hasOnly.l0 k s ls (s.size : Int) i) s.size (fun i => amongB ls (bt s (i : Int))) true ?_ ?_ ?_) (Bool.and_true _)
  · refine Ev.step (f := fun _ => _) (fun k => ?_) (Ev.some rfl)
    simp only [impl_hasOnly.l0]
    rw [if_neg (by omega)]
  · intro i hi hp r hr
    refine Ev.step (f := fun k => impl_hasOnly.l0 k s ls (s.size : Int) ((i + 1 : Nat) : Int)) (fun k => ?_) hr
    simp only [amongB, decide_eq_true_eq] at hp
    simp only [impl_hasOnly.l0, strings_IndexByte.f, Option.bind_some]
    rw [if_pos (by omega), if_pos (by omega), if_pos (by omega), if_neg (by omega), wrap_succ (by omega)]
  · intro i hi hp
    refine Ev.step (f := fun k => some false) (fun k => ?_) (Ev.some rfl)
    simp only [amongB, decide_eq_false_iff_not] at hp
    simp only [impl_hasOnly.l0, strings_IndexByte.f, Option.bind_some]
    rw [if_pos (by omega), if_pos (by omega), if_pos (by omega), if_pos (by omega)]
theorem isWordOf_ (s ls : ByteArray) (hs : s.size ≤ 140737488351232) : Ev (fun k => impl_isWordOf.f k s ls) (wordB (amongB ls) s) := by
  unfold impl_isWordOf.f
  refine Ev.have (within_ _ _ _) (Ev.ite (fun h => ?_) (fun h => ?_))
  · refine Ev.bind (hasOnly_ s ls hs) (Ev.some ?_)
    simp only [wordB]
    rw [h, Bool.and_true]
  · refine Ev.some ?_
    simp only [wordB]
    rw [Bool.eq_false_iff.2 h, Bool.and_false]
/-- The capital letters, as the program has them. -/
theorem caps (c : Int) (h0 : 0 ≤ c) (h1 : c ≤ 255) : amongB (⟨#[65, 66, 67, 68, 69, 70, 71, 72, 73, 74, 75, 76, 77, 78, 79, 80, 81, 82, 83, 84, 85, 86, 87, 88, 89, 90]⟩ : ByteArray) c = capB c := by
  have key : ∀ n : Nat, n < 256 → amongB (⟨#[65, 66, 67, 68, 69, 70, 71, 72, 73, 74, 75, 76, 77, 78, 79, 80, 81, 82, 83, 84, 85, 86, 87, 88, 89, 90]⟩ : ByteArray) (n : Int) = capB (n : Int) := by decide +kernel
  obtain ⟨n, rfl⟩ := Int.eq_ofNat_of_zero_le h0
  exact key n (by omega)
theorem wordB_congr {p q : Int → Bool} (h : ∀ c, 0 ≤ c → c ≤ 255 → p c = q c) (s : ByteArray) : wordB p s = wordB q s := by
  unfold wordB
  rw [all_congr (fun i _ => h _ (bt_range s _).1 (bt_range s _).2)]
theorem isWord_ (s : ByteArray) (hs : s.size ≤ 140737488351232) : Ev (fun k => impl_isWordOf.f k s (⟨#[65, 66, 67, 68, 69, 70, 71, 72, 73, 74, 75, 76, 77, 78, 79, 80, 81, 82, 83, 84, 85, 86, 87, 88, 89, 90]⟩ : ByteArray)) (wordB capB s) :=
  Ev.eq (isWordOf_ s _ hs) (wordB_congr caps s)

end Go.Proofs.Ytmllkdgdkagkkaa.MWord
end
section
/- What the printed functions on notes and tiers come to, by numbers and lists alone: words, notes, tiers, the copies and the comparison that the exact laws use. -/
namespace Go.Proofs.Ytmllkdgdkagkkaa.MNote
open Go.RowKit Go.Proofs.Ytmllkdgdkagkkaa.G Go.Proofs.YtmllkdgdkagkkaaW.PrintWords Go.Proofs.YtmllkdgdkagkkaaW.PrintLast Go.Proofs.Ytmllkdgdkagkkaa.MPure Go.Proofs.Ytmllkdgdkagkkaa.MWord

theorem fsWord_ (s : ByteArray) (hs : s.size ≤ 140737488351232) : Ev (fun k => spec_fsWord.f k s) (wordB capB s) := by
  refine loop_all0 (L := fun k i => spec_fsWord.l0 k s i) s.size (fun i => capB (bt s (i : Int))) _ ?_ ?_ ?_
  · refine Ev.step (f := fun _ => _) (fun k => ?_) (Ev.some rfl)
    simp only [spec_fsWord.l0]
    rw [if_neg (by omega), l1In_]
    rfl
  · intro i hi hp r hr
    refine Ev.step (f := fun k => spec_fsWord.l0 k s ((i + 1 : Nat) : Int)) (fun k => ?_) hr
    simp only [capB, decide_eq_true_eq] at hp
    simp only [spec_fsWord.l0]
    rw [if_pos (by omega), if_pos (by omega), if_neg (by omega), if_neg (by omega), wrap_succ (by omega)]
  · intro i hi hp
    simp only [capB, decide_eq_false_iff_not] at hp
    by_cases h : bt s (i : Int) < 65
    · refine Ev.step (f := fun k => some false) (fun k => ?_) (Ev.some rfl)
      simp only [spec_fsWord.l0]
      rw [if_pos (by omega), if_pos (by omega), if_pos h]
    · refine Ev.step (f := fun k => some false) (fun k => ?_) (Ev.some rfl)
      simp only [spec_fsWord.l0]
      rw [if_pos (by omega), if_pos (by omega), if_neg h, if_pos (by omega)]

/-! ### notes -/
def frameB (n : Int) : Bool := decide (0 ≤ n ∧ n ≤ 99999)
def noteB (f t : Int) (g : ByteArray) : Bool := frameB f && frameB t && decide (f < t) && wordB capB g
theorem tiFrame_ (a : Int) : spec_tiFrame.f a = some (frameB a) := by
  unfold spec_tiFrame.f
  rw [l1In_]
  rfl
theorem isFrame_ (a : Int) : impl_isFrame.f a = some (frameB a) := by
  unfold impl_isFrame.f
  rw [within_]
  rfl
theorem tiNote_ (f t : Int) (g : ByteArray) (hg : g.size ≤ 140737488351232) : Ev (fun k => spec_tiNote.f k f t g) (noteB f t g) := by
  unfold spec_tiNote.f noteB
  refine Ev.have (tiFrame_ _) (Ev.ite (fun h => ?_) (fun h => Ev.some (by rw [Bool.eq_false_iff.2 h]; rfl)))
  refine Ev.have (tiFrame_ _) (Ev.ite (fun h2 => ?_) (fun h2 => Ev.some (by rw [Bool.eq_false_iff.2 h2]; simp)))
  refine Ev.ite (fun h3 => ?_) (fun h3 => Ev.some (by simp [h3]))
  exact Ev.bind (fsWord_ g hg) (Ev.some (by simp [h, h2, h3]))
theorem IsNote_ (f t : Int) (g : ByteArray) (hg : g.size ≤ 140737488351232) : Ev (fun k => impl_IsNote.f k f t g) (noteB f t g) := by
  unfold impl_IsNote.f noteB
  refine Ev.have (isFrame_ _) (Ev.ite (fun h => ?_) (fun h => Ev.some (by rw [Bool.eq_false_iff.2 h]; rfl)))
  refine Ev.have (isFrame_ _) (Ev.ite (fun h2 => ?_) (fun h2 => Ev.some (by rw [Bool.eq_false_iff.2 h2]; simp)))
  refine Ev.ite (fun h3 => ?_) (fun h3 => Ev.some (by simp [h3]))
  exact Ev.bind (isWord_ g hg) (Ev.some (by simp [h, h2, h3]))
theorem szNote_ (f t : Int) (g : ByteArray) (hg : g.size ≤ 140737488351232) (n : Int) (h0 : 0 ≤ n) (h1 : n ≤ 1048576) : laws_szNote.f f t g n = some (if n - (g.size : Int) < 0 then -1 else n - (g.size : Int)) := by
  unfold laws_szNote.f
  rw [wrap_in (by omega) (by omega)]
  split <;> rfl

/-! ### tiers -/
abbrev NI := S63
abbrev NL := S60
def atN (l : List NI) (i : Nat) : NI := l.getD i z63
theorem atN_mem {l : List NI} {i : Nat} (h : i < l.length) : atN l i ∈ l := by
  unfold atN
  rw [List.getD_eq_getElem?_getD, List.getElem?_eq_getElem h]
  exact List.getElem_mem h
/-- What the notes' texts bear. -/
def Sized (l : List NI) : Prop := l.length ≤ 140737488351232 ∧ ∀ x, x ∈ l → x.f2.size ≤ 140737488351232
def tierP (l : List NI) (i : Nat) : Bool := noteB (atN l i).f0 (atN l i).f1 (atN l i).f2 && (decide (i = 0) || decide ((atN l (i - 1)).f1 ≤ (atN l i).f0))
def tierB (l : List NI) : Bool := (List.range l.length).all (tierP l) && decide ((l.length : Int) ≤ 40)

theorem tiGood_ (l : List NI) (hl : Sized l) : Ev (fun k => spec_tiGood.f k l) (tierB l) := by
  obtain ⟨hn, hs⟩ := hl
  refine loop_all0 (L := fun k i => spec_tiGood.l0 k l l (l.length : Int) i) l.length (tierP l) _ ?_ ?_ ?_
  · exact Ev.step (fun _ => spec_tiGood.l0.eq_2 ..) (Ev.neg (by omega) (Ev.some rfl))
  · intro i hi hp r hr
    simp only [tierP, Bool.and_eq_true] at hp
    refine Ev.step (fun _ => spec_tiGood.l0.eq_2 ..) (Ev.pos (by omega) (Ev.pos (by omega) (Ev.pos (by omega) (Ev.bind (tiNote_ _ _ _ (hs _ (atN_mem hi))) (Ev.pos hp.1 (Ev.ite (fun h0 => ?_) (fun h0 => ?_)))))))
    · rw [wrap_pred (by omega) (by omega)]
      refine Ev.pos (by omega) (Ev.pos (by omega) (Ev.neg ?_ ?_))
      · have := hp.2
        simp only [Bool.or_eq_true, decide_eq_true_eq] at this
        have h : (atN l (i - 1)).f1 ≤ (atN l i).f0 := by
          rcases this with h | h
          · omega
          · exact h
        exact Int.not_lt.2 h
      · rw [wrap_succ (by omega)]
        exact hr
    · rw [wrap_succ (by omega)]
      exact hr
  · intro i hi hp
    refine Ev.step (fun _ => spec_tiGood.l0.eq_2 ..) (Ev.pos (by omega) (Ev.pos (by omega) (Ev.pos (by omega) (Ev.bind (tiNote_ _ _ _ (hs _ (atN_mem hi))) (Ev.ite (fun h1 => ?_) (fun _ => Ev.some rfl))))))
    simp only [tierP, Bool.and_eq_false_iff, Bool.or_eq_false_iff, decide_eq_false_iff_not] at hp
    rcases hp with hp | ⟨hp, hq⟩
    · exact absurd (h1.symm.trans hp) (by decide)
    · refine Ev.pos (by omega) ?_
      rw [wrap_pred (by omega) (by omega)]
      exact Ev.pos (by omega) (Ev.pos (by omega) (Ev.pos (Int.not_le.1 hq) (Ev.some rfl)))
theorem IsTier_ (l : List NI) (hl : Sized l) : Ev (fun k => impl_IsTier.f k l) (tierB l) := by
  obtain ⟨hn, hs⟩ := hl
  refine loop_all0 (L := fun k i => impl_IsTier.l0 k l l (l.length : Int) i) l.length (tierP l) _ ?_ ?_ ?_
  · exact Ev.step (fun _ => impl_IsTier.l0.eq_2 ..) (Ev.neg (by omega) (Ev.some rfl))
  · intro i hi hp r hr
    simp only [tierP, Bool.and_eq_true] at hp
    refine Ev.step (fun _ => impl_IsTier.l0.eq_2 ..) (Ev.pos (by omega) (Ev.pos (by omega) (Ev.pos (by omega) (Ev.bind (IsNote_ _ _ _ (hs _ (atN_mem hi))) (Ev.pos hp.1 (Ev.ite (fun h0 => ?_) (fun h0 => ?_)))))))
    · rw [wrap_pred (by omega) (by omega)]
      refine Ev.pos (by omega) (Ev.pos (by omega) (Ev.neg ?_ ?_))
      · have := hp.2
        simp only [Bool.or_eq_true, decide_eq_true_eq] at this
        have h : (atN l (i - 1)).f1 ≤ (atN l i).f0 := by
          rcases this with h | h
          · omega
          · exact h
        exact Int.not_lt.2 h
      · rw [wrap_succ (by omega)]
        exact hr
    · rw [wrap_succ (by omega)]
      exact hr
  · intro i hi hp
    refine Ev.step (fun _ => impl_IsTier.l0.eq_2 ..) (Ev.pos (by omega) (Ev.pos (by omega) (Ev.pos (by omega) (Ev.bind (IsNote_ _ _ _ (hs _ (atN_mem hi))) (Ev.ite (fun h1 => ?_) (fun _ => Ev.some rfl))))))
    simp only [tierP, Bool.and_eq_false_iff, Bool.or_eq_false_iff, decide_eq_false_iff_not] at hp
    rcases hp with hp | ⟨hp, hq⟩
    · exact absurd (h1.symm.trans hp) (by decide)
    · refine Ev.pos (by omega) ?_
      rw [wrap_pred (by omega) (by omega)]
      exact Ev.pos (by omega) (Ev.pos (by omega) (Ev.pos (Int.not_le.1 hq) (Ev.some rfl)))

/-! ### what the exact laws do with notes: sizes, copies, comparison -/
def conv (x : NL) : NI := ⟨x.f0, x.f1, x.f2⟩
/-- What a law's notes bear, as the row tells it. -/
def Given (l : List NL) : Prop := (∀ a_, a_ ∈ l → gT60 a_) ∧ l.length * 32 ≤ 140737488351232
theorem Given.sized {l : List NL} (h : Given l) : Sized (l.map conv) := by
  obtain ⟨h1, h2⟩ := h
  refine ⟨by rw [List.length_map]; omega, fun x hx => ?_⟩
  obtain ⟨y, hy, rfl⟩ := List.mem_map.1 hx
  exact (h1 y hy).2.2
theorem toNoteS_ (l : List NL) (hl : l.length * 32 ≤ 140737488351232) : Ev (fun k => laws_toNoteS.f k l) (l.map conv) := by
  have key : ∀ d i : Nat, i + d = l.length → Ev (fun k => laws_toNoteS.l0 k l ((l.map conv).take i ++ (List.replicate l.length z63).drop i) (i : Int)) (l.map conv) := by
    intro d
    induction d with
    | zero =>
      intro i hi
      exact Ev.step (fun _ => laws_toNoteS.l0.eq_2 ..) (Ev.neg (by omega) (Ev.some (fill_all (by simp) (by simp; omega))))
    | succ d ih =>
      intro i hi
      refine Ev.step (fun _ => laws_toNoteS.l0.eq_2 ..) (Ev.pos (by omega) (Ev.pos (by omega) (Ev.have rfl (Ev.pos ?_ ?_))))
      · rw [fill_length (by simp), List.length_map]; omega
      · rw [wrap_succ (by omega)]
        have e : ((l.map conv).take i ++ (List.replicate l.length z63).drop i).set i ((l.map conv)[i]'(by simp; omega)) = (l.map conv).take (i + 1) ++ (List.replicate l.length z63).drop (i + 1) := set_fill (by simp) (by simp; omega)
        have e2 : (l.map conv)[i]'(by simp; omega) = (⟨(rd_T60 l (i : Int)).f0, (rd_T60 l (i : Int)).f1, (rd_T60 l (i : Int)).f2⟩ : NI) := by
          have : rd_T60 l (i : Int) = l[i]'(by omega) := by
            show l.getD i z60 = _
            rw [List.getD_eq_getElem?_getD, List.getElem?_eq_getElem (by omega)]
            rfl
          rw [this, List.getElem_map]
          rfl
        rw [e2] at e
        have := ih (i + 1) (by omega)
        rw [← e] at this
        exact this
  unfold laws_toNoteS.f
  refine Ev.pos (by omega) (Ev.pos (by omega) ?_)
  have := key l.length 0 (by omega)
  exact this
theorem eqNote_ (a : NI) : laws_eqNote.f a.f0 a.f1 a.f2 a.f0 a.f1 a.f2 = some true := by
  unfold laws_eqNote.f
  rw [if_pos rfl, if_pos rfl, if_pos rfl]
theorem eqNoteS_ (l : List NI) (hl : l.length ≤ 140737488351232) : Ev (fun k => laws_eqNoteS.f k l l) true := by
  unfold laws_eqNoteS.f
  refine Ev.pos rfl ?_
  have h := loop_all0 (L := fun k i => laws_eqNoteS.l0 k l l i) l.length (fun _ => true) true ?_ ?_ ?_
  · exact Ev.eq h (by simp)
  · exact Ev.step (fun _ => laws_eqNoteS.l0.eq_2 ..) (Ev.neg (by omega) (Ev.some rfl))
  · intro i hi _ r hr
    refine Ev.step (fun _ => laws_eqNoteS.l0.eq_2 ..) (Ev.pos (by omega) (Ev.pos (by omega) (Ev.pos (by omega) (Ev.have (eqNote_ _) (Ev.pos rfl ?_)))))
    rw [wrap_succ (by omega)]
    exact hr
  · intro i _ h
    cases h
theorem szNoteS_ (l : List NL) (hl : Given l) (n : Int) (h0 : 0 ≤ n) (h1 : n ≤ 1048576) : ∃ z, Ev (fun k => laws_szNoteS.f k l n) z ∧ -1 ≤ z ∧ z ≤ n := by
  obtain ⟨hg, hn⟩ := hl
  have key : ∀ d i : Nat, i + d = l.length → ∀ z : Int, 0 ≤ z → z ≤ 1048576 → ∃ r, Ev (fun k => laws_szNoteS.l0 k l z (i : Int)) r ∧ -1 ≤ r ∧ r ≤ z := by
    intro d
    induction d with
    | zero =>
      intro i hi z h0 h1
      exact ⟨z, Ev.step (fun _ => laws_szNoteS.l0.eq_2 ..) (Ev.neg (by omega) (Ev.some rfl)), by omega, by omega⟩
    | succ d ih =>
      intro i hi z h0 h1
      have hm : rd_T60 l (i : Int) ∈ l := by
        show l.getD i z60 ∈ l
        rw [List.getD_eq_getElem?_getD, List.getElem?_eq_getElem (by omega)]
        exact List.getElem_mem _
      have hz := szNote_ (rd_T60 l (i : Int)).f0 (rd_T60 l (i : Int)).f1 (rd_T60 l (i : Int)).f2 (hg _ hm).2.2 z h0 h1
      by_cases hneg : z - ((rd_T60 l (i : Int)).f2.size : Int) < 0
      · rw [if_pos hneg] at hz
        exact ⟨-1, Ev.step (fun _ => laws_szNoteS.l0.eq_2 ..) (Ev.pos (by omega) (Ev.pos (by omega) (Ev.have hz (Ev.pos (by decide) (Ev.some rfl))))), by omega, by omega⟩
      · rw [if_neg hneg] at hz
        obtain ⟨r, hr, h2, h3⟩ := ih (i + 1) (by omega) _ (Int.not_lt.1 hneg) (by omega)
        refine ⟨r, Ev.step (fun _ => laws_szNoteS.l0.eq_2 ..) (Ev.pos (by omega) (Ev.pos (by omega) (Ev.have hz (Ev.neg hneg ?_)))), h2, by omega⟩
        rw [wrap_succ (by omega)]
        exact hr
  unfold laws_szNoteS.f
  rw [wrap_in (by omega) (by omega)]
  by_cases hneg : n - (l.length : Int) < 0
  · exact ⟨-1, Ev.pos hneg (Ev.some rfl), by omega, by omega⟩
  · obtain ⟨r, hr, h2, h3⟩ := key l.length 0 (by omega) _ (Int.not_lt.1 hneg) (by omega)
    exact ⟨r, Ev.neg hneg hr, h2, by omega⟩
end Go.Proofs.Ytmllkdgdkagkkaa.MNote
end
section
/- Pairs of notes that conflict: the reference's list and the program's are one. -/
namespace Go.Proofs.Ytmllkdgdkagkkaa.MConf
open Go.RowKit Go.Proofs.Ytmllkdgdkagkkaa.G Go.Proofs.YtmllkdgdkagkkaaW.PrintWords Go.Proofs.YtmllkdgdkagkkaaW.PrintLast Go.Proofs.Ytmllkdgdkagkkaa.MPure Go.Proofs.Ytmllkdgdkagkkaa.MWord Go.Proofs.Ytmllkdgdkagkkaa.MNote

/-- Whether two notes overlap and are not equal. -/
def conf (x y : NI) : Bool := decide (x.f0 < y.f1) && decide (y.f0 < x.f1) && (!(x.f0 == y.f0) || (!(x.f1 == y.f1) || (!(x.f2.toList == y.f2.toList))))
theorem conflict_ (x y : NI) : impl_conflict.f x.f0 x.f1 x.f2 y.f0 y.f1 y.f2 = some (conf x y) := by
  unfold impl_conflict.f conf
  by_cases h1 : x.f0 < y.f1
  · by_cases h2 : y.f0 < x.f1
    · rw [if_pos h1, if_pos h2]; simp [h1, h2]
    · rw [if_pos h1, if_neg h2]; simp [h2]
  · rw [if_neg h1]; simp [h1]
theorem meClash_ (x y : NI) : spec_meClash.f x.f0 x.f1 x.f2 y.f0 y.f1 y.f2 = some (conf x y) := by
  unfold spec_meClash.f conf
  cases hb : (!(x.f0 == y.f0) || (!(x.f1 == y.f1) || (!(x.f2.toList == y.f2.toList)))) with
  | false => simp
  | true =>
    rw [if_pos rfl]
    by_cases h1 : x.f0 < y.f1
    · rw [if_pos h1]; simp [h1]
    · rw [if_neg h1]; simp [h1]
/-- What the rest of the rounds comes to. -/
def Next (x y : List NI) (i : Nat) : Prop := ∀ out : List (List Int), out.length ≤ i * y.length → (∀ q, q ∈ out → q.length = 2) →
  ∃ r : List (List Int), r.length ≤ x.length * y.length ∧ (∀ q, q ∈ r → q.length = 2) ∧ Ev (fun k => spec_mePairs.l0 k y out x (x.length : Int) (i : Int)) r ∧ Ev (fun k => impl_conflicts.l0 k y out x (x.length : Int) (i : Int)) r
theorem inner (x y : List NI) (hx : x.length ≤ 1000) (hy : y.length ≤ 1000) (i : Nat) (hi : i < x.length) (hn : Next x y (i + 1)) (n : NI) : ∀ e j : Nat, j + e = y.length → ∀ out : List (List Int), out.length ≤ i * y.length + j → (∀ q, q ∈ out → q.length = 2) →
    ∃ r : List (List Int), r.length ≤ x.length * y.length ∧ (∀ q, q ∈ r → q.length = 2) ∧ Ev (fun k => spec_mePairs.l1 k y out (i : Int) x (x.length : Int) (i : Int) y (y.length : Int) (j : Int) n.f0 n.f1 n.f2) r ∧ Ev (fun k => impl_conflicts.l1 k y out (i : Int) x (x.length : Int) (i : Int) y (y.length : Int) (j : Int) n.f0 n.f1 n.f2) r := by
  intro e
  induction e with
  | zero =>
    intro j hj out ho hq
    obtain ⟨r, h1, h2, h3, h4⟩ := hn out (by rw [Nat.succ_mul]; omega) hq
    rw [← wrap_succ (by omega)] at h3 h4
    exact ⟨r, h1, h2, Ev.step (fun _ => spec_mePairs.l1.eq_2 ..) (Ev.neg (by omega) h3), Ev.step (fun _ => impl_conflicts.l1.eq_2 ..) (Ev.neg (by omega) h4)⟩
  | succ e ih =>
    intro j hj out ho hq
    have hb : i * y.length ≤ 1000 * 1000 := Nat.mul_le_mul (by omega) hy
    cases hc : conf n (rd_T63 y (j : Int)) with
    | true =>
      obtain ⟨r, h1, h2, h3, h4⟩ := ih (j + 1) (by omega) (out ++ [[(i : Int), (j : Int)]]) (by simp; omega) (by
        intro q hq'
        rcases List.mem_append.1 hq' with h | h
        · exact hq q h
        · rw [List.mem_singleton.1 h]; rfl)
      rw [← wrap_succ (by omega)] at h3 h4
      have hs := meClash_ n (rd_T63 y (j : Int))
      have hp := conflict_ n (rd_T63 y (j : Int))
      rw [hc] at hs hp
      exact ⟨r, h1, h2, Ev.step (fun _ => spec_mePairs.l1.eq_2 ..) (Ev.pos (by omega) (Ev.pos (by omega) (Ev.pos (by omega) (Ev.have hs (Ev.pos rfl (Ev.pos (by omega) h3)))))), Ev.step (fun _ => impl_conflicts.l1.eq_2 ..) (Ev.pos (by omega) (Ev.pos (by omega) (Ev.pos (by omega) (Ev.have hp (Ev.pos rfl (Ev.pos (by omega) h4))))))⟩
    | false =>
      obtain ⟨r, h1, h2, h3, h4⟩ := ih (j + 1) (by omega) out (by omega) hq
      rw [← wrap_succ (by omega)] at h3 h4
      have hs := meClash_ n (rd_T63 y (j : Int))
      have hp := conflict_ n (rd_T63 y (j : Int))
      rw [hc] at hs hp
      exact ⟨r, h1, h2, Ev.step (fun _ => spec_mePairs.l1.eq_2 ..) (Ev.pos (by omega) (Ev.pos (by omega) (Ev.pos (by omega) (Ev.have hs (Ev.neg (by simp) h3))))), Ev.step (fun _ => impl_conflicts.l1.eq_2 ..) (Ev.pos (by omega) (Ev.pos (by omega) (Ev.pos (by omega) (Ev.have hp (Ev.neg (by simp) h4)))))⟩
theorem next_all (x y : List NI) (hx : x.length ≤ 1000) (hy : y.length ≤ 1000) : ∀ d i : Nat, i + d = x.length → Next x y i := by
  intro d
  induction d with
  | zero =>
    intro i hi out ho hq
    obtain rfl : i = x.length := by omega
    exact ⟨out, ho, hq, Ev.step (fun _ => spec_mePairs.l0.eq_2 ..) (Ev.neg (by omega) (Ev.some rfl)), Ev.step (fun _ => impl_conflicts.l0.eq_2 ..) (Ev.neg (by omega) (Ev.some rfl))⟩
  | succ d ih =>
    intro i hi out ho hq
    obtain ⟨r, h1, h2, h3, h4⟩ := inner x y hx hy i (by omega) (ih (i + 1) (by omega)) (rd_T63 x (i : Int)) y.length 0 (by omega) out (by omega) hq
    exact ⟨r, h1, h2, Ev.step (fun _ => spec_mePairs.l0.eq_2 ..) (Ev.pos (by omega) (Ev.pos (by omega) (Ev.pos (by omega) h3))), Ev.step (fun _ => impl_conflicts.l0.eq_2 ..) (Ev.pos (by omega) (Ev.pos (by omega) (Ev.pos (by omega) h4)))⟩
theorem pairs_ (x y : List NI) (hx : x.length ≤ 1000) (hy : y.length ≤ 1000) : ∃ r : List (List Int), r.length ≤ 1000000 ∧ (∀ q, q ∈ r → q.length = 2) ∧ Ev (fun k => spec_mePairs.f k x y) r ∧ Ev (fun k => impl_conflicts.f k x y) r := by
  obtain ⟨r, h1, h2, h3, h4⟩ := next_all x y hx hy x.length 0 (by omega) [] (Nat.zero_le _) (fun q h => nomatch h)
  exact ⟨r, Nat.le_trans h1 (Nat.mul_le_mul hx hy), h2, h3, h4⟩
theorem meBoth_ (x y : List NI) (hx : Sized x) (hy : Sized y) : Ev (fun k => spec_meBoth.f k x y) (tierB x && tierB y) := by
  unfold spec_meBoth.f
  refine Ev.bind (tiGood_ x hx) (Ev.ite (fun h1 => ?_) (fun h1 => Ev.some (by simp [h1])))
  exact Ev.bind (tiGood_ y hy) (Ev.some (by simp [h1]))
end Go.Proofs.Ytmllkdgdkagkkaa.MConf
end
section
/- Whether a list has a note. -/
namespace Go.Proofs.Ytmllkdgdkagkkaa.MHas
open Go.RowKit Go.Proofs.Ytmllkdgdkagkkaa.G Go.Proofs.YtmllkdgdkagkkaaW.PrintWords Go.Proofs.YtmllkdgdkagkkaaW.PrintLast Go.Proofs.Ytmllkdgdkagkkaa.MPure Go.Proofs.Ytmllkdgdkagkkaa.MWord Go.Proofs.Ytmllkdgdkagkkaa.MNote

/-- Whether a list has a note. -/
def hasB (l : List NI) (x : NI) : Bool := l.any (fun y => x.f0 == y.f0 && (x.f1 == y.f1 && x.f2.toList == y.f2.toList))
theorem meBoth_ (x y : List NI) (hx : Sized x) (hy : Sized y) : Ev (fun k => spec_meBoth.f k x y) (tierB x && tierB y) := by
  unfold spec_meBoth.f
  refine Ev.bind (tiGood_ x hx) (Ev.ite (fun h1 => ?_) (fun h1 => Ev.some (by simp [h1])))
  exact Ev.bind (tiGood_ y hy) (Ev.some (by simp [h1]))
theorem meHas_ (l : List NI) (hl : l.length ≤ 140737488351232) (x : NI) : Ev (fun k => spec_meHas.f k l x.f0 x.f1 x.f2) (hasB l x) := by
  have key : ∀ d i : Nat, i + d = l.length → Ev (fun k => spec_meHas.l0 k l (l.length : Int) (i : Int) x.f0 x.f1 x.f2) (hasB (l.drop i) x) := by
    intro d
    induction d with
    | zero =>
      intro i hi
      rw [List.drop_eq_nil_of_le (by omega)]
      exact Ev.step (fun _ => spec_meHas.l0.eq_2 ..) (Ev.neg (by omega) (Ev.some rfl))
    | succ d ih =>
      intro i hi
      have h := ih (i + 1) (by omega)
      have e : rd_T63 l (i : Int) = l[i]'(by omega) := by
        show l.getD i z63 = _
        rw [List.getD_eq_getElem?_getD, List.getElem?_eq_getElem (by omega)]
        rfl
      rw [← wrap_succ (by omega)] at h
      rw [List.drop_eq_getElem_cons (show i < l.length by omega), hasB, List.any_cons, ← e]
      have hs : (((rd_T63 l (i : Int)).f0) == x.f0 && (((rd_T63 l (i : Int)).f1) == x.f1 && ((((rd_T63 l (i : Int)).f2).toList) == x.f2.toList))) = (x.f0 == (rd_T63 l (i : Int)).f0 && (x.f1 == (rd_T63 l (i : Int)).f1 && x.f2.toList == (rd_T63 l (i : Int)).f2.toList)) := by
        rw [Bool.beq_comm, Bool.beq_comm (a := (rd_T63 l (i : Int)).f1), Bool.beq_comm (a := (rd_T63 l (i : Int)).f2.toList)]
      refine Ev.step (fun _ => spec_meHas.l0.eq_2 ..) (Ev.pos (by omega) (Ev.pos (by omega) (Ev.pos (by omega) (Ev.ite (fun he => Ev.some ?_) (fun he => Ev.eq h ?_)))))
      · rw [hs] at he
        rw [he, Bool.true_or]
      · rw [hs] at he
        rw [Bool.eq_false_iff.2 he, Bool.false_or]
        rfl
  exact key l.length 0 (by omega)
end Go.Proofs.Ytmllkdgdkagkkaa.MHas
end
section
/- The library's stable sort, as the print tells it: what comes back are the same elements, in the order of their first numbers. -/
namespace Go.Proofs.Ytmllkdgdkagkkaa.MSort
open Go.RowKit Go.Proofs.Ytmllkdgdkagkkaa.G Go.Proofs.YtmllkdgdkagkkaaW.PrintWords Go.Proofs.YtmllkdgdkagkkaaW.PrintLast Go.Proofs.Ytmllkdgdkagkkaa.MPure Go.Proofs.Ytmllkdgdkagkkaa.MNote

def ky (l : List NI) (i : Nat) : Int := (atN l i).f0
theorem atN_get {l : List NI} {i : Nat} (h : i < l.length) : atN l i = l[i] := by
  unfold atN
  rw [List.getD_eq_getElem?_getD, List.getElem?_eq_getElem h]
  rfl
/-- r is l with the elements from a up to b in another order. -/
def W (l r : List NI) (a b : Nat) : Prop := r.length = l.length ∧ r.Perm l ∧ (∀ i, i < a ∨ b ≤ i → atN r i = atN l i) ∧ (∀ i, a ≤ i → i < b → ∃ j, a ≤ j ∧ j < b ∧ atN r i = atN l j)
theorem W.refl (l : List NI) (a b : Nat) : W l l a b := ⟨rfl, List.Perm.refl _, fun _ _ => rfl, fun i h1 h2 => ⟨i, h1, h2, rfl⟩⟩
theorem W.trans {l r s : List NI} {a b : Nat} (h : W l r a b) (k : W r s a b) : W l s a b := by
  refine ⟨k.1.trans h.1, k.2.1.trans h.2.1, fun i hi => (k.2.2.1 i hi).trans (h.2.2.1 i hi), fun i h1 h2 => ?_⟩
  obtain ⟨j, j1, j2, e⟩ := k.2.2.2 i h1 h2
  obtain ⟨m, m1, m2, e2⟩ := h.2.2.2 j j1 j2
  exact ⟨m, m1, m2, e.trans e2⟩
theorem W.widen {l r : List NI} {a b a' b' : Nat} (h : W l r a b) (ha : a' ≤ a) (hb : b ≤ b') : W l r a' b' := by
  refine ⟨h.1, h.2.1, fun i hi => h.2.2.1 i (by omega), fun i h1 h2 => ?_⟩
  by_cases hc : a ≤ i ∧ i < b
  · obtain ⟨j, j1, j2, e⟩ := h.2.2.2 i hc.1 hc.2
    exact ⟨j, by omega, by omega, e⟩
  · exact ⟨i, h1, h2, h.2.2.1 i (by omega)⟩
def sw (l : List NI) (i j : Nat) : List NI := (l.set i (atN l j)).set j (atN l i)
theorem atN_set (l : List NI) (i j : Nat) (v : NI) (h : i < l.length) : atN (l.set i v) j = if j = i then v else atN l j := by
  unfold atN
  rw [List.getD_eq_getElem?_getD, List.getElem?_set]
  by_cases e : i = j
  · subst e
    rw [if_pos rfl, if_pos h, if_pos rfl]
    rfl
  · rw [if_neg e, if_neg (fun h => e h.symm), ← List.getD_eq_getElem?_getD]
theorem sw_at (l : List NI) {i j : Nat} (hi : i < l.length) (hj : j < l.length) (t : Nat) : atN (sw l i j) t = if t = j then atN l i else if t = i then atN l j else atN l t := by
  unfold sw
  rw [atN_set _ _ _ _ (by rw [List.length_set]; exact hj), atN_set _ _ _ _ hi]
theorem sw_length (l : List NI) (i j : Nat) : (sw l i j).length = l.length := by simp [sw]
theorem sw_perm (l : List NI) {i j : Nat} (hi : i < l.length) (hj : j < l.length) : (sw l i j).Perm l := by
  unfold sw
  rw [atN_get hi, atN_get hj]
  exact List.set_set_perm hi hj
theorem W.sw (l : List NI) {i j a b : Nat} (hi : i < l.length) (hj : j < l.length) (h1 : a ≤ i) (h2 : i < b) (h3 : a ≤ j) (h4 : j < b) : W l (sw l i j) a b := by
  refine ⟨sw_length l i j, sw_perm l hi hj, fun t ht => ?_, fun t ht1 ht2 => ?_⟩
  · rw [sw_at l hi hj, if_neg (by omega), if_neg (by omega)]
  · rw [sw_at l hi hj]
    by_cases e : t = j
    · rw [if_pos e]; exact ⟨i, h1, h2, rfl⟩
    · rw [if_neg e]
      by_cases e2 : t = i
      · rw [if_pos e2]; exact ⟨j, h3, h4, rfl⟩
      · rw [if_neg e2]; exact ⟨t, ht1, ht2, rfl⟩
/-- Sorted from a up to b. -/
def Srt (l : List NI) (a b : Nat) : Prop := ∀ p q, a ≤ p → p < q → q < b → ky l p ≤ ky l q
theorem Srt.sub {l : List NI} {a b a' b' : Nat} (h : Srt l a b) (ha : a ≤ a') (hb : b' ≤ b) : Srt l a' b' := fun p q h1 h2 h3 => h p q (by omega) h2 (by omega)
theorem Srt.same {l r : List NI} {a b : Nat} (h : Srt l a b) (e : ∀ i, a ≤ i → i < b → atN r i = atN l i) : Srt r a b := by
  intro p q h1 h2 h3
  unfold ky
  rw [e p h1 (by omega), e q (by omega) h3]
  exact h p q h1 h2 h3
def KB (l : List NI) : Prop := (∀ x, x ∈ l → 0 ≤ x.f0 ∧ x.f0 ≤ 99999) ∧ l.length ≤ 4398046511104
theorem KB.perm {l r : List NI} (h : KB l) (p : r.Perm l) : KB r := ⟨fun x hx => h.1 x (p.mem_iff.1 hx), by rw [p.length_eq]; exact h.2⟩
theorem KB.at {l : List NI} (h : KB l) {i : Nat} (hi : i < l.length) : 0 ≤ ky l i ∧ ky l i ≤ 99999 := h.1 _ (atN_mem hi)
theorem cmp_ (x y : NI) (hx : 0 ≤ x.f0 ∧ x.f0 ≤ 99999) (hy : 0 ≤ y.f0 ∧ y.f0 ≤ 99999) : impl_sortedTierLit1.f x.f0 x.f1 x.f2 y.f0 y.f1 y.f2 = some (x.f0 - y.f0) := by
  unfold impl_sortedTierLit1.f
  rw [wrap_in (by omega) (by omega)]

/-! ### insertion -/
def Inv (l : List NI) (a i j : Nat) : Prop := (∀ p q, a ≤ p → p < q → q ≤ i → p ≠ j → q ≠ j → ky l p ≤ ky l q) ∧ (∀ q, j < q → q ≤ i → ky l j ≤ ky l q)
theorem ins (a b : Nat) : ∀ d i : Nat, i + d = b → a ≤ i → ∀ x : List NI, b ≤ x.length → KB x → Srt x a i →
    ∃ r, Ev (fun k => slices_insertionSortCmpFunc_Note.l0 k x (a : Int) (b : Int) (i : Int)) r ∧ W x r a b ∧ Srt r a b := by
  intro d
  induction d with
  | zero =>
    intro i hi ha x hb hk hs
    obtain rfl : i = b := by omega
    exact ⟨x, Ev.step (fun _ => slices_insertionSortCmpFunc_Note.l0.eq_2 ..) (Ev.neg (by omega) (Ev.some rfl)), W.refl _ _ _, hs⟩
  | succ d ih =>
    intro i hi ha x hb hk hs
    have inner : ∀ e j : Nat, j = a + e → j ≤ i → ∀ y : List NI, y.length = x.length → KB y → Inv y a i j → ∃ r, Ev (fun k => slices_insertionSortCmpFunc_Note.l1 k y (a : Int) (b : Int) (i : Int) (j : Int)) r ∧ W y r a b ∧ Srt r a b := by
      intro e
      induction e with
      | zero =>
        intro j hj hji y hy hky hI
        obtain ⟨r, h1, h2, h3⟩ := ih (i + 1) (by omega) (by omega) y (by omega) hky (fun p q p1 p2 p3 => by
          by_cases e1 : p = j
          · subst e1; exact hI.2 q p2 (by omega)
          · exact hI.1 p q p1 p2 (by omega) e1 (by omega))
        have := hky.2
        rw [← wrap_succ (by omega)] at h1
        exact ⟨r, Ev.step (fun _ => slices_insertionSortCmpFunc_Note.l1.eq_2 ..) (Ev.neg (by omega) h1), h2, h3⟩
      | succ e ihe =>
        intro j hj hji y hy hky hI
        have hlen := hky.2
        have hj1 : j < y.length := by omega
        have hj2 : j - 1 < y.length := by omega
        have hw : wrap64 ((j : Int) - 1) = ((j - 1 : Nat) : Int) := wrap_pred (by omega) (by omega)
        have hc := cmp_ (atN y j) (atN y (j - 1)) (hky.at hj1) (hky.at hj2)
        by_cases hlt : ky y j < ky y (j - 1)
        · obtain ⟨r, h1, h2, h3⟩ := ihe (j - 1) (by omega) (by omega) (sw y j (j - 1)) (by rw [sw_length]; exact hy) (hky.perm (sw_perm y hj1 hj2)) (by
            have hv : ∀ t, ky (sw y j (j - 1)) t = if t = j - 1 then ky y j else if t = j then ky y (j - 1) else ky y t := by
              intro t
              unfold ky
              rw [sw_at y hj1 hj2]
              split
              · rfl
              · split <;> rfl
            refine ⟨fun p q p1 p2 p3 p4 p5 => ?_, fun q q1 q2 => ?_⟩
            · rw [hv p, hv q, if_neg p4, if_neg p5]
              by_cases e1 : p = j
              · rw [if_pos e1, if_neg (by omega)]
                exact hI.1 (j - 1) q (by omega) (by omega) p3 (by omega) (by omega)
              · rw [if_neg e1]
                by_cases e2 : q = j
                · rw [if_pos e2]
                  exact hI.1 p (j - 1) p1 (by omega) (by omega) e1 (by omega)
                · rw [if_neg e2]
                  exact hI.1 p q p1 p2 p3 e1 e2
            · rw [hv (j - 1), hv q, if_pos rfl, if_neg (by omega)]
              by_cases e2 : q = j
              · rw [if_pos e2]; omega
              · rw [if_neg e2]
                exact hI.2 q (by omega) q2)
          have hW := W.sw y (a := a) (b := b) hj1 hj2 (by omega) (by omega) (by omega) (by omega)
          refine ⟨r, Ev.step (fun _ => slices_insertionSortCmpFunc_Note.l1.eq_2 ..) (Ev.pos (by omega) (Ev.pos (by omega) (Ev.pos (by omega) ?_))), hW.trans h2, h3⟩
          rw [hw]
          exact Ev.pos (by omega) (Ev.pos (by omega) (Ev.have hc (Ev.pos (by unfold ky at hlt; omega) h1)))
        · obtain ⟨r, h1, h2, h3⟩ := ih (i + 1) (by omega) (by omega) y (by omega) hky (fun p q p1 p2 p3 => by
            by_cases e1 : p = j
            · subst e1; exact hI.2 q p2 (by omega)
            · by_cases e2 : q = j
              · subst e2
                by_cases e3 : p = q - 1
                · subst e3; omega
                · have := hI.1 p (q - 1) p1 (by omega) (by omega) e1 (by omega)
                  omega
              · exact hI.1 p q p1 p2 (by omega) e1 e2)
          rw [← wrap_succ (by omega)] at h1
          refine ⟨r, Ev.step (fun _ => slices_insertionSortCmpFunc_Note.l1.eq_2 ..) (Ev.pos (by omega) (Ev.pos (by omega) (Ev.pos (by omega) ?_))), h2, h3⟩
          rw [hw]
          exact Ev.pos (by omega) (Ev.pos (by omega) (Ev.have hc (Ev.neg (by unfold ky at hlt; omega) h1)))
    obtain ⟨r, h1, h2, h3⟩ := inner (i - a) i (by omega) (Nat.le_refl _) x rfl hk ⟨fun p q p1 p2 p3 p4 p5 => hs p q p1 p2 (by omega), fun q q1 q2 => by omega⟩
    exact ⟨r, Ev.step (fun _ => slices_insertionSortCmpFunc_Note.l0.eq_2 ..) (Ev.pos (by omega) h1), h2, h3⟩
theorem insertion (x : List NI) (a b : Nat) (hab : a ≤ b) (hb : b ≤ x.length) (hk : KB x) : ∃ r, Ev (fun k => slices_insertionSortCmpFunc_Note.f k x (a : Int) (b : Int)) r ∧ W x r a b ∧ Srt r a b := by
  unfold slices_insertionSortCmpFunc_Note.f
  have := hk.2
  rw [wrap_succ (by omega)]
  rcases Nat.eq_or_lt_of_le hab with e | e
  · refine ⟨x, Ev.step (fun _ => slices_insertionSortCmpFunc_Note.l0.eq_2 ..) (Ev.neg (by omega) (Ev.some rfl)), W.refl _ _ _, fun p q h1 h2 h3 => by omega⟩
  · exact ins a b (b - (a + 1)) (a + 1) (by omega) (by omega) x hb hk (fun p q h1 h2 h3 => by omega)

/-! ### rows of swaps, turns -/
theorem wrap_add {a b : Nat} (h : a + b ≤ 4611686018427387904) : wrap64 ((a : Int) + (b : Int)) = ((a + b : Nat) : Int) := by unfold wrap64; omega
theorem wrap_sub {a b : Nat} (h : b ≤ a) (h' : a ≤ 4611686018427387904) : wrap64 ((a : Int) - (b : Int)) = ((a - b : Nat) : Int) := by unfold wrap64; omega
theorem half {a b : Nat} (h : a + b ≤ 4611686018427387904) : wrap64 ((IntKind.u64.wrap (wrap64 ((a : Int) + (b : Int)))) / 2) = (((a + b) / 2 : Nat) : Int) := by
  rw [wrap_add h]
  have : IntKind.u64.wrap ((a + b : Nat) : Int) = ((a + b : Nat) : Int) := by
    show ((a + b : Nat) : Int) % 2 ^ 64 = _
    omega
  rw [this]
  unfold wrap64
  omega
theorem swapRange (x : List NI) (a b n : Nat) (hab : a + n ≤ b) (hb : b + n ≤ x.length) (hl : x.length ≤ 4398046511104) :
    ∃ r, Ev (fun k => slices_swapRangeCmpFunc_Note.f k x (a : Int) (b : Int) (n : Int)) r ∧ r.length = x.length ∧ r.Perm x ∧ (∀ t, t < n → atN r (a + t) = atN x (b + t) ∧ atN r (b + t) = atN x (a + t)) ∧ (∀ t, t < a ∨ a + n ≤ t → t < b ∨ b + n ≤ t → atN r t = atN x t) := by
  have key : ∀ d i : Nat, i + d = n → ∀ y : List NI, y.length = x.length → y.Perm x → (∀ t, t < i → atN y (a + t) = atN x (b + t) ∧ atN y (b + t) = atN x (a + t)) → (∀ t, t < a ∨ a + i ≤ t → t < b ∨ b + i ≤ t → atN y t = atN x t) →
      ∃ r, Ev (fun k => slices_swapRangeCmpFunc_Note.l0 k y (a : Int) (b : Int) (n : Int) (i : Int)) r ∧ r.length = x.length ∧ r.Perm x ∧ (∀ t, t < n → atN r (a + t) = atN x (b + t) ∧ atN r (b + t) = atN x (a + t)) ∧ (∀ t, t < a ∨ a + n ≤ t → t < b ∨ b + n ≤ t → atN r t = atN x t) := by
    intro d
    induction d with
    | zero =>
      intro i hi y hy hp h1 h2
      obtain rfl : i = n := by omega
      exact ⟨y, Ev.step (fun _ => slices_swapRangeCmpFunc_Note.l0.eq_2 ..) (Ev.neg (by omega) (Ev.some rfl)), hy, hp, h1, h2⟩
    | succ d ih =>
      intro i hi y hy hp h1 h2
      have ha' : a + i < y.length := by omega
      have hb' : b + i < y.length := by omega
      obtain ⟨r, g1, g2, g3, g4, g5⟩ := ih (i + 1) (by omega) (sw y (a + i) (b + i)) (by rw [sw_length]; exact hy) ((sw_perm y ha' hb').trans hp) (fun t ht => by
        rw [sw_at y ha' hb', sw_at y ha' hb', if_neg (by omega)]
        by_cases e : t = i
        · subst e
          rw [if_pos rfl, if_pos rfl, h2 (b + t) (by omega) (by omega), h2 (a + t) (by omega) (by omega)]
          exact ⟨rfl, rfl⟩
        · rw [if_neg (by omega), if_neg (by omega), if_neg (by omega)]
          exact h1 t (by omega)) (fun t t1 t2 => by
        rw [sw_at y ha' hb', if_neg (by omega), if_neg (by omega)]
        exact h2 t (by omega) (by omega))
      rw [← wrap_succ (by omega)] at g1
      refine ⟨r, Ev.step (fun _ => slices_swapRangeCmpFunc_Note.l0.eq_2 ..) (Ev.pos (by omega) ?_), g2, g3, g4, g5⟩
      rw [wrap_add (a := b) (b := i) (by omega), wrap_add (a := a) (b := i) (by omega)]
      exact Ev.pos (by omega) (Ev.pos (by omega) (Ev.pos (by omega) (Ev.pos (by omega) g1)))
  exact key n 0 (by omega) x rfl (List.Perm.refl _) (fun t ht => absurd ht (Nat.not_lt_zero _)) (fun t _ _ => rfl)
theorem rot : ∀ N i j : Nat, i + j ≤ N → 0 < i → 0 < j → ∀ (x : List NI) (m : Nat), i ≤ m → m + j ≤ x.length → x.length ≤ 4398046511104 →
    ∃ r, Ev (fun k => slices_rotateCmpFunc_Note.l0 k x (m : Int) (i : Int) (j : Int)) r ∧ r.length = x.length ∧ r.Perm x ∧ (∀ t, t < j → atN r (m - i + t) = atN x (m + t)) ∧ (∀ t, t < i → atN r (m - i + j + t) = atN x (m - i + t)) ∧ (∀ t, t < m - i ∨ m + j ≤ t → atN r t = atN x t) := by
  intro N
  induction N with
  | zero => intro i j h hi; omega
  | succ N ih =>
    intro i j hN hi hj x m him hmj hl
    have e0 : wrap64 ((m : Int) - (i : Int)) = ((m - i : Nat) : Int) := wrap_sub him (by omega)
    rcases Nat.lt_trichotomy i j with h | h | h
    · obtain ⟨y, y1, y2, y3, y4, y5⟩ := swapRange x (m - i) (m + j - i) i (by omega) (by omega) hl
      obtain ⟨r, r1, r2, r3, r4, r5, r6⟩ := ih i (j - i) (by omega) hi (by omega) y m him (by omega) (by omega)
      refine ⟨r, Ev.step (fun _ => slices_rotateCmpFunc_Note.l0.eq_2 ..) (Ev.neg (by omega) (Ev.neg (by omega) ?_)), r2.trans y2, r3.trans y3, fun t ht => ?_, fun t ht => ?_, fun t ht => ?_⟩
      · rw [e0, wrap_add (a := m) (b := j) (by omega), wrap_sub (a := m + j) (b := i) (by omega) (by omega), wrap_sub (a := j) (b := i) (by omega) (by omega)]
        exact Ev.bind y1 r1
      · by_cases c : t < j - i
        · rw [r4 t c, y5 (m + t) (by omega) (by omega)]
        · have h1 := r6 (m - i + t)
          have h2 := r5 (t - (j - i)) (by omega)
          have h3 := (y4 (t - (j - i)) (by omega)).1
          rw [show m - i + (j - i) + (t - (j - i)) = m - i + t by omega] at h2
          rw [h2, h3]
          congr 1
          omega
      · have h1 := r6 (m - i + j + t) (by omega)
        have h2 := (y4 t ht).2
        rw [h1, show m - i + j + t = m + j - i + t by omega, h2]
      · rw [r6 t (by omega), y5 t (by omega) (by omega)]
    · subst h
      obtain ⟨y, y1, y2, y3, y4, y5⟩ := swapRange x (m - i) m i (by omega) (by omega) hl
      refine ⟨y, Ev.step (fun _ => slices_rotateCmpFunc_Note.l0.eq_2 ..) (Ev.pos rfl ?_), y2, y3, fun t ht => (y4 t ht).1, fun t ht => ?_, fun t ht => y5 t (by omega) (by omega)⟩
      · rw [e0]
        exact Ev.bind y1 (Ev.some rfl)
      · rw [show m - i + i + t = m + t by omega]
        exact (y4 t ht).2
    · obtain ⟨y, y1, y2, y3, y4, y5⟩ := swapRange x (m - i) m j (by omega) (by omega) hl
      obtain ⟨r, r1, r2, r3, r4, r5, r6⟩ := ih (i - j) j (by omega) (by omega) hj y m (by omega) (by omega) (by omega)
      refine ⟨r, Ev.step (fun _ => slices_rotateCmpFunc_Note.l0.eq_2 ..) (Ev.neg (by omega) (Ev.pos (by omega) ?_)), r2.trans y2, r3.trans y3, fun t ht => ?_, fun t ht => ?_, fun t ht => ?_⟩
      · rw [e0, wrap_sub (a := i) (b := j) (by omega) (by omega)]
        exact Ev.bind y1 r1
      · rw [r6 (m - i + t) (by omega), (y4 t ht).1]
      · by_cases c : t < j
        · have h1 := r4 t c
          rw [show m - (i - j) + t = m - i + j + t by omega] at h1
          rw [h1, (y4 t c).2]
        · have h1 := r5 (t - j) (by omega)
          rw [show m - (i - j) + j + (t - j) = m - i + j + t by omega] at h1
          rw [h1, y5 (m - (i - j) + (t - j)) (by omega) (by omega)]
          congr 1
          omega
      · rw [r6 t (by omega), y5 t (by omega) (by omega)]
theorem rotate (x : List NI) (a m b : Nat) (h1 : a < m) (h2 : m < b) (hb : b ≤ x.length) (hl : x.length ≤ 4398046511104) :
    ∃ r, Ev (fun k => slices_rotateCmpFunc_Note.f k x (a : Int) (m : Int) (b : Int)) r ∧ r.length = x.length ∧ r.Perm x ∧ (∀ t, t < b - m → atN r (a + t) = atN x (m + t)) ∧ (∀ t, t < m - a → atN r (a + (b - m) + t) = atN x (a + t)) ∧ (∀ t, t < a ∨ b ≤ t → atN r t = atN x t) := by
  obtain ⟨r, r1, r2, r3, r4, r5, r6⟩ := rot (m - a + (b - m)) (m - a) (b - m) (Nat.le_refl _) (by omega) (by omega) x m (by omega) (by omega) hl
  unfold slices_rotateCmpFunc_Note.f
  rw [wrap_sub (by omega) (by omega), wrap_sub (by omega) (by omega)]
  have e : m - (m - a) = a := by omega
  rw [e] at r4 r5 r6
  exact ⟨r, r1, r2, r3, r4, r5, fun t ht => r6 t (by omega)⟩

/-! ### one element brought to its place -/
/-- What the walk up comes to. -/
theorem up (x : List NI) (a s b : Nat) (h1 : a < s) (hs : s ≤ b) (hb : b ≤ x.length) (hl : x.length ≤ 4398046511104) :
    ∃ r, Ev (fun k => slices_symMergeCmpFunc_Note.l1 k x (s : Int) (a : Int)) r ∧ W x r a b ∧ (∀ t, a ≤ t → t < s - 1 → atN r t = atN x (t + 1)) ∧ atN r (s - 1) = atN x a ∧ (∀ t, t < a ∨ s ≤ t → atN r t = atN x t) := by
  have key : ∀ d k : Nat, k + d = s - 1 → a ≤ k → ∀ y : List NI, W x y a b → (∀ t, a ≤ t → t < k → atN y t = atN x (t + 1)) → atN y k = atN x a → (∀ t, t < a ∨ k < t → atN y t = atN x t) →
      ∃ r, Ev (fun n => slices_symMergeCmpFunc_Note.l1 n y (s : Int) (k : Int)) r ∧ W x r a b ∧ (∀ t, a ≤ t → t < s - 1 → atN r t = atN x (t + 1)) ∧ atN r (s - 1) = atN x a ∧ (∀ t, t < a ∨ s ≤ t → atN r t = atN x t) := by
    intro d
    induction d with
    | zero =>
      intro k hk hak y hW g1 g2 g3
      obtain rfl : k = s - 1 := by omega
      refine ⟨y, Ev.step (fun _ => slices_symMergeCmpFunc_Note.l1.eq_2 ..) (Ev.neg ?_ (Ev.some rfl)), hW, g1, g2, fun t ht => g3 t (by omega)⟩
      rw [wrap_pred (by omega) (by omega)]
      omega
    | succ d ih =>
      intro k hk hak y hW g1 g2 g3
      have hy := hW.1
      have k1 : k < y.length := by omega
      have k2 : k + 1 < y.length := by omega
      obtain ⟨r, r1, r2⟩ := ih (k + 1) (by omega) (by omega) (sw y k (k + 1)) (hW.trans (W.sw y k1 k2 hak (by omega) (by omega) (by omega))) (fun t t1 t2 => by
        rw [sw_at y k1 k2, if_neg (by omega)]
        by_cases e : t = k
        · subst e; rw [if_pos rfl]; exact g3 (t + 1) (by omega)
        · rw [if_neg e]; exact g1 t t1 (by omega)) (by rw [sw_at y k1 k2, if_pos rfl]; exact g2) (fun t ht => by
        rw [sw_at y k1 k2, if_neg (by omega), if_neg (by omega)]; exact g3 t (by omega))
      rw [← wrap_succ (by omega)] at r1
      refine ⟨r, Ev.step (fun _ => slices_symMergeCmpFunc_Note.l1.eq_2 ..) (Ev.pos (by rw [wrap_pred (by omega) (by omega)]; omega) ?_), r2⟩
      rw [wrap_succ (i := k) (by omega)]
      rw [wrap_succ (i := k) (by omega)] at r1
      exact Ev.pos (by omega) (Ev.pos (by omega) (Ev.pos (by omega) (Ev.pos (by omega) r1)))
  exact key (s - 1 - a) a (by omega) (Nat.le_refl _) x (W.refl _ _ _) (fun t t1 t2 => by omega) rfl (fun t _ => rfl)
/-- What the walk down comes to. -/
theorem down (x : List NI) (a s m b : Nat) (ha : a ≤ s) (h1 : s ≤ m) (hs : m < b) (hb : b ≤ x.length) (hl : x.length ≤ 4398046511104) :
    ∃ r, Ev (fun k => slices_symMergeCmpFunc_Note.l3 k x (s : Int) (m : Int)) r ∧ W x r a b ∧ (∀ t, s < t → t ≤ m → atN r t = atN x (t - 1)) ∧ atN r s = atN x m ∧ (∀ t, t < s ∨ m < t → atN r t = atN x t) := by
  have key : ∀ d k : Nat, k = s + d → k ≤ m → ∀ y : List NI, W x y a b → (∀ t, k < t → t ≤ m → atN y t = atN x (t - 1)) → atN y k = atN x m → (∀ t, t < k ∨ m < t → atN y t = atN x t) →
      ∃ r, Ev (fun n => slices_symMergeCmpFunc_Note.l3 n y (s : Int) (k : Int)) r ∧ W x r a b ∧ (∀ t, s < t → t ≤ m → atN r t = atN x (t - 1)) ∧ atN r s = atN x m ∧ (∀ t, t < s ∨ m < t → atN r t = atN x t) := by
    intro d
    induction d with
    | zero =>
      intro k hk hak y hW g1 g2 g3
      obtain rfl : k = s := by omega
      exact ⟨y, Ev.step (fun _ => slices_symMergeCmpFunc_Note.l3.eq_2 ..) (Ev.neg (by omega) (Ev.some rfl)), hW, g1, g2, g3⟩
    | succ d ih =>
      intro k hk hak y hW g1 g2 g3
      have hy := hW.1
      have k1 : k < y.length := by omega
      have k2 : k - 1 < y.length := by omega
      obtain ⟨r, r1, r2⟩ := ih (k - 1) (by omega) (by omega) (sw y k (k - 1)) (hW.trans (W.sw y k1 k2 (by omega) (by omega) (by omega) (by omega))) (fun t t1 t2 => by
        rw [sw_at y k1 k2, if_neg (by omega)]
        by_cases e : t = k
        · subst e; rw [if_pos rfl]; exact g3 (t - 1) (by omega)
        · rw [if_neg e]; exact g1 t (by omega) t2) (by rw [sw_at y k1 k2, if_pos rfl]; exact g2) (fun t ht => by
        rw [sw_at y k1 k2, if_neg (by omega), if_neg (by omega)]; exact g3 t (by omega))
      refine ⟨r, Ev.step (fun _ => slices_symMergeCmpFunc_Note.l3.eq_2 ..) (Ev.pos (by omega) ?_), r2⟩
      rw [wrap_pred (i := k) (by omega) (by omega)]
      exact Ev.pos (by omega) (Ev.pos (by omega) (Ev.pos (by omega) (Ev.pos (by omega) r1)))
  exact key (m - s) m (by omega) (Nat.le_refl _) x (W.refl _ _ _) (fun t t1 t2 => by omega) rfl (fun t _ => rfl)
theorem first (x : List NI) (a b : Nat) (hab : a + 1 < b) (hb : b ≤ x.length) (hk : KB x) (hS : Srt x (a + 1) b) :
    ∃ r, Ev (fun k => slices_symMergeCmpFunc_Note.l0 k x (a : Int) ((a + 1 : Nat) : Int) (b : Int)) r ∧ W x r a b ∧ Srt r a b := by
  have hl := hk.2
  have key : ∀ N i j : Nat, j - i ≤ N → a + 1 ≤ i → i ≤ j → j ≤ b → (∀ q, a + 1 ≤ q → q < i → ky x q < ky x a) → (∀ q, j ≤ q → q < b → ky x a ≤ ky x q) →
      ∃ r, Ev (fun k => slices_symMergeCmpFunc_Note.l0 k x (a : Int) (i : Int) (j : Int)) r ∧ W x r a b ∧ Srt r a b := by
    intro N
    induction N with
    | zero =>
      intro i j h1 h2 h3 h4 g1 g2
      obtain rfl : i = j := by omega
      obtain ⟨r, r1, r2, r3, r4, r5⟩ := up x a i b (by omega) h4 hb hl
      refine ⟨r, Ev.step (fun _ => slices_symMergeCmpFunc_Note.l0.eq_2 ..) (Ev.neg (by omega) r1), r2, fun p q p1 p2 p3 => ?_⟩
      have hv : ∀ t, a ≤ t → ky r t = if t < i - 1 then ky x (t + 1) else if t = i - 1 then ky x a else ky x t := by
        intro t ht
        unfold ky
        split
        · rw [r3 t ht (by assumption)]
        · split
          · next e => subst e; rw [r4]
          · rw [r5 t (by omega)]
      rw [hv p p1, hv q (by omega)]
      by_cases e1 : p < i - 1
      · rw [if_pos e1]
        by_cases e2 : q < i - 1
        · rw [if_pos e2]; exact hS (p + 1) (q + 1) (by omega) (by omega) (by omega)
        · rw [if_neg e2]
          by_cases e3 : q = i - 1
          · rw [if_pos e3]; have := g1 (p + 1) (by omega) (by omega); omega
          · rw [if_neg e3]; exact hS (p + 1) q (by omega) (by omega) p3
      · rw [if_neg e1, if_neg (show ¬ q < i - 1 by omega), if_neg (show ¬ q = i - 1 by omega)]
        by_cases e3 : p = i - 1
        · rw [if_pos e3]; exact g2 q (by omega) p3
        · rw [if_neg e3]; exact hS p q (by omega) p2 p3
    | succ N ih =>
      intro i j h1 h2 h3 h4 g1 g2
      by_cases hij : i < j
      · have c1 : (i + j) / 2 < x.length := by omega
        have hc := cmp_ (atN x ((i + j) / 2)) (atN x a) (hk.at c1) (hk.at (by omega))
        by_cases hlt : ky x ((i + j) / 2) < ky x a
        · obtain ⟨r, r1, r2⟩ := ih ((i + j) / 2 + 1) j (by omega) (by omega) (by omega) h4 (fun q q1 q2 => by
            by_cases e : q = (i + j) / 2
            · subst e; exact hlt
            · have := hS q ((i + j) / 2) q1 (by omega) (by omega); omega) g2
          refine ⟨r, Ev.step (fun _ => slices_symMergeCmpFunc_Note.l0.eq_2 ..) (Ev.pos (by omega) ?_), r2⟩
          rw [half (by omega)]
          rw [← wrap_succ (by omega)] at r1
          exact Ev.pos (by omega) (Ev.pos (by omega) (Ev.pos (by omega) (Ev.pos (by omega) (Ev.have hc (Ev.pos (by unfold ky at hlt; omega) r1)))))
        · obtain ⟨r, r1, r2⟩ := ih i ((i + j) / 2) (by omega) h2 (by omega) (by omega) g1 (fun q q1 q2 => by
            by_cases e : q = (i + j) / 2
            · subst e; omega
            · have := hS ((i + j) / 2) q (by omega) (by omega) q2; omega)
          refine ⟨r, Ev.step (fun _ => slices_symMergeCmpFunc_Note.l0.eq_2 ..) (Ev.pos (by omega) ?_), r2⟩
          rw [half (by omega)]
          exact Ev.pos (by omega) (Ev.pos (by omega) (Ev.pos (by omega) (Ev.pos (by omega) (Ev.have hc (Ev.neg (by unfold ky at hlt; omega) r1)))))
      · exact (by
          obtain rfl : i = j := by omega
          exact ih i i (by omega) h2 (Nat.le_refl _) h4 g1 g2)
  exact key (b - (a + 1)) (a + 1) b (by omega) (Nat.le_refl _) (by omega) (Nat.le_refl _) (fun q q1 q2 => by omega) (fun q q1 q2 => by omega)
theorem last (x : List NI) (a m : Nat) (ham : a < m) (hb : m + 1 ≤ x.length) (hk : KB x) (hS : Srt x a m) :
    ∃ r, Ev (fun k => slices_symMergeCmpFunc_Note.l2 k x (m : Int) (a : Int) (m : Int)) r ∧ W x r a (m + 1) ∧ Srt r a (m + 1) := by
  have hl := hk.2
  have key : ∀ N i j : Nat, j - i ≤ N → a ≤ i → i ≤ j → j ≤ m → (∀ q, a ≤ q → q < i → ky x q ≤ ky x m) → (∀ q, j ≤ q → q < m → ky x m < ky x q) →
      ∃ r, Ev (fun k => slices_symMergeCmpFunc_Note.l2 k x (m : Int) (i : Int) (j : Int)) r ∧ W x r a (m + 1) ∧ Srt r a (m + 1) := by
    intro N
    induction N with
    | zero =>
      intro i j h1 h2 h3 h4 g1 g2
      obtain rfl : i = j := by omega
      obtain ⟨r, r1, r2, r3, r4, r5⟩ := down x a i m (m + 1) h2 h4 (by omega) hb hl
      refine ⟨r, Ev.step (fun _ => slices_symMergeCmpFunc_Note.l2.eq_2 ..) (Ev.neg (by omega) r1), r2, fun p q p1 p2 p3 => ?_⟩
      have hv : ∀ t, t ≤ m → ky r t = if t < i then ky x t else if t = i then ky x m else ky x (t - 1) := by
        intro t ht
        unfold ky
        split
        · rw [r5 t (by omega)]
        · split
          · next e => subst e; rw [r4]
          · rw [r3 t (by omega) ht]
      rw [hv p (by omega), hv q (by omega)]
      by_cases e1 : p < i
      · rw [if_pos e1]
        by_cases e2 : q < i
        · rw [if_pos e2]; exact hS p q p1 p2 (by omega)
        · rw [if_neg e2]
          by_cases e3 : q = i
          · rw [if_pos e3]; exact g1 p p1 e1
          · rw [if_neg e3]
            by_cases e4 : p = q - 1
            · omega
            · exact hS p (q - 1) p1 (by omega) (by omega)
      · rw [if_neg e1, if_neg (show ¬ q < i by omega), if_neg (show ¬ q = i by omega)]
        by_cases e3 : p = i
        · rw [if_pos e3]; have := g2 (q - 1) (by omega) (by omega); omega
        · rw [if_neg e3]; exact hS (p - 1) (q - 1) (by omega) (by omega) (by omega)
    | succ N ih =>
      intro i j h1 h2 h3 h4 g1 g2
      by_cases hij : i < j
      · have c1 : (i + j) / 2 < x.length := by omega
        have hc := cmp_ (atN x m) (atN x ((i + j) / 2)) (hk.at (by omega)) (hk.at c1)
        by_cases hlt : ky x m < ky x ((i + j) / 2)
        · obtain ⟨r, r1, r2⟩ := ih i ((i + j) / 2) (by omega) h2 (by omega) (by omega) g1 (fun q q1 q2 => by
            by_cases e : q = (i + j) / 2
            · subst e; exact hlt
            · have := hS ((i + j) / 2) q (by omega) (by omega) q2; omega)
          refine ⟨r, Ev.step (fun _ => slices_symMergeCmpFunc_Note.l2.eq_2 ..) (Ev.pos (by omega) (Ev.pos (by omega) (Ev.pos (by omega) ?_))), r2⟩
          rw [half (by omega)]
          exact Ev.pos (by omega) (Ev.pos (by omega) (Ev.have hc (Ev.pos (by unfold ky at hlt; omega) r1)))
        · obtain ⟨r, r1, r2⟩ := ih ((i + j) / 2 + 1) j (by omega) (by omega) (by omega) h4 (fun q q1 q2 => by
            by_cases e : q = (i + j) / 2
            · subst e; omega
            · have := hS q ((i + j) / 2) q1 (by omega) (by omega); omega) g2
          refine ⟨r, Ev.step (fun _ => slices_symMergeCmpFunc_Note.l2.eq_2 ..) (Ev.pos (by omega) (Ev.pos (by omega) (Ev.pos (by omega) ?_))), r2⟩
          rw [half (by omega)]
          rw [← wrap_succ (by omega)] at r1
          exact Ev.pos (by omega) (Ev.pos (by omega) (Ev.have hc (Ev.neg (by unfold ky at hlt; omega) r1)))
      · obtain rfl : i = j := by omega
        exact ih i i (by omega) h2 (Nat.le_refl _) h4 g1 g2
  exact key (m - a) a m (by omega) (Nat.le_refl _) (by omega) (Nat.le_refl _) (fun q q1 q2 => by omega) (fun q q1 q2 => by omega)

end Go.Proofs.Ytmllkdgdkagkkaa.MSort
end
section
/- Two sorted rows that lie side by side become one, as the library's stable sort does it. -/
namespace Go.Proofs.Ytmllkdgdkagkkaa.MMerge
open Go.RowKit Go.Proofs.Ytmllkdgdkagkkaa.G Go.Proofs.YtmllkdgdkagkkaaW.PrintWords Go.Proofs.YtmllkdgdkagkkaaW.PrintLast Go.Proofs.Ytmllkdgdkagkkaa.MPure Go.Proofs.Ytmllkdgdkagkkaa.MNote Go.Proofs.Ytmllkdgdkagkkaa.MSort

/-- What the turn leaves: both halves sorted in their two parts, nothing on the left greater than anything on the right. -/
theorem halves (x y : List NI) (a m b mid s e s0 r0 : Nat) (hmid : (a + b) / 2 = mid) (h1 : a < m) (h2 : m < b) (hS1 : Srt x a m) (hS2 : Srt x m b)
    (hcase : m ≤ mid ∧ s0 = a ∧ r0 = m ∨ mid < m ∧ s0 = mid + m - b ∧ r0 = mid) (g1 : s0 ≤ s) (g2 : s ≤ r0) (he : mid + m - s = e)
    (g3 : s0 < s → ky x (s - 1) ≤ ky x e) (g4 : s < r0 → ky x (e - 1) < ky x s)
    (y1 : y.length = x.length) (y2 : y.Perm x) (y3 : ∀ t, t < e - m → atN y (s + t) = atN x (m + t)) (y4 : ∀ t, t < m - s → atN y (mid + t) = atN x (s + t)) (y5 : ∀ t, t < s ∨ e ≤ t → atN y t = atN x t) :
    Srt y a s ∧ Srt y s mid ∧ Srt y mid e ∧ Srt y e b ∧ (∀ p q, a ≤ p → p < mid → mid ≤ q → q < b → ky y p ≤ ky y q) ∧ W x y a b := by
  have k1 : a ≤ s := by omega
  have k2 : s ≤ m := by omega
  have k3 : s ≤ mid := by omega
  have k4 : m ≤ e := by omega
  have k5 : mid ≤ e := by omega
  have k6 : e ≤ b := by omega
  have k7 : mid = s + (e - m) := by omega
  have k8 : e = mid + (m - s) := by omega
  have p1 : ∀ t, s ≤ t → t < mid → ky y t = ky x (m + (t - s)) := by
    intro t t1 t2
    have := y3 (t - s) (by omega)
    unfold ky
    rw [show s + (t - s) = t by omega] at this
    rw [this]
  have p2 : ∀ t, mid ≤ t → t < e → ky y t = ky x (s + (t - mid)) := by
    intro t t1 t2
    have := y4 (t - mid) (by omega)
    unfold ky
    rw [show mid + (t - mid) = t by omega] at this
    rw [this]
  have p3 : ∀ t, t < s ∨ e ≤ t → ky y t = ky x t := by
    intro t ht
    unfold ky
    rw [y5 t ht]
  refine ⟨?_, ?_, ?_, ?_, ?_, ?_⟩
  · intro p q z1 z2 z3
    rw [p3 p (Or.inl (by omega)), p3 q (Or.inl z3)]
    exact hS1 p q z1 z2 (by omega)
  · intro p q z1 z2 z3
    rw [p1 p z1 (by omega), p1 q (by omega) z3]
    exact hS2 _ _ (by omega) (by omega) (by omega)
  · intro p q z1 z2 z3
    rw [p2 p z1 (by omega), p2 q (by omega) z3]
    exact hS1 _ _ (by omega) (by omega) (by omega)
  · intro p q z1 z2 z3
    rw [p3 p (Or.inr z1), p3 q (Or.inr (by omega))]
    exact hS2 p q (by omega) z2 z3
  · intro p q z1 z2 z3 z4
    by_cases cp : p < s
    · rw [p3 p (Or.inl cp)]
      by_cases cq : q < e
      · rw [p2 q z3 cq]; exact hS1 _ _ z1 (by omega) (by omega)
      · rw [p3 q (Or.inr (by omega))]
        have w1 : ky x p ≤ ky x (s - 1) := by
          by_cases e0 : p = s - 1
          · rw [e0]; exact Int.le_refl _
          · exact hS1 _ _ z1 (by omega) (by omega)
        have w2 := g3 (by omega)
        have w3 : ky x e ≤ ky x q := by
          by_cases e0 : q = e
          · rw [e0]; exact Int.le_refl _
          · exact hS2 _ _ (by omega) (by omega) z4
        exact Int.le_trans w1 (Int.le_trans w2 w3)
    · rw [p1 p (by omega) z2]
      by_cases cq : q < e
      · rw [p2 q z3 cq]
        have w1 : ky x (m + (p - s)) ≤ ky x (e - 1) := by
          by_cases e0 : m + (p - s) = e - 1
          · rw [e0]; exact Int.le_refl _
          · exact hS2 _ _ (by omega) (by omega) (by omega)
        have w2 := g4 (by omega)
        have w3 : ky x s ≤ ky x (s + (q - mid)) := by
          by_cases e0 : q = mid
          · rw [e0, Nat.sub_self]; exact Int.le_refl _
          · exact hS1 _ _ (by omega) (by omega) (by omega)
        exact Int.le_trans w1 (Int.le_trans (Int.le_of_lt w2) w3)
      · rw [p3 q (Or.inr (by omega))]
        exact hS2 _ _ (by omega) (by omega) z4
  · refine ⟨y1, y2, fun t ht => y5 t (by omega), fun t t1 t2 => ?_⟩
    by_cases cp : t < s ∨ e ≤ t
    · exact ⟨t, t1, t2, y5 t cp⟩
    · by_cases cm : t < mid
      · have := y3 (t - s) (by omega)
        rw [show s + (t - s) = t by omega] at this
        exact ⟨m + (t - s), by omega, by omega, this⟩
      · have := y4 (t - mid) (by omega)
        rw [show mid + (t - mid) = t by omega] at this
        exact ⟨s + (t - mid), by omega, by omega, this⟩

def Merges (N : Nat) : Prop := ∀ a m b : Nat, b - a ≤ N → a < m → m < b → ∀ x : List NI, b ≤ x.length → KB x → Srt x a m → Srt x m b →
    ∃ r, Ev (fun k => slices_symMergeCmpFunc_Note.f k x (a : Int) (m : Int) (b : Int)) r ∧ W x r a b ∧ Srt r a b
theorem right {N : Nat} (ih : Merges N) (y : List NI) (mid e b : Nat) (hN : b - mid ≤ N) (h1 : mid ≤ e) (h2 : e ≤ b) (hb : b ≤ y.length) (hk : KB y) (S3 : Srt y mid e) (S4 : Srt y e b) :
    ∃ r, Ev (fun k => if (mid : Int) < (e : Int) then (if (e : Int) < (b : Int) then ((slices_symMergeCmpFunc_Note.f k y (mid : Int) (e : Int) (b : Int)).bind fun t120 => some t120) else some y) else some y) r ∧ W y r mid b ∧ Srt r mid b := by
  by_cases d1 : mid < e
  · by_cases d2 : e < b
    · obtain ⟨r, r1, r2, r3⟩ := ih mid e b hN d1 d2 y hb hk S3 S4
      exact ⟨r, Ev.pos (by omega) (Ev.pos (by omega) (Ev.bind r1 (Ev.some rfl))), r2, r3⟩
    · exact ⟨y, Ev.pos (by omega) (Ev.neg (by omega) (Ev.some rfl)), W.refl _ _ _, fun p q w1 w2 w3 => S3 p q w1 w2 (by omega)⟩
  · exact ⟨y, Ev.neg (by omega) (Ev.some rfl), W.refl _ _ _, fun p q w1 w2 w3 => S4 p q (by omega) w2 w3⟩
theorem both (x y y' r : List NI) (a mid b : Nat) (h1 : a ≤ mid) (h2 : mid ≤ b) (hWy : W x y a b) (cross : ∀ p q, a ≤ p → p < mid → mid ≤ q → q < b → ky y p ≤ ky y q) (w1 : W y y' a mid) (w2 : Srt y' a mid) (w3 : W y' r mid b) (w4 : Srt r mid b) : W x r a b ∧ Srt r a b := by
  refine ⟨hWy.trans ((w1.widen (Nat.le_refl _) h2).trans (w3.widen h1 (Nat.le_refl _))), fun p q z1 z2 z3 => ?_⟩
  by_cases cq : q < mid
  · unfold ky
    rw [w3.2.2.1 p (Or.inl (by omega)), w3.2.2.1 q (Or.inl cq)]
    exact w2 p q z1 z2 cq
  · by_cases cp : p < mid
    · obtain ⟨p', u1, u2, u3⟩ := w1.2.2.2 p z1 cp
      obtain ⟨q', v1, v2, v3⟩ := w3.2.2.2 q (by omega) z3
      unfold ky
      rw [w3.2.2.1 p (Or.inl cp), u3, v3, w1.2.2.1 q' (Or.inr v1)]
      exact cross p' q' u1 u2 v1 v2
    · exact w4 p q (by omega) z2 z3
theorem rest {N : Nat} (ih : Merges N) (x y : List NI) (a mid s e b : Nat) (hN1 : mid - a ≤ N) (hN2 : b - mid ≤ N) (k1 : a ≤ s) (k3 : s ≤ mid) (k5 : mid ≤ e) (k6 : e ≤ b) (k0 : a ≤ mid) (hb : b ≤ y.length) (hky : KB y)
    (S1 : Srt y a s) (S2 : Srt y s mid) (S3 : Srt y mid e) (S4 : Srt y e b) (cross : ∀ p q, a ≤ p → p < mid → mid ≤ q → q < b → ky y p ≤ ky y q) (hWy : W x y a b) :
    ∃ r, Ev (fun k => slices_symMergeCmpFunc_Note.j7 k y (a : Int) (b : Int) (mid : Int) (s : Int) (e : Int)) r ∧ W x r a b ∧ Srt r a b := by
  by_cases d : a < s ∧ s < mid
  · obtain ⟨y', u1, u2, u3⟩ := ih a s mid hN1 d.1 d.2 y (by omega) hky S1 S2
    obtain ⟨r, v1, v2, v3⟩ := right ih y' mid e b hN2 k5 k6 (by rw [u2.1]; exact hb) (hky.perm u2.2.1) (S3.same (fun i i1 i2 => u2.2.2.1 i (Or.inr i1))) (S4.same (fun i i1 i2 => u2.2.2.1 i (Or.inr (by omega))))
    exact ⟨r, Ev.step (fun _ => slices_symMergeCmpFunc_Note.j7.eq_2 ..) (Ev.pos (by omega) (Ev.step (fun _ => slices_symMergeCmpFunc_Note.j8.eq_2 ..) (Ev.pos (decide_eq_true (by omega)) (Ev.bind u1 v1)))), both x y y' r a mid b k0 (by omega) hWy cross u2 u3 v2 v3⟩
  · have hS : Srt y a mid := fun p q z1 z2 z3 => by
      by_cases e0 : s = a
      · exact S2 p q (by omega) z2 z3
      · exact S1 p q z1 z2 (by omega)
    obtain ⟨r, v1, v2, v3⟩ := right ih y mid e b hN2 k5 k6 hb hky S3 S4
    refine ⟨r, Ev.step (fun _ => slices_symMergeCmpFunc_Note.j7.eq_2 ..) (Ev.ite (fun d1 => ?_) (fun d1 => ?_)), both x y y r a mid b k0 (by omega) hWy cross (W.refl _ _ _) hS v2 v3⟩
    · refine Ev.step (fun _ => slices_symMergeCmpFunc_Note.j8.eq_2 ..) (Ev.neg ?_ v1)
      simp only [decide_eq_true_eq]
      omega
    · exact Ev.step (fun _ => slices_symMergeCmpFunc_Note.j8.eq_2 ..) (Ev.neg (by simp) v1)
theorem fin {N : Nat} (ih : Merges N) (x : List NI) (a m b mid s0 r0 s e : Nat) (hN1 : mid - a ≤ N) (hN2 : b - mid ≤ N) (hmid : (a + b) / 2 = mid) (h1 : a < m) (h2 : m < b) (hb : b ≤ x.length) (hk : KB x) (hS1 : Srt x a m) (hS2 : Srt x m b)
    (hcase : m ≤ mid ∧ s0 = a ∧ r0 = m ∨ mid < m ∧ s0 = mid + m - b ∧ r0 = mid) (g1 : s0 ≤ s) (g2 : s ≤ r0) (he0 : s + e = mid + m) (g3 : ∀ c p, c + p + 1 = mid + m → s0 ≤ c → c < s → ky x c ≤ ky x p) (g4 : ∀ c p, c + p + 1 = mid + m → s ≤ c → c < r0 → ky x p < ky x c) (q : Bool) (hq : q = true ↔ s < m ∧ m < e) :
    ∃ r, Ev (fun k => slices_symMergeCmpFunc_Note.j6 k x (a : Int) (m : Int) (b : Int) (mid : Int) (s : Int) (e : Int) q) r ∧ W x r a b ∧ Srt r a b := by
  have he : mid + m - s = e := by omega
  have k1 : a ≤ s := by omega
  have k2 : s ≤ m := by omega
  have k3 : s ≤ mid := by omega
  have k4 : m ≤ e := by omega
  have k5 : mid ≤ e := by omega
  have k6 : e ≤ b := by omega
  have k0 : a ≤ mid := by omega
  have f3 : s0 < s → ky x (s - 1) ≤ ky x e := fun h => g3 (s - 1) e (by omega) (by omega) (by omega)
  have f4 : s < r0 → ky x (e - 1) < ky x s := fun h => g4 s (e - 1) (by omega) (Nat.le_refl _) h
  have go : ∀ y : List NI, y.length = x.length → y.Perm x → (∀ t, t < e - m → atN y (s + t) = atN x (m + t)) → (∀ t, t < m - s → atN y (mid + t) = atN x (s + t)) → (∀ t, t < s ∨ e ≤ t → atN y t = atN x t) →
      ∃ r, Ev (fun k => slices_symMergeCmpFunc_Note.j7 k y (a : Int) (b : Int) (mid : Int) (s : Int) (e : Int)) r ∧ W x r a b ∧ Srt r a b := by
    intro y y1 y2 y3 y4 y5
    obtain ⟨w1, w2, w3, w4, w5, w6⟩ := halves x y a m b mid s e s0 r0 hmid h1 h2 hS1 hS2 hcase g1 g2 he f3 f4 y1 y2 y3 y4 y5
    exact rest ih x y a mid s e b hN1 hN2 k1 k3 k5 k6 k0 (by rw [y1]; exact hb) (hk.perm y2) w1 w2 w3 w4 w5 w6
  clear hcase
  cases q with
  | true =>
    obtain ⟨d1, d2⟩ := hq.1 rfl
    obtain ⟨y, u1, u2, u3, u4, u5, u6⟩ := rotate x s m e d1 d2 (by omega) hk.2
    rw [show s + (e - m) = mid by omega] at u5
    obtain ⟨r, v1, v2⟩ := go y u2 u3 u4 u5 u6
    exact ⟨r, Ev.step (fun _ => slices_symMergeCmpFunc_Note.j6.eq_2 ..) (Ev.pos rfl (Ev.bind u1 v1)), v2⟩
  | false =>
    have d : ¬ (s < m ∧ m < e) := fun h => by have := hq.2 h; cases this
    obtain ⟨r, v1, v2⟩ := go x rfl (List.Perm.refl _) (fun t ht => by rw [show s = m by omega]) (fun t ht => by rw [show s = mid by omega]) (fun t _ => rfl)
    exact ⟨r, Ev.step (fun _ => slices_symMergeCmpFunc_Note.j6.eq_2 ..) (Ev.neg (by simp) v1), v2⟩
theorem search {N : Nat} (ih : Merges N) (x : List NI) (a m b mid s0 r0 pp : Nat) (hpp : pp + 1 = mid + m) (hN1 : mid - a ≤ N) (hN2 : b - mid ≤ N) (hmid : (a + b) / 2 = mid) (h1 : a < m) (h2 : m < b) (hb : b ≤ x.length) (hk : KB x) (hS1 : Srt x a m) (hS2 : Srt x m b)
    (hcase : m ≤ mid ∧ s0 = a ∧ r0 = m ∨ mid < m ∧ s0 = mid + m - b ∧ r0 = mid) : ∀ M st rr : Nat, rr - st ≤ M → s0 ≤ st → st ≤ rr → rr ≤ r0 → (∀ c p, c + p + 1 = mid + m → s0 ≤ c → c < st → ky x c ≤ ky x p) → (∀ c p, c + p + 1 = mid + m → rr ≤ c → c < r0 → ky x p < ky x c) →
    ∃ r, Ev (fun k => slices_symMergeCmpFunc_Note.l4 k x (a : Int) (m : Int) (b : Int) (mid : Int) ((mid + m : Nat) : Int) (st : Int) (rr : Int) (pp : Int)) r ∧ W x r a b ∧ Srt r a b := by
  have hl := hk.2
  have hbig : mid + m ≤ 8796093022208 := by omega
  have q1 : a ≤ s0 := by omega
  have q2 : r0 ≤ m := by omega
  have q3 : r0 ≤ mid := by omega
  have q4 : mid + m ≤ s0 + b := by omega
  have fin' := fun s e => fin ih x a m b mid s0 r0 s e hN1 hN2 hmid h1 h2 hb hk hS1 hS2 hcase
  clear hcase hmid hN1 hN2 ih
  intro M
  induction M with
  | zero =>
    intro st rr z1 z2 z3 z4 z5 z6
    obtain rfl : st = rr := by omega
    obtain ⟨e, he⟩ : ∃ e, st + e = mid + m := ⟨mid + m - st, by omega⟩
    have ew : Aside0 (wrap64 (((mid + m : Nat) : Int) - (st : Int)) = (e : Int)) := ⟨by rw [wrap_sub (by omega) (by omega)]; omega⟩
    by_cases d : st < m
    · obtain ⟨r, v1, v2⟩ := fin' st e z2 z4 he z5 z6 (decide ((m : Int) < (e : Int))) (by
        rw [decide_eq_true_eq]
        exact ⟨fun h => ⟨d, by omega⟩, fun h => by omega⟩)
      rw [← ew.out] at v1
      exact ⟨r, Ev.step (fun _ => slices_symMergeCmpFunc_Note.l4.eq_2 ..) (Ev.neg (by omega) (Ev.pos (by omega) v1)), v2⟩
    · obtain ⟨r, v1, v2⟩ := fin' st e z2 z4 he z5 z6 false (Iff.intro (fun h => by cases h) (fun h => absurd h.1 d))
      rw [← ew.out] at v1
      exact ⟨r, Ev.step (fun _ => slices_symMergeCmpFunc_Note.l4.eq_2 ..) (Ev.neg (by omega) (Ev.neg (by omega) v1)), v2⟩
  | succ M ihM =>
    intro st rr z1 z2 z3 z4 z5 z6
    by_cases hij : st < rr
    · obtain ⟨c, hc0⟩ : ∃ z, (st + rr) / 2 = z := ⟨_, rfl⟩
      have b1 : st ≤ c := by omega
      have b2 : c < rr := by omega
      have hh : Aside0 (wrap64 ((IntKind.u64.wrap (wrap64 ((st : Int) + (rr : Int)))) / 2) = (c : Int)) := ⟨by rw [half (by omega), hc0]⟩
      have g1 : c - st ≤ M := by omega
      have g2 : rr - (c + 1) ≤ M := by omega
      clear hc0 z1
      obtain ⟨p, hp⟩ : ∃ p, c + p + 1 = mid + m := ⟨mid + m - 1 - c, by omega⟩
      have hpc : Aside0 (wrap64 ((pp : Int) - (c : Int)) = (p : Int)) := ⟨by rw [wrap_sub (by omega) (by omega)]; omega⟩
      have c1 : p < x.length := by omega
      have c2 : c < x.length := by omega
      have hc := cmp_ (atN x p) (atN x c) (hk.at c1) (hk.at c2)
      have b3 : a ≤ c := by omega
      have b4 : c < m := by omega
      have b5 : m ≤ p := by omega
      have b6 : p < b := by omega
      by_cases hlt : ky x p < ky x c
      · obtain ⟨r, v1, v2⟩ := ihM st c g1 z2 b1 (by omega) z5 (fun c' p' q0 q1 q2 => by
          by_cases e0 : c' = c
          · obtain rfl : p' = p := by omega
            rw [e0]; exact hlt
          · have w1 := hS1 c c' b3 (by omega) (by omega)
            have w2 := hS2 p' p (by omega) (by omega) b6
            exact Int.lt_of_le_of_lt w2 (Int.lt_of_lt_of_le hlt w1))
        have hlt2 : (atN x p).f0 - (atN x c).f0 < 0 := by unfold ky at hlt; omega
        refine ⟨r, Ev.step (fun _ => slices_symMergeCmpFunc_Note.l4.eq_2 ..) (Ev.pos (by omega) ?_), v2⟩
        rw [hh.out, hpc.out]
        exact Ev.pos (by omega) (Ev.pos (by omega) (Ev.pos (by omega) (Ev.pos (by omega) (Ev.have hc (Ev.pos hlt2 v1)))))
      · obtain ⟨r, v1, v2⟩ := ihM (c + 1) rr g2 (by omega) b2 z4 (fun c' p' q0 q1 q2 => by
          by_cases e0 : c' = c
          · obtain rfl : p' = p := by omega
            rw [e0]; exact Int.not_lt.1 hlt
          · have w1 := hS1 c' c (by omega) (by omega) b4
            have w2 := hS2 p p' b5 (by omega) (by omega)
            exact Int.le_trans w1 (Int.le_trans (Int.not_lt.1 hlt) w2)) z6
        have hlt2 : ¬ (atN x p).f0 - (atN x c).f0 < 0 := by unfold ky at hlt; omega
        refine ⟨r, Ev.step (fun _ => slices_symMergeCmpFunc_Note.l4.eq_2 ..) (Ev.pos (by omega) ?_), v2⟩
        rw [← wrap_succ (by omega)] at v1
        rw [hh.out, hpc.out]
        exact Ev.pos (by omega) (Ev.pos (by omega) (Ev.pos (by omega) (Ev.pos (by omega) (Ev.have hc (Ev.neg hlt2 v1)))))
    · obtain rfl : st = rr := by omega
      exact ihM st st (by omega) z2 (Nat.le_refl _) z4 z5 z6
theorem merge : ∀ N : Nat, Merges N := by
  intro N
  induction N with
  | zero => intro a m b h h1 h2; omega
  | succ N ih =>
    intro a m b hN h1 h2 x hb hk hS1 hS2
    have hl := hk.2
    have e1 : Aside0 (wrap64 ((m : Int) - (a : Int)) = ((m - a : Nat) : Int)) := ⟨wrap_sub (by omega) (by omega)⟩
    have e2 : Aside0 (wrap64 ((b : Int) - (m : Int)) = ((b - m : Nat) : Int)) := ⟨wrap_sub (by omega) (by omega)⟩
    by_cases c1 : m - a = 1
    · obtain rfl : m = a + 1 := by omega
      obtain ⟨r, r1, r2⟩ := first x a b h2 hb hk hS2
      refine ⟨r, Ev.step (fun _ => slices_symMergeCmpFunc_Note.f.eq_2 ..) (Ev.pos ?_ r1), r2⟩
      rw [e1.out]; omega
    by_cases c2 : b - m = 1
    · obtain rfl : b = m + 1 := by omega
      obtain ⟨r, r1, r2⟩ := last x a m h1 hb hk hS1
      refine ⟨r, Ev.step (fun _ => slices_symMergeCmpFunc_Note.f.eq_2 ..) (Ev.neg ?_ (Ev.pos ?_ r1)), r2⟩
      · rw [e1.out]; omega
      · rw [e2.out]; omega
    obtain ⟨mid, hmid⟩ : ∃ z, (a + b) / 2 = z := ⟨_, rfl⟩
    have hm1 : a + 2 ≤ m := by omega
    have hm2 : m + 2 ≤ b := by omega
    have n1 : mid - a ≤ N := by omega
    have n2 : b - mid ≤ N := by omega
    have d1 : Aside0 (¬ wrap64 ((m : Int) - (a : Int)) = 1) := ⟨by rw [e1.out]; omega⟩
    have d2 : Aside0 (¬ wrap64 ((b : Int) - (m : Int)) = 1) := ⟨by rw [e2.out]; omega⟩
    obtain ⟨pp, hpp⟩ : ∃ p, p + 1 = mid + m := ⟨mid + m - 1, by omega⟩
    have hmw : Aside0 (wrap64 ((IntKind.u64.wrap (wrap64 ((a : Int) + (b : Int)))) / 2) = (mid : Int)) := ⟨by rw [half (by omega), hmid]⟩
    have hn : Aside0 (wrap64 ((mid : Int) + (m : Int)) = ((mid + m : Nat) : Int)) := ⟨wrap_add (by omega)⟩
    have hp : Aside0 (wrap64 (((mid + m : Nat) : Int) - 1) = (pp : Int)) := ⟨by rw [wrap_pred (by omega) (by omega)]; omega⟩
    by_cases d : mid < m
    · have hnb : Aside0 (wrap64 (((mid + m : Nat) : Int) - (b : Int)) = ((mid + m - b : Nat) : Int)) := ⟨wrap_sub (by omega) (by omega)⟩
      obtain ⟨r, v1, v2⟩ := search ih x a m b mid (mid + m - b) mid pp hpp n1 n2 hmid h1 h2 hb hk hS1 hS2 (Or.inr ⟨d, rfl, rfl⟩) (mid - (mid + m - b)) (mid + m - b) mid (Nat.le_refl _) (Nat.le_refl _) (by omega) (Nat.le_refl _) (fun c p _ q1 q2 => absurd q1 (by omega)) (fun c p _ q1 q2 => absurd q1 (by omega))
      refine ⟨r, Ev.step (fun _ => slices_symMergeCmpFunc_Note.f.eq_2 ..) (Ev.neg d1.out (Ev.neg d2.out ?_)), v2⟩
      rw [hmw.out, hn.out, hnb.out]
      refine Ev.pos (by omega) (Ev.step (fun _ => slices_symMergeCmpFunc_Note.j4.eq_2 ..) ?_)
      rw [hp.out]
      exact v1
    · obtain ⟨r, v1, v2⟩ := search ih x a m b mid a m pp hpp n1 n2 hmid h1 h2 hb hk hS1 hS2 (Or.inl ⟨by omega, rfl, rfl⟩) (m - a) a m (Nat.le_refl _) (Nat.le_refl _) (by omega) (Nat.le_refl _) (fun c p _ q1 q2 => absurd q1 (by omega)) (fun c p _ q1 q2 => absurd q1 (by omega))
      refine ⟨r, Ev.step (fun _ => slices_symMergeCmpFunc_Note.f.eq_2 ..) (Ev.neg d1.out (Ev.neg d2.out ?_)), v2⟩
      rw [hmw.out, hn.out]
      refine Ev.neg (by omega) (Ev.step (fun _ => slices_symMergeCmpFunc_Note.j4.eq_2 ..) ?_)
      rw [hp.out]
      exact v1

/-! ### the whole sort -/
/-- From a on, rows of s elements each are sorted. -/
inductive Bl (x : List NI) (s n : Nat) : Nat → Prop
  | done {a : Nat} (h : n ≤ a) : Bl x s n a
  | step {a : Nat} (h : Srt x a (min (a + s) n)) (k : Bl x s n (a + s)) : Bl x s n a
/-- Up to a they are. -/
inductive Pr (x : List NI) (s : Nat) : Nat → Prop
  | zero : Pr x s 0
  | step {a : Nat} (k : Pr x s a) (h : Srt x a (a + s)) : Pr x s (a + s)
theorem Bl.same {x y : List NI} {s n a : Nat} (h : Bl x s n a) : (∀ t, a ≤ t → atN y t = atN x t) → Bl y s n a := by
  induction h with
  | done h => exact fun _ => .done h
  | step h _ ih => exact fun e => .step (h.same (fun i h1 _ => e i h1)) (ih (fun t ht => e t (by omega)))
theorem Pr.same {x y : List NI} {s a : Nat} (h : Pr x s a) : (∀ t, t < a → atN y t = atN x t) → Pr y s a := by
  induction h with
  | zero => exact fun _ => .zero
  | step _ h ih => exact fun e => .step (ih (fun t ht => e t (by omega))) (h.same (fun i _ h2 => e i h2))
theorem Pr.join {x : List NI} {s n a : Nat} (h : Pr x s a) : a ≤ n → Bl x s n a → Bl x s n 0 := by
  induction h with
  | zero => exact fun _ b => b
  | step _ h ih => exact fun ha b => ih (by omega) (.step (by rw [Nat.min_eq_left ha]; exact h) b)
theorem Bl.open {x : List NI} {s n a : Nat} (h : Bl x s n a) (ha : a < n) : Srt x a (min (a + s) n) ∧ Bl x s n (a + s) := by
  cases h with
  | done h => omega
  | step h k => exact ⟨h, k⟩
theorem doubled (n s : Nat) (hs : 20 ≤ s) (hsn : s < n) (hn : n ≤ 4398046511104) (ih : ∀ x : List NI, x.length = n → KB x → Bl x (2 * s) n 0 → ∃ r, Ev (fun k => slices_stableCmpFunc_Note.l1 k x (n : Int) ((2 * s : Nat) : Int)) r ∧ r.Perm x ∧ Srt r 0 n) :
    ∀ d a : Nat, n - a ≤ d → a ≤ n → ∀ x : List NI, x.length = n → KB x → Pr x (2 * s) a → Bl x s n a → ∃ r, Ev (fun k => slices_stableCmpFunc_Note.l2 k x (n : Int) (s : Int) (a : Int) ((a + 2 * s : Nat) : Int)) r ∧ r.Perm x ∧ Srt r 0 n := by
  have w1 : Aside0 (wrap64 (2 * (s : Int)) = ((2 * s : Nat) : Int)) := ⟨by rw [wrap_in (by omega) (by omega)]; omega⟩
  have w1' : Aside0 (wrap64 ((s : Int) * 2) = ((2 * s : Nat) : Int)) := ⟨by rw [wrap_in (by omega) (by omega)]; omega⟩
  intro d
  induction d with
  | zero =>
    intro a h1 h2 x hx hk hp hb
    obtain rfl : a = n := by omega
    obtain ⟨r, r1, r2, r3⟩ := ih x hx hk (hp.join (Nat.le_refl _) (.done (Nat.le_refl _)))
    have w2 : Aside0 (wrap64 ((a : Int) + (s : Int)) = ((a + s : Nat) : Int)) := ⟨wrap_add (by omega)⟩
    refine ⟨r, Ev.step (fun _ => slices_stableCmpFunc_Note.l2.eq_2 ..) (Ev.neg (by omega) (Ev.neg ?_ ?_)), r2, r3⟩
    · rw [w2.out]; omega
    · rw [w1'.out]; exact r1
  | succ d ihd =>
    intro a h1 h2 x hx hk hp hb
    have w2 : Aside0 (wrap64 ((a : Int) + (s : Int)) = ((a + s : Nat) : Int)) := ⟨wrap_add (by omega)⟩
    have w3 : Aside0 (wrap64 (((a + 2 * s : Nat) : Int) + ((2 * s : Nat) : Int)) = ((a + 2 * s + 2 * s : Nat) : Int)) := ⟨wrap_add (by omega)⟩
    by_cases c1 : a + 2 * s ≤ n
    · obtain ⟨s1, b1⟩ := hb.open (by omega)
      obtain ⟨s2, b2⟩ := b1.open (by omega)
      rw [Nat.min_eq_left (by omega)] at s1 s2
      obtain ⟨y, y1, y2, y3⟩ := merge _ a (a + s) (a + 2 * s) (Nat.le_refl _) (by omega) (by omega) x (by omega) hk s1 (s2.sub (Nat.le_refl _) (by omega))
      obtain ⟨r, r1, r2, r3⟩ := ihd (a + 2 * s) (by omega) c1 y (y2.1.trans hx) (hk.perm y2.2.1) (.step (hp.same (fun t ht => y2.2.2.1 t (Or.inl ht))) y3) (by
        rw [show a + s + s = a + 2 * s by omega] at b2
        exact b2.same (fun t ht => y2.2.2.1 t (Or.inr ht)))
      refine ⟨r, Ev.step (fun _ => slices_stableCmpFunc_Note.l2.eq_2 ..) (Ev.pos (by omega) ?_), r2.trans y2.2.1, r3⟩
      rw [w2.out, w1.out, w3.out]
      exact Ev.bind y1 r1
    · by_cases c2 : a + s < n
      · obtain ⟨s1, b1⟩ := hb.open (by omega)
        obtain ⟨s2, b2⟩ := b1.open c2
        rw [Nat.min_eq_left (by omega)] at s1
        rw [Nat.min_eq_right (by omega)] at s2
        obtain ⟨y, y1, y2, y3⟩ := merge _ a (a + s) n (Nat.le_refl _) (by omega) c2 x (by omega) hk s1 s2
        obtain ⟨r, r1, r2, r3⟩ := ih y (y2.1.trans hx) (hk.perm y2.2.1) ((hp.same (fun t ht => y2.2.2.1 t (Or.inl ht))).join h2 (.step (by rw [Nat.min_eq_right (by omega)]; exact y3) (.done (by omega))))
        refine ⟨r, Ev.step (fun _ => slices_stableCmpFunc_Note.l2.eq_2 ..) (Ev.neg (by omega) ?_), r2.trans y2.2.1, r3⟩
        rw [w2.out, w1'.out]
        exact Ev.pos (by omega) (Ev.bind y1 r1)
      · obtain ⟨r, r1, r2, r3⟩ := ih x hx hk (hp.join h2 (by
          rcases Nat.lt_or_ge a n with h | h
          · have s1 := (hb.open h).1
            rw [Nat.min_eq_right (by omega)] at s1
            exact .step (by rw [Nat.min_eq_right (by omega)]; exact s1) (.done (by omega))
          · exact .done h))
        refine ⟨r, Ev.step (fun _ => slices_stableCmpFunc_Note.l2.eq_2 ..) (Ev.neg (by omega) ?_), r2, r3⟩
        rw [w2.out, w1'.out]
        exact Ev.neg (by omega) r1
theorem merged (n : Nat) (hn : n ≤ 4398046511104) : ∀ N s : Nat, n - s ≤ N → 20 ≤ s → ∀ x : List NI, x.length = n → KB x → Bl x s n 0 → ∃ r, Ev (fun k => slices_stableCmpFunc_Note.l1 k x (n : Int) (s : Int)) r ∧ r.Perm x ∧ Srt r 0 n := by
  intro N
  induction N with
  | zero =>
    intro s h1 h2 x hx hk hb
    refine ⟨x, Ev.step (fun _ => slices_stableCmpFunc_Note.l1.eq_2 ..) (Ev.neg (by omega) (Ev.some rfl)), List.Perm.refl _, ?_⟩
    rcases Nat.eq_zero_or_pos n with h | h
    · exact fun p q _ _ h3 => by omega
    · have s1 := (hb.open h).1
      rw [Nat.min_eq_right (by omega)] at s1
      exact s1
  | succ N ih =>
    intro s h1 h2 x hx hk hb
    by_cases c : s < n
    · obtain ⟨r, r1, r2⟩ := doubled n s h2 c hn (fun x' hx' hk' hb' => ih (2 * s) (by omega) (by omega) x' hx' hk' hb') n 0 (by omega) (Nat.zero_le _) x hx hk .zero hb
      refine ⟨r, Ev.step (fun _ => slices_stableCmpFunc_Note.l1.eq_2 ..) (Ev.pos (by omega) ?_), r2⟩
      have w1 : wrap64 (2 * (s : Int)) = ((2 * s : Nat) : Int) := by rw [wrap_in (by omega) (by omega)]; omega
      rw [w1]
      rw [Nat.zero_add] at r1
      exact r1
    · exact ih s (by omega) h2 x hx hk hb
theorem blocks (n : Nat) (hn : n ≤ 4398046511104) : ∀ d a : Nat, n - a ≤ d → a ≤ n → ∀ x : List NI, x.length = n → KB x → Pr x 20 a → ∃ r, Ev (fun k => slices_stableCmpFunc_Note.l0 k x (n : Int) 20 (a : Int) ((a + 20 : Nat) : Int)) r ∧ r.Perm x ∧ Srt r 0 n := by
  intro d
  induction d with
  | zero =>
    intro a h1 h2 x hx hk hp
    obtain rfl : a = n := by omega
    obtain ⟨y, y1, y2, y3⟩ := insertion x a a (Nat.le_refl _) (by omega) hk
    obtain ⟨r, r1, r2, r3⟩ := merged a hn _ 20 (Nat.le_refl _) (Nat.le_refl _) y (y2.1.trans hx) (hk.perm y2.2.1) ((hp.same (fun t ht => y2.2.2.1 t (Or.inl ht))).join (Nat.le_refl _) (.done (Nat.le_refl _)))
    exact ⟨r, Ev.step (fun _ => slices_stableCmpFunc_Note.l0.eq_2 ..) (Ev.neg (by omega) (Ev.bind y1 r1)), r2.trans y2.2.1, r3⟩
  | succ d ih =>
    intro a h1 h2 x hx hk hp
    by_cases c : a + 20 ≤ n
    · obtain ⟨y, y1, y2, y3⟩ := insertion x a (a + 20) (by omega) (by omega) hk
      obtain ⟨r, r1, r2, r3⟩ := ih (a + 20) (by omega) c y (y2.1.trans hx) (hk.perm y2.2.1) (.step (hp.same (fun t ht => y2.2.2.1 t (Or.inl ht))) y3)
      refine ⟨r, Ev.step (fun _ => slices_stableCmpFunc_Note.l0.eq_2 ..) (Ev.pos (by omega) (Ev.bind y1 ?_)), r2.trans y2.2.1, r3⟩
      have w : wrap64 (((a + 20 : Nat) : Int) + 20) = ((a + 20 + 20 : Nat) : Int) := wrap_add (a := a + 20) (b := 20) (by omega)
      rw [w]
      exact r1
    · obtain ⟨y, y1, y2, y3⟩ := insertion x a n h2 (by omega) hk
      obtain ⟨r, r1, r2, r3⟩ := merged n hn _ 20 (Nat.le_refl _) (Nat.le_refl _) y (y2.1.trans hx) (hk.perm y2.2.1) ((hp.same (fun t ht => y2.2.2.1 t (Or.inl ht))).join h2 (by
        rcases Nat.lt_or_ge a n with h | h
        · exact .step (by rw [Nat.min_eq_right (by omega)]; exact y3) (.done (by omega))
        · exact .done h))
      exact ⟨r, Ev.step (fun _ => slices_stableCmpFunc_Note.l0.eq_2 ..) (Ev.neg (by omega) (Ev.bind y1 r1)), r2.trans y2.2.1, r3⟩
/-- The stable sort: the same elements, in order. -/
theorem stable (x : List NI) (hk : KB x) : ∃ r, Ev (fun k => slices_SortStableFunc_Note.f k x) r ∧ r.Perm x ∧ Srt r 0 r.length := by
  obtain ⟨r, r1, r2, r3⟩ := blocks x.length hk.2 x.length 0 (by omega) (Nat.zero_le _) x rfl hk .zero
  rw [← r2.length_eq] at r3
  exact ⟨r, Ev.bind r1 (Ev.some rfl), r2, r3⟩
end Go.Proofs.Ytmllkdgdkagkkaa.MMerge
end
section
/- What the program's sort of a tier comes to: of two orderings of the same notes by their begins at most one is a tier. -/
namespace Go.Proofs.Ytmllkdgdkagkkaa.MTier
open Go.RowKit Go.Proofs.Ytmllkdgdkagkkaa.G Go.Proofs.YtmllkdgdkagkkaaW.PrintWords Go.Proofs.YtmllkdgdkagkkaaW.PrintLast Go.Proofs.Ytmllkdgdkagkkaa.MPure Go.Proofs.Ytmllkdgdkagkkaa.MWord Go.Proofs.Ytmllkdgdkagkkaa.MNote Go.Proofs.Ytmllkdgdkagkkaa.MSort Go.Proofs.Ytmllkdgdkagkkaa.MMerge

theorem tier_at {l : List NI} (h : tierB l = true) {i : Nat} (hi : i < l.length) : noteB (atN l i).f0 (atN l i).f1 (atN l i).f2 = true ∧ (i = 0 ∨ (atN l (i - 1)).f1 ≤ (atN l i).f0) := by
  unfold tierB at h
  simp only [Bool.and_eq_true, List.all_eq_true, List.mem_range] at h
  have := h.1 i hi
  unfold tierP at this
  simp only [Bool.and_eq_true, Bool.or_eq_true, decide_eq_true_eq] at this
  exact this
theorem note_in {f t : Int} {g : ByteArray} (h : noteB f t g = true) : 0 ≤ f ∧ f < t ∧ t ≤ 99999 := by
  unfold noteB frameB at h
  simp only [Bool.and_eq_true, decide_eq_true_eq] at h
  omega
theorem tier_KB {l : List NI} (h : tierB l = true) : KB l := by
  refine ⟨fun x hx => ?_, ?_⟩
  · obtain ⟨i, hi, rfl⟩ := List.mem_iff_getElem.1 hx
    have := note_in (tier_at h hi).1
    rw [atN_get hi] at this
    omega
  · unfold tierB at h
    simp only [Bool.and_eq_true, decide_eq_true_eq] at h
    omega
/-- A tier's notes begin one behind the other. -/
theorem tier_lt {l : List NI} (h : tierB l = true) : ∀ d i j : Nat, j = i + d + 1 → j < l.length → ky l i < ky l j := by
  intro d
  induction d with
  | zero =>
    intro i j hj hl
    have h1 := tier_at h hl
    have h2 := note_in (tier_at h (show i < l.length by omega)).1
    have e : j - 1 = i := by omega
    rw [e] at h1
    unfold ky
    have := h1.2
    omega
  | succ d ih =>
    intro i j hj hl
    have h0 := ih i (j - 1) (by omega) (by omega)
    have h1 := tier_at h hl
    have h2 := note_in (tier_at h (show j - 1 < l.length by omega)).1
    unfold ky at h0 ⊢
    have := h1.2
    omega
theorem tier_srt {l : List NI} (h : tierB l = true) : Srt l 0 l.length := fun p q _ h2 h3 => Int.le_of_lt (tier_lt h (q - p - 1) p q (by omega) h3)
theorem srt_pairwise {l : List NI} (h : Srt l 0 l.length) : l.Pairwise (fun a b => a.f0 ≤ b.f0) := by
  rw [List.pairwise_iff_getElem]
  intro i j hi hj hij
  have := h i j (Nat.zero_le _) hij hj
  unfold ky at this
  rwa [atN_get hi, atN_get hj] at this
theorem one_order {r p : List NI} (hp : r.Perm p) (hr : Srt r 0 r.length) (hs : Srt p 0 p.length) (h : tierB p = true) : r = p := by
  refine List.Perm.eq_of_pairwise (le := fun a b => a.f0 ≤ b.f0) (fun a b ha hb h1 h2 => ?_) (srt_pairwise hr) (srt_pairwise hs) hp
  obtain ⟨i, hi, rfl⟩ := List.mem_iff_getElem.1 (hp.mem_iff.1 ha)
  obtain ⟨j, hj, rfl⟩ := List.mem_iff_getElem.1 hb
  rcases Nat.lt_trichotomy i j with c | c | c
  · have := tier_lt h (j - i - 1) i j (by omega) hj
    unfold ky at this
    rw [atN_get hi, atN_get hj] at this
    omega
  · subst c; rfl
  · have := tier_lt h (i - j - 1) j i (by omega) hi
    unfold ky at this
    rw [atN_get hi, atN_get hj] at this
    omega
theorem both_or_none {r p : List NI} (hp : r.Perm p) (hr : Srt r 0 r.length) (hs : Srt p 0 p.length) : tierB r = tierB p := by
  cases h : tierB p with
  | true => rw [one_order hp hr hs h]; exact h
  | false =>
    cases h2 : tierB r with
    | false => rfl
    | true =>
      rw [one_order hp.symm hs hr h2] at h
      rw [h] at h2
      exact h2.symm
theorem sized_perm {r p : List NI} (h : Sized p) (hp : r.Perm p) : Sized r := ⟨by rw [hp.length_eq]; exact h.1, fun x hx => h.2 x (hp.mem_iff.1 hx)⟩
def tierOr (p : List NI) : List NI × Bool := if tierB p = true then (p, true) else ([], false)
/-- The program's sort, and whether it is a tier: p is any ordering by the begins. -/
theorem sortedTier_ (x p : List NI) (hk : KB x) (hz : Sized x) (hp : p.Perm x) (hS : Srt p 0 p.length) : Ev (fun k => impl_sortedTier.f k x) (tierOr p) := by
  obtain ⟨r, r1, r2, r3⟩ := stable x hk
  have hpr : r.Perm p := r2.trans hp.symm
  have ht := IsTier_ r (sized_perm hz r2)
  have hb := both_or_none hpr r3 hS
  unfold impl_sortedTier.f tierOr
  refine Ev.bind r1 (Ev.bind ht (Ev.ite (fun h => Ev.some ?_) (fun h => Ev.some ?_)))
  · rw [hb] at h
    rw [if_pos h, one_order hpr r3 hS h]
  · rw [hb] at h
    rw [if_neg h]
theorem tiIf_ (l : List NI) (hl : Sized l) : Ev (fun k => spec_tiIf.f k l) (tierOr l) := by
  unfold spec_tiIf.f tierOr
  exact Ev.bind (tiGood_ l hl) (Ev.ite (fun h => Ev.some (by rw [if_pos h])) (fun h => Ev.some (by rw [if_neg h])))
/-- The reference's place for a note. -/
def place (n : Int) : List NI → Nat
  | [] => 0
  | x :: l => if x.f0 < n then place n l + 1 else 0
def put (l : List NI) (n : NI) : List NI := l.take (place n.f0 l) ++ [n] ++ l.drop (place n.f0 l)
theorem place_le (n : Int) : ∀ l : List NI, place n l ≤ l.length
  | [] => Nat.le_refl _
  | x :: l => by
    have := place_le n l
    simp only [place, List.length_cons]
    split <;> omega
theorem place_low (n : Int) : ∀ (l : List NI) (i : Nat), i < place n l → ky l i < n
  | [], i, h => by simp [place] at h
  | x :: l, i, h => by
    simp only [place] at h
    by_cases c : x.f0 < n
    · rw [if_pos c] at h
      cases i with
      | zero => exact c
      | succ i => exact place_low n l i (by omega)
    · rw [if_neg c] at h; omega
theorem place_high (n : Int) : ∀ (l : List NI), place n l < l.length → n ≤ ky l (place n l)
  | [], h => by simp at h
  | x :: l, h => by
    simp only [place] at h ⊢
    by_cases c : x.f0 < n
    · rw [if_pos c] at h ⊢
      exact place_high n l (by simpa using h)
    · rw [if_neg c]
      show n ≤ x.f0
      omega
theorem put_perm (l : List NI) (n : NI) : (put l n).Perm (l ++ [n]) := by
  unfold put
  have h : (l.take (place n.f0 l) ++ [n] ++ l.drop (place n.f0 l)).Perm (l.take (place n.f0 l) ++ l.drop (place n.f0 l) ++ [n]) := by
    rw [List.append_assoc, List.append_assoc]
    exact List.Perm.append_left _ List.perm_append_comm
  rw [List.take_append_drop] at h
  exact h
theorem put_length (l : List NI) (n : NI) : (put l n).length = l.length + 1 := by rw [(put_perm l n).length_eq]; simp
theorem put_at (l : List NI) (n : NI) (i : Nat) (_h : i < l.length + 1) : atN (put l n) i = if i < place n.f0 l then atN l i else if i = place n.f0 l then n else atN l (i - 1) := by
  have hp := place_le n.f0 l
  unfold atN put
  rw [List.getD_eq_getElem?_getD]
  have ht : (l.take (place n.f0 l)).length = place n.f0 l := by rw [List.length_take]; omega
  by_cases c : i < place n.f0 l
  · rw [if_pos c, List.append_assoc, List.getElem?_append_left (by omega), List.getElem?_take, if_pos c, ← List.getD_eq_getElem?_getD]
  · rw [if_neg c, List.append_assoc, List.getElem?_append_right (by omega), ht]
    by_cases c2 : i = place n.f0 l
    · rw [if_pos c2, c2, Nat.sub_self]
      rfl
    · rw [if_neg c2, show i - place n.f0 l = (i - place n.f0 l - 1) + 1 by omega]
      show ((l.drop (place n.f0 l))[i - place n.f0 l - 1]?).getD _ = _
      rw [List.getElem?_drop, List.getD_eq_getElem?_getD, show place n.f0 l + (i - place n.f0 l - 1) = i - 1 by omega]
theorem put_srt (l : List NI) (n : NI) (hl : Srt l 0 l.length) : Srt (put l n) 0 (put l n).length := by
  intro p q _ h2 h3
  rw [put_length] at h3
  have hp := place_le n.f0 l
  unfold ky
  rw [put_at l n p (by omega), put_at l n q h3]
  have high : ∀ i, place n.f0 l ≤ i → i < l.length → n.f0 ≤ ky l i := by
    intro i h1 h2
    have h0 := place_high n.f0 l (by omega)
    by_cases e : i = place n.f0 l
    · rw [e]; exact h0
    · exact Int.le_trans h0 (hl _ _ (Nat.zero_le _) (by omega) h2)
  by_cases c : p < place n.f0 l
  · rw [if_pos c]
    have hlow := place_low n.f0 l p c
    by_cases c2 : q < place n.f0 l
    · rw [if_pos c2]; exact hl p q (Nat.zero_le _) h2 (by omega)
    · rw [if_neg c2]
      by_cases c3 : q = place n.f0 l
      · rw [if_pos c3]; exact Int.le_of_lt hlow
      · rw [if_neg c3]; exact Int.le_trans (Int.le_of_lt hlow) (high (q - 1) (by omega) (by omega))
  · rw [if_neg c, if_neg (show ¬ q < place n.f0 l by omega), if_neg (show ¬ q = place n.f0 l by omega)]
    by_cases c3 : p = place n.f0 l
    · rw [if_pos c3]; exact high (q - 1) (by omega) (by omega)
    · rw [if_neg c3]; exact hl (p - 1) (q - 1) (Nat.zero_le _) (by omega) (by omega)
theorem place_take (n : Int) : ∀ (l : List NI) (i : Nat), i ≤ l.length → (∀ j, j < i → ky l j < n) → (i < l.length → ¬ ky l i < n) → place n l = i
  | [], i, h, _, _ => by simp at h; simp [place, h]
  | x :: l, 0, _, _, h3 => by
    have : ¬ x.f0 < n := h3 (by simp)
    simp [place, this]
  | x :: l, i + 1, h1, h2, h3 => by
    have h0 : x.f0 < n := h2 0 (by omega)
    have ih := place_take n l i (by simpa using h1) (fun j hj => h2 (j + 1) (by omega)) (fun h => h3 (by simpa using h))
    simp [place, h0, ih]
theorem tiPut_ (l : List NI) (hl : l.length ≤ 1000000) (n : NI) : Ev (fun k => spec_tiPut.f k l n.f0 n.f1 n.f2) (put l n) := by
  have key : ∀ d i : Nat, i + d = l.length → (∀ j, j < i → ky l j < n.f0) → Ev (fun k => spec_tiPut.l0 k l (i : Int) n.f0 n.f1 n.f2) (put l n) := by
    intro d
    induction d with
    | zero =>
      intro i hi h
      have e := place_take n.f0 l i (by omega) h (fun h => by omega)
      have ht : (l.take ((i : Int)).toNat).length = i := by rw [List.length_take]; omega
      have hd : (l.drop ((i : Int)).toNat).length = l.length - i := by rw [List.length_drop]; omega
      refine Ev.step (fun _ => spec_tiPut.l0.eq_2 ..) (Ev.neg (by omega) (Ev.have rfl (Ev.pos (by omega) (Ev.pos (by omega) (Ev.have rfl (Ev.pos ?_ (Ev.have rfl (Ev.have rfl (Ev.pos ?_ (Ev.have rfl (Ev.have rfl (Ev.pos ?_ (Ev.some ?_)))))))))))))
      · simp only [List.length_nil]; omega
      · simp only [List.nil_append, List.length_cons, List.length_nil]; omega
      · simp only [List.nil_append, List.length_append, List.length_cons, List.length_nil]; omega
      · unfold put
        rw [e]
        rfl
    | succ d ih =>
      intro i hi h
      by_cases c : ky l i < n.f0
      · have h2 := ih (i + 1) (by omega) (fun j hj => by
          by_cases e : j = i
          · rw [e]; exact c
          · exact h j (by omega))
        rw [← wrap_succ (by omega)] at h2
        exact Ev.step (fun _ => spec_tiPut.l0.eq_2 ..) (Ev.pos (by omega) (Ev.pos (by omega) (Ev.pos c h2)))
      · have e := place_take n.f0 l i (by omega) h (fun _ => c)
        have ht : (l.take ((i : Int)).toNat).length = i := by rw [List.length_take]; omega
        have hd : (l.drop ((i : Int)).toNat).length = l.length - i := by rw [List.length_drop]; omega
        refine Ev.step (fun _ => spec_tiPut.l0.eq_2 ..) (Ev.pos (by omega) (Ev.pos (by omega) (Ev.neg c (Ev.have rfl (Ev.pos (by omega) (Ev.have rfl (Ev.pos ?_ (Ev.have rfl (Ev.have rfl (Ev.pos ?_ (Ev.have rfl (Ev.have rfl (Ev.pos ?_ (Ev.some ?_))))))))))))))
        · simp only [List.length_nil]; omega
        · simp only [List.nil_append, List.length_cons, List.length_nil]; omega
        · simp only [List.nil_append, List.length_append, List.length_cons, List.length_nil]; omega
        · unfold put
          rw [e]
          rfl
  exact key l.length 0 (by omega) (fun j hj => absurd hj (Nat.not_lt_zero _))
end Go.Proofs.Ytmllkdgdkagkkaa.MTier
end
section
/- What the merge of two tiers comes to: the reference puts the notes in one by one, the program sorts them. -/
namespace Go.Proofs.Ytmllkdgdkagkkaa.MJoin
open Go.RowKit Go.Proofs.Ytmllkdgdkagkkaa.G Go.Proofs.YtmllkdgdkagkkaaW.PrintWords Go.Proofs.YtmllkdgdkagkkaaW.PrintLast Go.Proofs.Ytmllkdgdkagkkaa.MPure Go.Proofs.Ytmllkdgdkagkkaa.MWord Go.Proofs.Ytmllkdgdkagkkaa.MNote Go.Proofs.Ytmllkdgdkagkkaa.MSort Go.Proofs.Ytmllkdgdkagkkaa.MTier
open Go.Proofs.Ytmllkdgdkagkkaa.MHas (hasB meHas_)
open Go.Proofs.Ytmllkdgdkagkkaa.MConf (conf meClash_)

theorem conf_comm (x y : NI) : conf x y = conf y x := by
  unfold conf
  rw [Bool.and_comm (decide (x.f0 < y.f1)), Bool.beq_comm (a := x.f0), Bool.beq_comm (a := x.f1), Bool.beq_comm (a := x.f2.toList)]
/-- Whether a note conflicts with one of a list. -/
def clashB (l : List NI) (n : NI) : Bool := l.any (fun x => conf x n)
theorem meClashes_ (l : List NI) (hl : l.length ≤ 140737488351232) (n : NI) : Ev (fun k => spec_meClashes.f k l n.f0 n.f1 n.f2) (clashB l n) := by
  have key : ∀ d i : Nat, i + d = l.length → Ev (fun k => spec_meClashes.l0 k l (l.length : Int) (i : Int) n.f0 n.f1 n.f2) (clashB (l.drop i) n) := by
    intro d
    induction d with
    | zero =>
      intro i hi
      rw [List.drop_eq_nil_of_le (by omega)]
      exact Ev.step (fun _ => spec_meClashes.l0.eq_2 ..) (Ev.neg (by omega) (Ev.some rfl))
    | succ d ih =>
      intro i hi
      have h := ih (i + 1) (by omega)
      have e : rd_T63 l (i : Int) = l[i]'(by omega) := by
        show l.getD i z63 = _
        rw [List.getD_eq_getElem?_getD, List.getElem?_eq_getElem (by omega)]
        rfl
      rw [← wrap_succ (by omega)] at h
      rw [List.drop_eq_getElem_cons (show i < l.length by omega), clashB, List.any_cons, ← e]
      have hs := meClash_ (rd_T63 l (i : Int)) n
      refine Ev.step (fun _ => spec_meClashes.l0.eq_2 ..) (Ev.pos (by omega) (Ev.pos (by omega) (Ev.pos (by omega) (Ev.have hs (Ev.ite (fun he => Ev.some ?_) (fun he => Ev.eq h ?_))))))
      · rw [he, Bool.true_or]
      · rw [Bool.eq_false_iff.2 he, Bool.false_or]
        rfl
  exact key l.length 0 (by omega)
theorem meFree_ (l m : List NI) (hl : l.length ≤ 4398046511104) (hm : m.length ≤ 140737488351232) : Ev (fun k => spec_meFree.f k l m) (l.filter (fun x => !clashB m x)) := by
  have key : ∀ d i : Nat, i + d = l.length → ∀ out : List NI, out.length ≤ i → Ev (fun k => spec_meFree.l0 k m out l (l.length : Int) (i : Int)) (out ++ (l.drop i).filter (fun x => !clashB m x)) := by
    intro d
    induction d with
    | zero =>
      intro i hi out _
      rw [List.drop_eq_nil_of_le (by omega)]
      exact Ev.step (fun _ => spec_meFree.l0.eq_2 ..) (Ev.neg (by omega) (Ev.some (by simp)))
    | succ d ih =>
      intro i hi out ho
      have e : rd_T63 l (i : Int) = l[i]'(by omega) := by
        show l.getD i z63 = _
        rw [List.getD_eq_getElem?_getD, List.getElem?_eq_getElem (by omega)]
        rfl
      rw [List.drop_eq_getElem_cons (show i < l.length by omega), ← e]
      refine Ev.step (fun _ => spec_meFree.l0.eq_2 ..) (Ev.pos (by omega) (Ev.pos (by omega) (Ev.pos (by omega) (Ev.bind (meClashes_ m hm _) (Ev.ite (fun he => ?_) (fun he => ?_))))))
      · have h := ih (i + 1) (by omega) out (by omega)
        rw [← wrap_succ (by omega)] at h
        rw [List.filter_cons, if_neg (by rw [he]; simp)]
        exact h
      · refine Ev.pos (by omega) ?_
        have h := ih (i + 1) (by omega) (out ++ [rd_T63 l (i : Int)]) (by rw [List.length_append]; simp; omega)
        rw [← wrap_succ (by omega)] at h
        rw [List.filter_cons, if_pos (by rw [Bool.eq_false_iff.2 he]; rfl)]
        rw [List.append_assoc, List.singleton_append] at h
        exact h
  have h := key l.length 0 (by omega) [] (Nat.zero_le _)
  rw [List.nil_append, List.drop_zero] at h
  exact h
/-- All notes of a second list put into a first one. -/
def puts (a l : List NI) : List NI := l.foldl put a
theorem puts_perm : ∀ (l a : List NI), (puts a l).Perm (a ++ l)
  | [], a => by rw [List.append_nil]; exact List.Perm.refl _
  | x :: l, a => by
    have h := puts_perm l (put a x)
    refine h.trans ?_
    have h2 := (put_perm a x).append_right l
    rw [List.append_assoc, List.singleton_append] at h2
    exact h2
theorem puts_srt : ∀ (l a : List NI), Srt a 0 a.length → Srt (puts a l) 0 (puts a l).length
  | [], _, h => h
  | x :: l, a, h => puts_srt l (put a x) (put_srt a x h)
theorem puts_length (l a : List NI) : (puts a l).length = a.length + l.length := by rw [(puts_perm l a).length_eq, List.length_append]
/-- The notes of the second list that go into the first one. -/
def fresh (a b : List NI) : List NI := b.filter (fun n => !hasB a n && !clashB a n)
theorem meJoin_ (a b : List NI) (ha : a.length ≤ 400000) (hb : b.length ≤ 400000) : Ev (fun k => spec_meJoin.f k a b) (puts a (fresh a b)) := by
  have key : ∀ d i : Nat, i + d = b.length → ∀ out : List NI, out.length ≤ 400000 + i → Ev (fun k => spec_meJoin.l0 k a out b (b.length : Int) (i : Int)) (puts out (fresh a (b.drop i))) := by
    intro d
    induction d with
    | zero =>
      intro i hi out _
      rw [List.drop_eq_nil_of_le (by omega)]
      exact Ev.step (fun _ => spec_meJoin.l0.eq_2 ..) (Ev.neg (by omega) (Ev.some rfl))
    | succ d ih =>
      intro i hi out ho
      have e : rd_T63 b (i : Int) = b[i]'(by omega) := by
        show b.getD i z63 = _
        rw [List.getD_eq_getElem?_getD, List.getElem?_eq_getElem (by omega)]
        rfl
      rw [List.drop_eq_getElem_cons (show i < b.length by omega), ← e]
      have h0 := ih (i + 1) (by omega) out (by omega)
      have h1 := ih (i + 1) (by omega) (put out (rd_T63 b (i : Int))) (by rw [put_length]; omega)
      rw [← wrap_succ (by omega)] at h0 h1
      have hp := tiPut_ out (by omega) (rd_T63 b (i : Int))
      refine Ev.step (fun _ => spec_meJoin.l0.eq_2 ..) (Ev.pos (by omega) (Ev.pos (by omega) (Ev.pos (by omega) (Ev.bind (meHas_ a (by omega) _) (Ev.ite (fun he => ?_) (fun he => ?_))))))
      · have e0 : fresh a (rd_T63 b (i : Int) :: b.drop (i + 1)) = fresh a (b.drop (i + 1)) := by
          unfold fresh
          rw [List.filter_cons, if_neg (by rw [he]; simp)]
        rw [e0]
        exact h0
      · refine Ev.bind (meClashes_ a (by omega) _) (Ev.ite (fun hc => ?_) (fun hc => ?_))
        · have e0 : fresh a (rd_T63 b (i : Int) :: b.drop (i + 1)) = fresh a (b.drop (i + 1)) := by
            unfold fresh
            rw [List.filter_cons, if_neg (by rw [hc]; simp)]
          rw [e0]
          exact h0
        · have e0 : fresh a (rd_T63 b (i : Int) :: b.drop (i + 1)) = rd_T63 b (i : Int) :: fresh a (b.drop (i + 1)) := by
            unfold fresh
            rw [List.filter_cons, if_pos (by rw [Bool.eq_false_iff.2 he, Bool.eq_false_iff.2 hc]; rfl)]
          rw [e0]
          exact Ev.bind hp h1
  have h := key b.length 0 (by omega) a (by omega)
  unfold spec_meJoin.f
  refine Ev.have rfl (Ev.pos (by simp only [List.length_nil]; omega) ?_)
  rw [List.drop_zero] at h
  exact h
/-! ### in order -/
theorem srt_of {l : List NI} (h : l.Pairwise (fun a b => a.f0 ≤ b.f0)) : Srt l 0 l.length := by
  intro p q _ h2 h3
  rw [List.pairwise_iff_getElem] at h
  unfold ky
  rw [atN_get (show p < l.length by omega), atN_get h3]
  exact h p q (by omega) h3 h2
theorem srt_filter {l : List NI} (h : Srt l 0 l.length) (p : NI → Bool) : Srt (l.filter p) 0 (l.filter p).length := srt_of ((srt_pairwise h).filter p)
theorem KB_filter {l : List NI} (h : KB l) (p : NI → Bool) : KB (l.filter p) := ⟨fun x hx => h.1 x (List.mem_filter.1 hx).1, Nat.le_trans (List.length_filter_le _ _) h.2⟩
theorem KB_append {l m : List NI} (h : KB l) (k : KB m) (hn : l.length + m.length ≤ 4398046511104) : KB (l ++ m) := ⟨fun x hx => (List.mem_append.1 hx).elim (h.1 x) (k.1 x), by rw [List.length_append]; exact hn⟩
theorem sized_filter {l : List NI} (h : Sized l) (p : NI → Bool) : Sized (l.filter p) := ⟨Nat.le_trans (List.length_filter_le _ _) h.1, fun x hx => h.2 x (List.mem_filter.1 hx).1⟩
theorem sized_append {l m : List NI} (h : Sized l) (k : Sized m) (hn : l.length ≤ 1000000) (hm : m.length ≤ 1000000) : Sized (l ++ m) := ⟨by rw [List.length_append]; omega, fun x hx => (List.mem_append.1 hx).elim (h.2 x) (k.2 x)⟩
/-- The notes of a tier do not conflict. -/
def Calm (l : List NI) : Prop := ∀ x, x ∈ l → ∀ y, y ∈ l → conf x y = false
theorem conf_self (x : NI) : conf x x = false := by unfold conf; simp
theorem tier_before {l : List NI} (h : tierB l = true) {i j : Nat} (hij : i < j) (hj : j < l.length) : (atN l i).f1 ≤ (atN l j).f0 := by
  have h1 := tier_at h hj
  have h2 := h1.2
  by_cases e : i = j - 1
  · rw [e]; omega
  · have h3 := tier_lt h (j - 1 - i - 1) i (j - 1) (by omega) (by omega)
    have h4 := note_in (tier_at h (show j - 1 < l.length by omega)).1
    have h5 := tier_at h (show i + 1 < l.length by omega)
    have h6 : ky l (i + 1) ≤ ky l (j - 1) := by
      rcases Nat.lt_or_ge (i + 1) (j - 1) with c | c
      · exact Int.le_of_lt (tier_lt h (j - 1 - (i + 1) - 1) (i + 1) (j - 1) (by omega) (by omega))
      · rw [show i + 1 = j - 1 by omega]; exact Int.le_refl _
    have h7 := h5.2
    rw [show i + 1 - 1 = i by omega] at h7
    unfold ky at h6
    omega
theorem tier_calm {l : List NI} (h : tierB l = true) : Calm l := by
  intro x hx y hy
  obtain ⟨i, hi, rfl⟩ := List.mem_iff_getElem.1 hx
  obtain ⟨j, hj, rfl⟩ := List.mem_iff_getElem.1 hy
  rcases Nat.lt_trichotomy i j with c | c | c
  · have := tier_before h c hj
    rw [atN_get hi, atN_get hj] at this
    unfold conf
    rw [decide_eq_false (show ¬ (l[j]).f0 < (l[i]).f1 by omega)]
    simp
  · subst c; exact conf_self _
  · have := tier_before h c hi
    rw [atN_get hi, atN_get hj] at this
    unfold conf
    rw [decide_eq_false (show ¬ (l[i]).f0 < (l[j]).f1 by omega)]
    simp
theorem calm_filter {l : List NI} (h : Calm l) (p : NI → Bool) : Calm (l.filter p) := fun x hx y hy => h x (List.mem_filter.1 hx).1 y (List.mem_filter.1 hy).1
def same (x y : NI) : Bool := x.f0 == y.f0 && (x.f1 == y.f1 && x.f2.toList == y.f2.toList)
theorem conf_same {x y : NI} (h : same x y = true) (m : NI) : conf m x = conf m y := by
  unfold same at h
  simp only [Bool.and_eq_true, beq_iff_eq] at h
  unfold conf
  rw [h.1, h.2.1, h.2.2]
theorem clash_sub {x : List NI} {n : NI} (p : NI → Bool) (h : clashB x n = false) : clashB (x.filter p) n = false := by
  unfold clashB at *
  rw [List.any_eq_false] at *
  exact fun a ha => h a (List.mem_filter.1 ha).1
/-- What the program adds to the notes of the first list. -/
theorem fresh_free (x y : List NI) (hy : Calm y) : fresh (x.filter (fun n => !clashB y n)) (y.filter (fun n => !clashB x n)) = (y.filter (fun n => !clashB x n)).filter (fun n => !hasB x n) := by
  unfold fresh
  refine List.filter_congr (fun n hn => ?_)
  obtain ⟨hn1, hn2⟩ := List.mem_filter.1 hn
  have h1 : clashB x n = false := by simpa using hn2
  rw [clash_sub _ h1]
  have h2 : hasB (x.filter (fun n => !clashB y n)) n = hasB x n := by
    unfold hasB
    rw [List.any_filter]
    congr 1
    funext a
    show (!clashB y a && same n a) = same n a
    cases hs : same n a with
    | false => simp
    | true =>
      have h3 : clashB y a = false := by
        unfold clashB
        rw [List.any_eq_false]
        intro m hm
        rw [← conf_same hs m, hy m hm n hn1]
        simp
      rw [h3]; rfl
  rw [h2]
  simp
theorem peaceful_ (x y : List NI) (hx : x.length ≤ 1000000) : impl_peaceful.f x y = some (x.filter (fun n => !clashB y n)) := by
  unfold impl_peaceful.f
  rw [if_pos (by omega)]
  have e : (fun n => !impl_peaceful.p y n) = (fun n => !clashB y n) := funext fun n => by
    show (!(y.any (conf n))) = (!(y.any (fun m => conf m n)))
    rw [show conf n = (fun m => conf m n) from funext fun m => conf_comm n m]
  rw [e]
theorem addedTo_ (x y : List NI) (hy : y.length ≤ 1000000) : impl_addedTo.f x y = some ((y.filter (fun n => !clashB x n)).filter (fun n => !hasB x n)) := by
  unfold impl_addedTo.f
  rw [peaceful_ y x hy]
  rfl
theorem fresh_length (a b : List NI) : (fresh a b).length ≤ b.length := List.length_filter_le _ _
/-- The whole of merging. -/
theorem merge_ (x y : List NI) (sx : Srt x 0 x.length) (cy : Calm y) (kx : KB x) (ky : KB y) (zx : Sized x) (zy : Sized y) (lx : x.length ≤ 1000) (ly : y.length ≤ 1000) : ∃ p : List NI, p.length ≤ 2000 ∧ Ev (fun k => spec_meMerge.f k x y) (tierOr p) ∧
    ((impl_peaceful.f x y).bind fun t => (impl_addedTo.f x y).bind fun u => some (t ++ u)) = some (x.filter (fun n => !clashB y n) ++ fresh (x.filter (fun n => !clashB y n)) (y.filter (fun n => !clashB x n))) ∧
    Ev (fun k => impl_sortedTier.f k (x.filter (fun n => !clashB y n) ++ fresh (x.filter (fun n => !clashB y n)) (y.filter (fun n => !clashB x n)))) (tierOr p) := by
  have e := fresh_free x y cy
  have h1 := meFree_ x y (by omega) (by omega)
  have h2 := meFree_ y x (by omega) (by omega)
  have hl1 : (x.filter (fun n => !clashB y n)).length ≤ x.length := List.length_filter_le _ _
  have hl2 : (y.filter (fun n => !clashB x n)).length ≤ y.length := List.length_filter_le _ _
  have sA := srt_filter sx (fun n => !clashB y n)
  have kA := KB_filter kx (fun n => !clashB y n)
  have zA := sized_filter zx (fun n => !clashB y n)
  have kB := KB_filter (KB_filter ky (fun n => !clashB x n)) (fun n => !hasB x n)
  have zB := sized_filter (sized_filter zy (fun n => !clashB x n)) (fun n => !hasB x n)
  rw [← e] at kB zB
  have h3 := peaceful_ x y (by omega)
  have h4 := addedTo_ x y (by omega)
  rw [← e] at h4
  generalize x.filter (fun n => !clashB y n) = A at *
  generalize y.filter (fun n => !clashB x n) = B at *
  have hf := fresh_length A B
  have h5 := meJoin_ A B (by omega) (by omega)
  have hp := puts_perm (fresh A B) A
  have hk := KB_append kA kB (by omega)
  have hz := sized_append zA zB (by omega) (by omega)
  refine ⟨puts A (fresh A B), by rw [puts_length]; omega, Ev.bind h1 (Ev.bind h2 (Ev.bind h5 (Ev.bind (MTier.tiIf_ _ (sized_perm hz hp)) (Ev.some rfl)))), by rw [h3, h4]; rfl, ?_⟩
  exact sortedTier_ _ _ hk hz hp (puts_srt _ _ sA)
theorem merged_ (x y : List NI) (sx : Srt x 0 x.length) (cy : Calm y) (kx : KB x) (ky : KB y) (zx : Sized x) (zy : Sized y) (lx : x.length ≤ 1000) (ly : y.length ≤ 1000) : ∃ (r : List NI) (c : List (List Int)) (q : Bool), r.length ≤ 2000 ∧ c.length ≤ 1000000 ∧ (∀ z, z ∈ c → z.length = 2) ∧
    Ev (fun k => (spec_meMerge.f k x y).bind fun bt => if bt.2 = true then ((spec_mePairs.f k x y).bind fun t => some (bt.1, t, true)) else some (([] : List NI), ([] : List (List Int)), false)) (r, c, q) ∧ Ev (fun k => impl_merged.f k x y) (r, c, q) := by
  obtain ⟨p, p1, p2, p3, p4⟩ := merge_ x y sx cy kx ky zx zy lx ly
  obtain ⟨c, c1, c2, c3, c4⟩ := MConf.pairs_ x y lx ly
  have h3 := peaceful_ x y (by omega)
  have h4 := addedTo_ x y (by omega)
  rw [h3, h4] at p3
  have p5 := Option.some.inj p3
  rw [← p5] at p4
  have hl1 : (x.filter (fun n => !clashB y n)).length ≤ x.length := List.length_filter_le _ _
  have hl2 : ((y.filter (fun n => !clashB x n)).filter (fun n => !hasB x n)).length ≤ y.length := Nat.le_trans (List.length_filter_le _ _) (List.length_filter_le _ _)
  unfold impl_merged.f
  cases ht : tierB p with
  | true =>
    have e : tierOr p = (p, true) := by unfold tierOr; rw [if_pos ht]
    rw [e] at p2 p4
    exact ⟨p, c, true, p1, c1, c2, Ev.bind p2 (Ev.pos rfl (Ev.bind c3 (Ev.some rfl))), Ev.have h3 (Ev.have h4 (Ev.pos (by omega) (Ev.bind p4 (Ev.pos rfl (Ev.bind c4 (Ev.some rfl))))))⟩
  | false =>
    have e : tierOr p = ([], false) := by unfold tierOr; rw [if_neg (by rw [ht]; simp)]
    rw [e] at p2 p4
    exact ⟨[], [], false, Nat.zero_le _, Nat.zero_le _, (fun z h => nomatch h), Ev.bind p2 (Ev.neg (by simp) (Ev.some rfl)), Ev.have h3 (Ev.have h4 (Ev.pos (by omega) (Ev.bind p4 (Ev.neg (by simp) (Ev.some rfl)))))⟩
end Go.Proofs.Ytmllkdgdkagkkaa.MJoin
end
section
/- The laws' marks on whole numbers: what is written into a list of numbers, and that it is found again. -/
namespace Go.Proofs.Ytmllkdgdkagkkaa.MMarkI
open Go.RowKit Go.Proofs.Ytmllkdgdkagkkaa.G Go.Proofs.YtmllkdgdkagkkaaW.PrintWords Go.Proofs.YtmllkdgdkagkkaaW.PrintLast Go.Proofs.Ytmllkdgdkagkkaa.MPure

def marksI (n : Int) (m : Nat) : List Int := (List.range m).map (fun i : Nat => n + (i : Int))
theorem marksI_length (n : Int) (m : Nat) : (marksI n m).length = m := by simp [marksI]
theorem marksI_get (n : Int) (m i : Nat) (h : i < m) : (marksI n m)[i]'(by rw [marksI_length]; exact h) = n + i := by simp [marksI]
theorem eqIntS_ (l : List Int) (hl : l.length ≤ 140737488351232) : Ev (fun k => laws_eqIntS.f k l l) true := by
  unfold laws_eqIntS.f
  refine Ev.pos rfl ?_
  have h := loop_all0 (L := fun k i => laws_eqIntS.l0 k l l i) l.length (fun _ => true) true ?_ ?_ ?_
  · exact Ev.eq h (by simp)
  · exact Ev.step (fun _ => laws_eqIntS.l0.eq_2 ..) (Ev.neg (by omega) (Ev.some rfl))
  · intro i hi _ r hr
    refine Ev.step (fun _ => laws_eqIntS.l0.eq_2 ..) (Ev.pos (by omega) (Ev.pos (by omega) (Ev.pos (by omega) (Ev.pos rfl ?_))))
    rw [wrap_succ (by omega)]
    exact hr
  · intro i _ h
    cases h
theorem markIntS_ (l : List Int) (hl : l.length ≤ 140737488351232) (n : Int) (h0 : 0 ≤ n) (h1 : n ≤ 1152921504606846976) : Ev (fun k => laws_markIntS.f k l n) (n + l.length, marksI n l.length) := by
  have key : ∀ d i : Nat, i + d = l.length → Ev (fun k => laws_markIntS.l0 k ((marksI n l.length).take i ++ l.drop i) (n + i) (i : Int)) (n + l.length, marksI n l.length) := by
    intro d
    induction d with
    | zero =>
      intro i hi
      have hlen := fill_length (xs := marksI n l.length) (ys := l) (by rw [marksI_length]) i
      rw [marksI_length] at hlen
      refine Ev.step (fun _ => laws_markIntS.l0.eq_2 ..) (Ev.neg (by omega) (Ev.some ?_))
      rw [fill_all (by rw [marksI_length]) (by rw [marksI_length]; omega)]
      obtain rfl : i = l.length := by omega
      rfl
    | succ d ih =>
      intro i hi
      have hlen := fill_length (xs := marksI n l.length) (ys := l) (by rw [marksI_length]) i
      rw [marksI_length] at hlen
      have h := ih (i + 1) (by omega)
      have e1 : wrap64 (n + (i : Int) + 1) = n + ((i + 1 : Nat) : Int) := by rw [wrap_in (by omega) (by omega)]; omega
      have ei : ((i : Int)).toNat = i := rfl
      refine Ev.step (fun _ => laws_markIntS.l0.eq_2 ..) (Ev.pos (by omega) (Ev.pos (by omega) ?_))
      rw [e1, wrap_succ (by omega), ei]
      have hs : ((marksI n l.length).take i ++ l.drop i).set i (n + i) = (marksI n l.length).take (i + 1) ++ l.drop (i + 1) := by
        rw [← marksI_get n l.length i (by omega)]
        exact set_fill (by rw [marksI_length]) (by rw [marksI_length]; omega)
      rw [hs]
      exact h
  have h := key l.length 0 (by omega)
  unfold laws_markIntS.f
  simpa using h
theorem heldIntS_ (m : Nat) (hl : m ≤ 140737488351232) (n : Int) (h0 : 0 ≤ n) (h1 : n ≤ 1152921504606846976) : Ev (fun k => laws_heldIntS.f k (marksI n m) n) (n + m) := by
  have key : ∀ d i : Nat, i + d = m → Ev (fun k => laws_heldIntS.l0 k (marksI n m) (n + i) (i : Int)) (n + m) := by
    intro d
    induction d with
    | zero =>
      intro i hi
      obtain rfl : i = m := by omega
      exact Ev.step (fun _ => laws_heldIntS.l0.eq_2 ..) (Ev.neg (by rw [marksI_length]; omega) (Ev.some rfl))
    | succ d ih =>
      intro i hi
      have h := ih (i + 1) (by omega)
      have e1 : wrap64 (n + (i : Int) + 1) = n + ((i + 1 : Nat) : Int) := by rw [wrap_in (by omega) (by omega)]; omega
      have er : rd (marksI n m) (i : Int) = n + i := by
        show (marksI n m).getD i 0 = _
        rw [List.getD_eq_getElem?_getD, List.getElem?_eq_getElem (by rw [marksI_length]; omega), marksI_get n m i (by omega)]
        rfl
      refine Ev.step (fun _ => laws_heldIntS.l0.eq_2 ..) (Ev.pos (by rw [marksI_length]; omega) (Ev.pos (by omega) ?_))
      rw [e1, wrap_succ (by omega), er]
      exact Ev.pos rfl h
  have h := key m 0 (by omega)
  unfold laws_heldIntS.f
  simpa using h
end Go.Proofs.Ytmllkdgdkagkkaa.MMarkI
end
section
/- The law's marks as texts: what markText comes to (that it comes to some text, and always to the same). -/
namespace Go.Proofs.Ytmllkdgdkagkkaa.MText
open Go.RowKit Go.Proofs.Ytmllkdgdkagkkaa.G Go.Proofs.YtmllkdgdkagkkaaW.PrintWords Go.Proofs.YtmllkdgdkagkkaaW.PrintLast Go.Proofs.Ytmllkdgdkagkkaa.MPure

theorem one_size (x : Int) : (strOfNums [x]).size = 1 := rfl
theorem markText_loop : ∀ d : Nat, d ≤ 40 → ∀ (a : Int) (s : ByteArray), 0 ≤ a → a < 10 ^ d → a ≤ 4611686018427387904 → s.size + d ≤ 100 → ∃ t, Ev (fun k => laws_markText.l0 k a s) t := by
  intro d
  induction d with
  | zero =>
    intro _ a s h0 h1 _ hs
    refine ⟨_, Ev.step (fun _ => laws_markText.l0.eq_2 ..) (Ev.neg (by simp at h1; omega) (Ev.pos (by omega) (Ev.some rfl)))⟩
  | succ d ih =>
    intro hd a s h0 h1 hb hs
    by_cases hp : a > 0
    · have e : wrap64 (Int.tdiv a 10) = a / 10 := by
        rw [Int.tdiv_eq_ediv_of_nonneg h0, wrap_in (by omega) (by omega)]
      have hlt : a / 10 < 10 ^ d := by
        rw [Int.pow_succ] at h1
        omega
      obtain ⟨t, ht⟩ := ih (by omega) (a / 10) (strOfNums [wrap64 (48 + Int.tmod a 10) % 256] ++ s) (by omega) hlt (by omega) (by rw [ByteArray.size_append, one_size]; omega)
      refine ⟨t, Ev.step (fun _ => laws_markText.l0.eq_2 ..) (Ev.pos hp (Ev.have rfl (Ev.pos (by rw [one_size]; omega) ?_)))⟩
      rw [e]
      exact ht
    · exact ⟨_, Ev.step (fun _ => laws_markText.l0.eq_2 ..) (Ev.neg hp (Ev.pos (by omega) (Ev.some rfl)))⟩
theorem markText_any (a : Int) (h0 : 0 ≤ a) (h1 : a ≤ 4611686018427387904) : ∃ t, Ev (fun k => laws_markText.f k a) t := by
  unfold laws_markText.f
  by_cases h : a ≤ 0
  · exact ⟨_, Ev.pos h (Ev.some rfl)⟩
  · obtain ⟨t, ht⟩ := markText_loop 19 (by omega) a ⟨#[]⟩ h0 (by have : (10 : Int) ^ 19 = 10000000000000000000 := by decide
                                                                 omega) h1 (by decide)
    exact ⟨t, Ev.neg h ht⟩
/-- The text of a mark. -/
noncomputable def mt (a : Int) : ByteArray := if h : 0 ≤ a ∧ a ≤ 4611686018427387904 then Classical.choose (markText_any a h.1 h.2) else ⟨#[]⟩
theorem markText_ (a : Int) (h0 : 0 ≤ a) (h1 : a ≤ 4611686018427387904) : Ev (fun k => laws_markText.f k a) (mt a) := by
  unfold mt
  rw [dif_pos ⟨h0, h1⟩]
  exact Classical.choose_spec (markText_any a h0 h1)
end Go.Proofs.Ytmllkdgdkagkkaa.MText
end
section
/- The laws' marks on notes: what is written into a list of notes, and that it is found again. -/
namespace Go.Proofs.Ytmllkdgdkagkkaa.MMarkN
open Go.RowKit Go.Proofs.Ytmllkdgdkagkkaa.G Go.Proofs.YtmllkdgdkagkkaaW.PrintWords Go.Proofs.YtmllkdgdkagkkaaW.PrintLast Go.Proofs.Ytmllkdgdkagkkaa.MPure Go.Proofs.Ytmllkdgdkagkkaa.MNote Go.Proofs.Ytmllkdgdkagkkaa.MText

noncomputable def mkN (n : Int) (i : Nat) : NI := ⟨n + 3 * i, n + 3 * i + 1, mt (n + 3 * i + 2)⟩
noncomputable def marksN (n : Int) (m : Nat) : List NI := (List.range m).map (mkN n)
theorem marksN_length (n : Int) (m : Nat) : (marksN n m).length = m := by simp [marksN]
theorem marksN_get (n : Int) (m i : Nat) (h : i < m) : (marksN n m)[i]'(by rw [marksN_length]; exact h) = mkN n i := by simp [marksN]
theorem rd_set (xs : List NI) (i : Nat) (v : NI) (h : i < xs.length) : rd_T63 (xs.set i v) (i : Int) = v := by
  show (xs.set i v).getD i z63 = v
  rw [List.getD_eq_getElem?_getD, List.getElem?_set_self h]
  rfl
theorem markNoteS_ (l : List NI) (hl : l.length ≤ 140737488351232) (n : Int) (h0 : 0 ≤ n) (h1 : n ≤ 1152921504606846976) : Ev (fun k => laws_markNoteS.f k l n) (n + 3 * l.length, marksN n l.length) := by
  have key : ∀ d i : Nat, i + d = l.length → Ev (fun k => laws_markNoteS.l0 k ((marksN n l.length).take i ++ l.drop i) (n + 3 * i) (i : Int)) (n + 3 * l.length, marksN n l.length) := by
    intro d
    induction d with
    | zero =>
      intro i hi
      have hlen := fill_length (xs := marksN n l.length) (ys := l) (by rw [marksN_length]) i
      rw [marksN_length] at hlen
      refine Ev.step (fun _ => laws_markNoteS.l0.eq_2 ..) (Ev.neg (by omega) (Ev.some ?_))
      rw [fill_all (by rw [marksN_length]) (by rw [marksN_length]; omega)]
      obtain rfl : i = l.length := by omega
      rfl
    | succ d ih =>
      intro i hi
      have hlen := fill_length (xs := marksN n l.length) (ys := l) (by rw [marksN_length]) i
      rw [marksN_length] at hlen
      have h := ih (i + 1) (by omega)
      have e1 : wrap64 (n + 3 * (i : Int) + 1) = n + 3 * i + 1 := wrap_in (by omega) (by omega)
      have e2 : wrap64 (n + 3 * (i : Int) + 1 + 1) = n + 3 * i + 2 := by rw [wrap_in (by omega) (by omega)]; omega
      have e3 : wrap64 (n + 3 * (i : Int) + 2 + 1) = n + 3 * ((i + 1 : Nat) : Int) := by rw [wrap_in (by omega) (by omega)]; omega
      refine Ev.step (fun _ => laws_markNoteS.l0.eq_2 ..) (Ev.pos (by omega) (Ev.pos (by omega) ?_))
      generalize hx : (marksN n l.length).take i ++ l.drop i = x at hlen ⊢
      have hix : i < x.length := by omega
      rw [e1, e2, e3, wrap_succ (by omega)]
      refine Ev.have rfl (Ev.have rfl (Ev.bind (markText_ _ (by omega) (by omega)) ?_))
      have ei : ((i : Int)).toNat = i := rfl
      rw [ei, rd_set _ i _ hix]
      simp only [List.set_set]
      rw [rd_set _ i _ hix, ← hx]
      have hs : ((marksN n l.length).take i ++ l.drop i).set i (mkN n i) = (marksN n l.length).take (i + 1) ++ l.drop (i + 1) := by
        rw [← marksN_get n l.length i (by omega)]
        exact set_fill (by rw [marksN_length]) (by rw [marksN_length]; omega)
      rw [← hs] at h
      exact h
  have h := key l.length 0 (by omega)
  unfold laws_markNoteS.f
  simpa using h
theorem heldNoteS_ (m : Nat) (hl : m ≤ 140737488351232) (n : Int) (h0 : 0 ≤ n) (h1 : n ≤ 1152921504606846976) : Ev (fun k => laws_heldNoteS.f k (marksN n m) n) (n + 3 * m) := by
  have key : ∀ d i : Nat, i + d = m → Ev (fun k => laws_heldNoteS.l0 k (marksN n m) (n + 3 * i) (i : Int)) (n + 3 * m) := by
    intro d
    induction d with
    | zero =>
      intro i hi
      obtain rfl : i = m := by omega
      exact Ev.step (fun _ => laws_heldNoteS.l0.eq_2 ..) (Ev.neg (by rw [marksN_length]; omega) (Ev.some rfl))
    | succ d ih =>
      intro i hi
      have h := ih (i + 1) (by omega)
      have e1 : wrap64 (n + 3 * (i : Int) + 1) = n + 3 * i + 1 := wrap_in (by omega) (by omega)
      have e2 : wrap64 (n + 3 * (i : Int) + 1 + 1) = n + 3 * i + 2 := by rw [wrap_in (by omega) (by omega)]; omega
      have e3 : wrap64 (n + 3 * (i : Int) + 2 + 1) = n + 3 * ((i + 1 : Nat) : Int) := by rw [wrap_in (by omega) (by omega)]; omega
      have er : rd_T63 (marksN n m) (i : Int) = mkN n i := by
        show (marksN n m).getD i z63 = _
        rw [List.getD_eq_getElem?_getD, List.getElem?_eq_getElem (by rw [marksN_length]; omega), marksN_get n m i (by omega)]
        rfl
      refine Ev.step (fun _ => laws_heldNoteS.l0.eq_2 ..) (Ev.pos (by rw [marksN_length]; omega) (Ev.pos (by omega) ?_))
      rw [e1, e2, e3, wrap_succ (by omega), er]
      exact Ev.pos rfl (Ev.pos rfl (Ev.bind (markText_ _ (by omega) (by omega)) (Ev.pos rfl h)))
  have h := key m 0 (by omega)
  unfold laws_heldNoteS.f
  simpa using h
end Go.Proofs.Ytmllkdgdkagkkaa.MMarkN
end
section
/- The laws' marks on rows of rows of numbers: what they come to, and that they are held. -/
namespace Go.Proofs.Ytmllkdgdkagkkaa.MMarkSS
open Go.RowKit Go.Proofs.Ytmllkdgdkagkkaa.G Go.Proofs.YtmllkdgdkagkkaaW.PrintWords Go.Proofs.YtmllkdgdkagkkaaW.PrintLast Go.Proofs.Ytmllkdgdkagkkaa.MPure Go.Proofs.Ytmllkdgdkagkkaa.MMarkI

def tot : List (List Int) → Nat
  | [] => 0
  | q :: l => q.length + tot l
def marksSS (n : Int) : List (List Int) → List (List Int)
  | [] => []
  | q :: l => marksI n q.length :: marksSS (n + (q.length : Int)) l
theorem marksSS_length : ∀ (l : List (List Int)) (n : Int), (marksSS n l).length = l.length
  | [], _ => rfl
  | q :: l, n => by simp [marksSS, marksSS_length l]
theorem marksSS_get : ∀ (l : List (List Int)) (n : Int) (j : Nat), j < l.length → (marksSS n l).getD j [] = marksI (n + (tot (l.take j) : Int)) (l.getD j []).length
  | [], _, _, h => absurd h (Nat.not_lt_zero _)
  | q :: l, n, 0, _ => by simp [marksSS, tot]
  | q :: l, n, j + 1, h => by
    have ih := marksSS_get l (n + (q.length : Int)) j (by simpa using h)
    simp only [marksSS, List.getD_cons_succ, List.take_succ_cons, tot]
    rw [ih, show n + (q.length : Int) + (tot (l.take j) : Int) = n + ((q.length + tot (l.take j) : Nat) : Int) by omega]
theorem tot_take : ∀ (l : List (List Int)) (j : Nat), j < l.length → tot (l.take (j + 1)) = tot (l.take j) + (l.getD j []).length
  | [], _, h => absurd h (Nat.not_lt_zero _)
  | q :: l, 0, _ => by simp [tot]
  | q :: l, j + 1, h => by
    have ih := tot_take l j (by simpa using h)
    simp only [List.take_succ_cons, tot, List.getD_cons_succ]
    rw [ih]
    omega
theorem tot_le : ∀ (l : List (List Int)) (j : Nat), tot (l.take j) ≤ tot l
  | [], j => by simp [tot]
  | q :: l, 0 => by simp [tot]
  | q :: l, j + 1 => by
    have := tot_le l j
    simp only [List.take_succ_cons, tot]
    omega
theorem tot_two : ∀ (l : List (List Int)), (∀ q, q ∈ l → q.length = 2) → tot l = 2 * l.length
  | [], _ => rfl
  | q :: l, h => by
    have h1 := h q (List.mem_cons_self ..)
    have h2 := tot_two l (fun x hx => h x (List.mem_cons_of_mem _ hx))
    simp only [tot, List.length_cons]
    omega
theorem row_le (l : List (List Int)) (j : Nat) (h : j < l.length) : (l.getD j []).length ≤ tot l := by
  have h1 := tot_take l j h
  have h2 := tot_le l (j + 1)
  omega
theorem eqIntSS_ (l : List (List Int)) (hl : l.length ≤ 140737488351232) (ht : tot l ≤ 140737488351232) : Ev (fun k => laws_eqIntSS.f k l l) true := by
  unfold laws_eqIntSS.f
  refine Ev.pos rfl ?_
  have h := loop_all0 (L := fun k i => laws_eqIntSS.l0 k l l i) l.length (fun _ => true) true (Ev.step (fun _ => laws_eqIntSS.l0.eq_2 ..) (Ev.neg (by omega) (Ev.some rfl)))
    (fun i hi _ r ih => by
      rw [← wrap_succ (by omega)] at ih
      refine Ev.step (fun _ => laws_eqIntSS.l0.eq_2 ..) (Ev.pos (by omega) (Ev.pos (by omega) (Ev.pos (by omega) (Ev.bind (eqIntS_ _ ?_) (Ev.pos rfl ih)))))
      exact Nat.le_trans (row_le l i hi) ht)
    (fun _ _ h => by cases h)
  exact Ev.eq h (by simp)
theorem markSS_ : ∀ (l : List (List Int)) (n : Int), 0 ≤ n → n + tot l ≤ 140737488351232 → Ev (fun k => laws_markIntSS.f k l n) (n + (tot l : Int), marksSS n l)
  | [], n, _, _ => Ev.some (by simp [tot, marksSS])
  | q :: l, n, h0, h1 => by
    have h2 : tot (q :: l) = q.length + tot l := rfl
    have ih := markSS_ l (n + (q.length : Int)) (by omega) (by omega)
    show Ev (fun k => (laws_markIntS.f k q n).bind fun t => (laws_markIntSS.f k l t.1).bind fun u => some (u.1, t.2 :: u.2)) _
    refine Ev.bind (markIntS_ q (by omega) n h0 (by omega)) (Ev.bind ih (Ev.some ?_))
    rw [h2]
    simp only [marksSS, Prod.mk.injEq, and_true]
    omega
theorem heldSS_ (l : List (List Int)) (n : Int) (h0 : 0 ≤ n) (h1 : n + tot l ≤ 140737488351232) (hl : l.length ≤ 140737488351232) : Ev (fun k => laws_heldIntSS.f k (marksSS n l) n) (n + (tot l : Int)) := by
  have hlen := marksSS_length l n
  have key : ∀ d j : Nat, j + d = l.length → Ev (fun k => laws_heldIntSS.l0 k (marksSS n l) (n + (tot (l.take j) : Int)) (j : Int)) (n + (tot l : Int)) := by
    intro d
    induction d with
    | zero =>
      intro j hj
      rw [List.take_of_length_le (by omega)]
      exact Ev.step (fun _ => laws_heldIntSS.l0.eq_2 ..) (Ev.neg (by rw [hlen]; omega) (Ev.some rfl))
    | succ d ih =>
      intro j hj
      have h := ih (j + 1) (by omega)
      have ht := tot_take l j (by omega)
      have hle := tot_le l (j + 1)
      rw [ht, ← wrap_succ (by omega)] at h
      have hh := heldIntS_ (l.getD j []).length (by omega) (n + (tot (l.take j) : Int)) (by omega) (by omega)
      rw [← marksSS_get l n j (by omega)] at hh
      refine Ev.step (fun _ => laws_heldIntSS.l0.eq_2 ..) (Ev.pos (by rw [hlen]; omega) (Ev.pos (by omega) (Ev.bind hh (Ev.neg (by omega) ?_))))
      rw [show n + ((tot (l.take j) + (l.getD j []).length : Nat) : Int) = n + (tot (l.take j) : Int) + ((l.getD j []).length : Int) by omega] at h
      exact h
  have h := key l.length 0 (by omega)
  unfold laws_heldIntSS.f
  simpa [tot] using h
/-- All that an exact law asks of a list of pairs. -/
theorem facts (r : List (List Int)) (g1 : r.length ≤ 1000000) (g2 : ∀ q, q ∈ r → q.length = 2) : ∃ (n : Int) (s : List (List Int)) (K : Nat), 0 ≤ n ∧ ∀ k, K ≤ k → laws_eqIntSS.f k r r = some true ∧ laws_markIntSS.f k r 1 = some (n, s) ∧ laws_heldIntSS.f k s 1 = some n := by
  have htot := tot_two r g2
  obtain ⟨K1, h1⟩ := eqIntSS_ r (by omega) (by omega)
  obtain ⟨K2, h2⟩ := markSS_ r 1 (by omega) (by omega)
  obtain ⟨K3, h3⟩ := heldSS_ r 1 (by omega) (by omega) (by omega)
  exact ⟨_, _, K1 + K2 + K3, by omega, fun k hk => ⟨h1 k (by omega), h2 k (by omega), h3 k (by omega)⟩⟩
end Go.Proofs.Ytmllkdgdkagkkaa.MMarkSS
end
