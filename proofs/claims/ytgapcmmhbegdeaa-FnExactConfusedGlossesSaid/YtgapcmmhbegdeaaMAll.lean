/- Plain laws of the functions that the claim's functions call: what they compute, with no program in sight. No condition. -/
import Derived.Test.YtgapcmmhbegdeaaWAll
import Derived.Lib.Bytealg
import Derived.Test.YtgapcmmhbegdeaaMBase
import Derived.Test.YtgapcmmhbegdeaaG1
import Derived.Test.YtgapcmmhbegdeaaG7
import Derived.Test.YtgapcmmhbegdeaaG0
import Derived.Test.YtgapcmmhbegdeaaG3
import Derived.Test.YtgapcmmhbegdeaaG4
import Derived.Test.YtgapcmmhbegdeaaG6
import Derived.Test.YtgapcmmhbegdeaaG8
import Derived.Test.YtgapcmmhbegdeaaG32
import Derived.Test.YtgapcmmhbegdeaaG34
import Derived.Test.YtgapcmmhbegdeaaG2
import Derived.Test.YtgapcmmhbegdeaaG5
import Derived.Test.YtgapcmmhbegdeaaG10
import Derived.Test.YtgapcmmhbegdeaaG94
section
/- Plain lemmas on rounds, lists and numbers, for the laws' pure statements: no program in sight. -/
namespace Go.Proofs.Ytgapcmmhbegdeaa.MPure
open Go.RowKit Go.Proofs.YtgapcmmhbegdeaaW.PrintWords Go.Proofs.YtgapcmmhbegdeaaW.PrintLast

theorem Ev.pos {α : Type} {c : Prop} [Decidable c] {f g : Nat → Option α} {r : α} (h : c) (k : Ev f r) : Ev (fun n => if c then f n else g n) r := by
  simpa only [if_pos h] using k
theorem Ev.neg {α : Type} {c : Prop} [Decidable c] {f g : Nat → Option α} {r : α} (h : ¬ c) (k : Ev g r) : Ev (fun n => if c then f n else g n) r := by
  simpa only [if_neg h] using k
theorem Ev.some {α : Type} {a r : α} (h : a = r) : Ev (fun _ => Option.some a) r := h ▸ Ev.now a
theorem Ev.have {α β : Type} {a : Option α} {x : α} {f : Nat → α → Option β} {r : β} (h : a = .some x) (k : Ev (fun n => f n x) r) : Ev (fun n => a.bind (f n)) r := by
  subst h
  exact k
theorem Ev.ite {α : Type} {c : Prop} [Decidable c] {f g : Nat → Option α} {r : α} (h : c → Ev f r) (k : ¬ c → Ev g r) : Ev (fun n => if c then f n else g n) r := by
  by_cases hc : c
  · exact Ev.pos hc (h hc)
  · exact Ev.neg hc (k hc)
theorem Ev.eq {α : Type} {g : Nat → Option α} {a r : α} (k : Ev g a) (h : a = r) : Ev g r := h ▸ k
theorem wrap_in {n : Int} (h : -9223372036854775808 ≤ n) (h' : n ≤ 9223372036854775807) : wrap64 n = n := by unfold wrap64; omega
theorem wrap_succ {i : Nat} (h : i ≤ 9223372036854775806) : wrap64 ((i : Int) + 1) = ((i + 1 : Nat) : Int) := by unfold wrap64; omega
theorem wrap_pred {i : Nat} (h0 : 0 < i) (h : i ≤ 9223372036854775806) : wrap64 ((i : Int) - 1) = ((i - 1 : Nat) : Int) := by unfold wrap64; omega
/-- A loop that stops with 'false' at the first place at which p does not hold, and answers e behind the last one. -/
theorem loop_all {L : Nat → Int → Option Bool} (n : Nat) (p : Nat → Bool) (e : Bool) (hend : Ev (fun k => L k (n : Int)) e)
    (hyes : ∀ i : Nat, i < n → p i = true → ∀ r, Ev (fun k => L k ((i + 1 : Nat) : Int)) r → Ev (fun k => L k (i : Int)) r) (hno : ∀ i : Nat, i < n → p i = false → Ev (fun k => L k (i : Int)) false) :
    ∀ d i : Nat, i + d = n → Ev (fun k => L k (i : Int)) ((List.range' i d).all p && e)
  | 0, i, h => by
    have : i = n := by omega
    subst this
    simpa using hend
  | d + 1, i, h => by
    have hi : i < n := by omega
    cases hp : p i with
    | true =>
      have ih := loop_all n p e hend hyes hno d (i + 1) (by omega)
      have := hyes i hi hp _ ih
      simpa [List.range'_succ, hp] using this
    | false =>
      have := hno i hi hp
      simpa [List.range'_succ, hp] using this
/-- The same from its begin. -/
theorem loop_all0 {L : Nat → Int → Option Bool} (n : Nat) (p : Nat → Bool) (e : Bool) (hend : Ev (fun k => L k (n : Int)) e)
    (hyes : ∀ i : Nat, i < n → p i = true → ∀ r, Ev (fun k => L k ((i + 1 : Nat) : Int)) r → Ev (fun k => L k (i : Int)) r) (hno : ∀ i : Nat, i < n → p i = false → Ev (fun k => L k (i : Int)) false) :
    Ev (fun k => L k 0) ((List.range n).all p && e) := by
  have h := loop_all n p e hend hyes hno n 0 (by omega)
  rw [← List.range_eq_range'] at h
  exact h

theorem all_congr {n : Nat} {p q : Nat → Bool} (h : ∀ i, i < n → p i = q i) : (List.range n).all p = (List.range n).all q := by
  rw [Bool.eq_iff_iff]
  simp only [List.all_eq_true, List.mem_range]
  constructor
  · exact fun H i hi => by rw [← h i hi]; exact H i hi
  · exact fun H i hi => by rw [h i hi]; exact H i hi

/-- A list that is filled from its begin. -/
theorem set_fill {α : Type} {xs ys : List α} (h : ys.length = xs.length) {i : Nat} (hi : i < xs.length) : (xs.take i ++ ys.drop i).set i xs[i] = xs.take (i + 1) ++ ys.drop (i + 1) := by
  rw [List.set_append, if_neg (by simp; omega)]
  have : i - (List.take i xs).length = 0 := by simp; omega
  rw [this, List.drop_eq_getElem_cons (show i < ys.length by omega), List.set_cons_zero, List.take_succ_eq_append_getElem hi, List.append_assoc]
  rfl
theorem fill_all {α : Type} {xs ys : List α} (h : ys.length = xs.length) {i : Nat} (hi : xs.length ≤ i) : xs.take i ++ ys.drop i = xs := by
  rw [List.take_of_length_le hi, List.drop_of_length_le (by omega), List.append_nil]
theorem fill_length {α : Type} {xs ys : List α} (h : ys.length = xs.length) (i : Nat) : (xs.take i ++ ys.drop i).length = xs.length := by
  simp; omega
end Go.Proofs.Ytgapcmmhbegdeaa.MPure
end
section
/- Loops that search, by lists alone. -/
namespace Go.Proofs.Ytgapcmmhbegdeaa.MAt0
open Go.RowKit Go.Proofs.YtgapcmmhbegdeaaW.PrintWords Go.Proofs.YtgapcmmhbegdeaaW.PrintLast Go.Proofs.Ytgapcmmhbegdeaa.MPure

theorem idxOf_congr {α : Type} {p q : α → Bool} {l : List α} (h : ∀ x, x ∈ l → p x = q x) : idxOf p l = idxOf q l := by
  have : l.findIdx? p = l.findIdx? q := by
    induction l with
    | nil => rfl
    | cons x l ih =>
      rw [List.findIdx?_cons, List.findIdx?_cons, h x List.mem_cons_self, ih (fun y hy => h y (List.mem_cons_of_mem _ hy))]
  unfold idxOf
  rw [this]
theorem idxOf_range {α : Type} (p : α → Bool) (l : List α) : -1 ≤ idxOf p l ∧ idxOf p l < (l.length : Int) := by
  unfold idxOf
  cases h : l.findIdx? p with
  | none => exact ⟨by decide, by show (-1 : Int) < _; omega⟩
  | some i =>
    have := (List.findIdx?_eq_some_iff_getElem.1 h).1
    exact ⟨by show (-1 : Int) ≤ (i : Int); omega, by show (i : Int) < _; omega⟩

end Go.Proofs.Ytgapcmmhbegdeaa.MAt0
end
section
/- Words: what the printed functions on texts of some letters come to. -/
namespace Go.Proofs.Ytgapcmmhbegdeaa.MWord
open Go.RowKit Go.Proofs.Ytgapcmmhbegdeaa.G Go.Proofs.YtgapcmmhbegdeaaW.PrintWords Go.Proofs.YtgapcmmhbegdeaaW.PrintLast Go.Proofs.Ytgapcmmhbegdeaa.MPure

/-- 1 to 8 bytes, of each of which p holds. -/
def wordB (p : Int → Bool) (s : ByteArray) : Bool := (List.range s.size).all (fun i => p (bt s (i : Int))) && decide (1 ≤ (s.size : Int) ∧ (s.size : Int) ≤ 8)
def capB (c : Int) : Bool := decide (65 ≤ c ∧ c ≤ 90)
theorem l1In_ (a b c : Int) : spec_l1In.f a b c = some (decide (b ≤ a ∧ a ≤ c)) := by
  unfold spec_l1In.f
  by_cases h : a ≥ b
  · rw [if_pos h]; simp [show b ≤ a from h]
  · rw [if_neg h]; simp [show ¬ b ≤ a from h]
theorem within_ (a b c : Int) : impl_within.f a b c = some (decide (b ≤ a ∧ a ≤ c)) := by
  unfold impl_within.f
  by_cases h : a ≥ b
  · rw [if_pos h]; simp [show b ≤ a from h]
  · rw [if_neg h]; simp [show ¬ b ≤ a from h]

/-- Which bytes are among some letters. -/
def amongB (ls : ByteArray) (c : Int) : Bool := decide (0 ≤ Lib.indexByte ls.data.toList c.toNat.toUInt8)
theorem hasOnly_ (s ls : ByteArray) (hs : s.size ≤ 140737488351232) : Ev (fun k => impl_hasOnly.f k s ls) ((List.range s.size).all (fun i => amongB ls (bt s (i : Int)))) := by
  refine Ev.eq (loop_all0 (L := fun k i => impl_hasOnly.l0 k s ls (s.size : Int) i) s.size (fun i => amongB ls (bt s (i : Int))) true ?_ ?_ ?_) (Bool.and_true _)
  · refine Ev.step (f := fun _ => _) (fun k => ?_) (Ev.some rfl)
    simp only [impl_hasOnly.l0]
    rw [if_neg (by omega)]
  · intro i hi hp r hr
    refine Ev.step (f := fun k => impl_hasOnly.l0 k s ls (s.size : Int) ((i + 1 : Nat) : Int)) (fun k => ?_) hr
    simp only [amongB, decide_eq_true_eq] at hp
    simp only [impl_hasOnly.l0, strings_IndexByte.f, Option.bind_some]
    rw [if_pos (by omega), if_pos (by omega), if_pos (by omega), if_neg (by omega), wrap_succ (by omega)]
  · intro i hi hp
    refine Ev.step (f := fun k => some false) (fun k => ?_) (Ev.some rfl)
    simp only [amongB, decide_eq_false_iff_not] at hp
    simp only [impl_hasOnly.l0, strings_IndexByte.f, Option.bind_some]
    rw [if_pos (by omega), if_pos (by omega), if_pos (by omega), if_pos (by omega)]
theorem isWordOf_ (s ls : ByteArray) (hs : s.size ≤ 140737488351232) : Ev (fun k => impl_isWordOf.f k s ls) (wordB (amongB ls) s) := by
  unfold impl_isWordOf.f
  refine Ev.have (within_ _ _ _) (Ev.ite (fun h => ?_) (fun h => ?_))
  · refine Ev.bind (hasOnly_ s ls hs) (Ev.some ?_)
    simp only [wordB]
    rw [h, Bool.and_true]
  · refine Ev.some ?_
    simp only [wordB]
    rw [Bool.eq_false_iff.2 h, Bool.and_false]
/-- The capital letters, as the program has them. -/
theorem caps (c : Int) (h0 : 0 ≤ c) (h1 : c ≤ 255) : amongB (⟨#[65, 66, 67, 68, 69, 70, 71, 72, 73, 74, 75, 76, 77, 78, 79, 80, 81, 82, 83, 84, 85, 86, 87, 88, 89, 90]⟩ : ByteArray) c = capB c := by
  have key : ∀ n : Nat, n < 256 → amongB (⟨#[65, 66, 67, 68, 69, 70, 71, 72, 73, 74, 75, 76, 77, 78, 79, 80, 81, 82, 83, 84, 85, 86, 87, 88, 89, 90]⟩ : ByteArray) (n : Int) = capB (n : Int) := by decide +kernel
  obtain ⟨n, rfl⟩ := Int.eq_ofNat_of_zero_le h0
  exact key n (by omega)
theorem wordB_congr {p q : Int → Bool} (h : ∀ c, 0 ≤ c → c ≤ 255 → p c = q c) (s : ByteArray) : wordB p s = wordB q s := by
  unfold wordB
  rw [all_congr (fun i _ => h _ (bt_range s _).1 (bt_range s _).2)]
theorem isWord_ (s : ByteArray) (hs : s.size ≤ 140737488351232) : Ev (fun k => impl_isWordOf.f k s (⟨#[65, 66, 67, 68, 69, 70, 71, 72, 73, 74, 75, 76, 77, 78, 79, 80, 81, 82, 83, 84, 85, 86, 87, 88, 89, 90]⟩ : ByteArray)) (wordB capB s) :=
  Ev.eq (isWordOf_ s _ hs) (wordB_congr caps s)

end Go.Proofs.Ytgapcmmhbegdeaa.MWord
end
section
/- What the printed functions on notes and tiers come to, by numbers and lists alone: words, notes, tiers, the copies and the comparison that the exact laws use. -/
namespace Go.Proofs.Ytgapcmmhbegdeaa.MNote
open Go.RowKit Go.Proofs.Ytgapcmmhbegdeaa.G Go.Proofs.YtgapcmmhbegdeaaW.PrintWords Go.Proofs.YtgapcmmhbegdeaaW.PrintLast Go.Proofs.Ytgapcmmhbegdeaa.MPure Go.Proofs.Ytgapcmmhbegdeaa.MWord

theorem fsWord_ (s : ByteArray) (hs : s.size ≤ 140737488351232) : Ev (fun k => spec_fsWord.f k s) (wordB capB s) := by
  refine loop_all0 (L := fun k i => spec_fsWord.l0 k s i) s.size (fun i => capB (bt s (i : Int))) _ ?_ ?_ ?_
  · refine Ev.step (f := fun _ => _) (fun k => ?_) (Ev.some rfl)
    simp only [spec_fsWord.l0]
    rw [if_neg (by omega), l1In_]
    rfl
  · intro i hi hp r hr
    refine Ev.step (f := fun k => spec_fsWord.l0 k s ((i + 1 : Nat) : Int)) (fun k => ?_) hr
    simp only [capB, decide_eq_true_eq] at hp
    simp only [spec_fsWord.l0]
    rw [if_pos (by omega), if_pos (by omega), if_neg (by omega), if_neg (by omega), wrap_succ (by omega)]
  · intro i hi hp
    simp only [capB, decide_eq_false_iff_not] at hp
    by_cases h : bt s (i : Int) < 65
    · refine Ev.step (f := fun k => some false) (fun k => ?_) (Ev.some rfl)
      simp only [spec_fsWord.l0]
      rw [if_pos (by omega), if_pos (by omega), if_pos h]
    · refine Ev.step (f := fun k => some false) (fun k => ?_) (Ev.some rfl)
      simp only [spec_fsWord.l0]
      rw [if_pos (by omega), if_pos (by omega), if_neg h, if_pos (by omega)]

/-! ### notes -/
def frameB (n : Int) : Bool := decide (0 ≤ n ∧ n ≤ 99999)
def noteB (f t : Int) (g : ByteArray) : Bool := frameB f && frameB t && decide (f < t) && wordB capB g
theorem tiFrame_ (a : Int) : spec_tiFrame.f a = some (frameB a) := by
  unfold spec_tiFrame.f
  rw [l1In_]
  rfl
theorem isFrame_ (a : Int) : impl_isFrame.f a = some (frameB a) := by
  unfold impl_isFrame.f
  rw [within_]
  rfl
theorem tiNote_ (f t : Int) (g : ByteArray) (hg : g.size ≤ 140737488351232) : Ev (fun k => spec_tiNote.f k f t g) (noteB f t g) := by
  unfold spec_tiNote.f noteB
  refine Ev.have (tiFrame_ _) (Ev.ite (fun h => ?_) (fun h => Ev.some (by rw [Bool.eq_false_iff.2 h]; rfl)))
  refine Ev.have (tiFrame_ _) (Ev.ite (fun h2 => ?_) (fun h2 => Ev.some (by rw [Bool.eq_false_iff.2 h2]; simp)))
  refine Ev.ite (fun h3 => ?_) (fun h3 => Ev.some (by simp [h3]))
  exact Ev.bind (fsWord_ g hg) (Ev.some (by simp [h, h2, h3]))
theorem IsNote_ (f t : Int) (g : ByteArray) (hg : g.size ≤ 140737488351232) : Ev (fun k => impl_IsNote.f k f t g) (noteB f t g) := by
  unfold impl_IsNote.f noteB
  refine Ev.have (isFrame_ _) (Ev.ite (fun h => ?_) (fun h => Ev.some (by rw [Bool.eq_false_iff.2 h]; rfl)))
  refine Ev.have (isFrame_ _) (Ev.ite (fun h2 => ?_) (fun h2 => Ev.some (by rw [Bool.eq_false_iff.2 h2]; simp)))
  refine Ev.ite (fun h3 => ?_) (fun h3 => Ev.some (by simp [h3]))
  exact Ev.bind (isWord_ g hg) (Ev.some (by simp [h, h2, h3]))
theorem szNote_ (f t : Int) (g : ByteArray) (hg : g.size ≤ 140737488351232) (n : Int) (h0 : 0 ≤ n) (h1 : n ≤ 1048576) : laws_szNote.f f t g n = some (if n - (g.size : Int) < 0 then -1 else n - (g.size : Int)) := by
  unfold laws_szNote.f
  rw [wrap_in (by omega) (by omega)]
  split <;> rfl

/-! ### tiers -/
abbrev NI := S58
abbrev NL := S127
def atN (l : List NI) (i : Nat) : NI := l.getD i z58
theorem atN_mem {l : List NI} {i : Nat} (h : i < l.length) : atN l i ∈ l := by
  unfold atN
  rw [List.getD_eq_getElem?_getD, List.getElem?_eq_getElem h]
  exact List.getElem_mem h
/-- What the notes' texts bear. -/
def Sized (l : List NI) : Prop := l.length ≤ 140737488351232 ∧ ∀ x, x ∈ l → x.f2.size ≤ 140737488351232
def tierP (l : List NI) (i : Nat) : Bool := noteB (atN l i).f0 (atN l i).f1 (atN l i).f2 && (decide (i = 0) || decide ((atN l (i - 1)).f1 ≤ (atN l i).f0))
def tierB (l : List NI) : Bool := (List.range l.length).all (tierP l) && decide ((l.length : Int) ≤ 40)

theorem tiGood_ (l : List NI) (hl : Sized l) : Ev (fun k => spec_tiGood.f k l) (tierB l) := by
  obtain ⟨hn, hs⟩ := hl
  refine loop_all0 (L := fun k i => spec_tiGood.l0 k l l (l.length : Int) i) l.length (tierP l) _ ?_ ?_ ?_
  · exact Ev.step (fun _ => spec_tiGood.l0.eq_2 ..) (Ev.neg (by omega) (Ev.some rfl))
  · intro i hi hp r hr
    simp only [tierP, Bool.and_eq_true] at hp
    refine Ev.step (fun _ => spec_tiGood.l0.eq_2 ..) (Ev.pos (by omega) (Ev.pos (by omega) (Ev.pos (by omega) (Ev.bind (tiNote_ _ _ _ (hs _ (atN_mem hi))) (Ev.pos hp.1 (Ev.ite (fun h0 => ?_) (fun h0 => ?_)))))))
    · rw [wrap_pred (by omega) (by omega)]
      refine Ev.pos (by omega) (Ev.pos (by omega) (Ev.neg ?_ ?_))
      · have := hp.2
        simp only [Bool.or_eq_true, decide_eq_true_eq] at this
        have h : (atN l (i - 1)).f1 ≤ (atN l i).f0 := by
          rcases this with h | h
          · omega
          · exact h
        exact Int.not_lt.2 h
      · rw [wrap_succ (by omega)]
        exact hr
    · rw [wrap_succ (by omega)]
      exact hr
  · intro i hi hp
    refine Ev.step (fun _ => spec_tiGood.l0.eq_2 ..) (Ev.pos (by omega) (Ev.pos (by omega) (Ev.pos (by omega) (Ev.bind (tiNote_ _ _ _ (hs _ (atN_mem hi))) (Ev.ite (fun h1 => ?_) (fun _ => Ev.some rfl))))))
    simp only [tierP, Bool.and_eq_false_iff, Bool.or_eq_false_iff, decide_eq_false_iff_not] at hp
    rcases hp with hp | ⟨hp, hq⟩
    · exact absurd (h1.symm.trans hp) (by decide)
    · refine Ev.pos (by omega) ?_
      rw [wrap_pred (by omega) (by omega)]
      exact Ev.pos (by omega) (Ev.pos (by omega) (Ev.pos (Int.not_le.1 hq) (Ev.some rfl)))
theorem IsTier_ (l : List NI) (hl : Sized l) : Ev (fun k => impl_IsTier.f k l) (tierB l) := by
  obtain ⟨hn, hs⟩ := hl
  refine loop_all0 (L := fun k i => impl_IsTier.l0 k l l (l.length : Int) i) l.length (tierP l) _ ?_ ?_ ?_
  · exact Ev.step (fun _ => impl_IsTier.l0.eq_2 ..) (Ev.neg (by omega) (Ev.some rfl))
  · intro i hi hp r hr
    simp only [tierP, Bool.and_eq_true] at hp
    refine Ev.step (fun _ => impl_IsTier.l0.eq_2 ..) (Ev.pos (by omega) (Ev.pos (by omega) (Ev.pos (by omega) (Ev.bind (IsNote_ _ _ _ (hs _ (atN_mem hi))) (Ev.pos hp.1 (Ev.ite (fun h0 => ?_) (fun h0 => ?_)))))))
    · rw [wrap_pred (by omega) (by omega)]
      refine Ev.pos (by omega) (Ev.pos (by omega) (Ev.neg ?_ ?_))
      · have := hp.2
        simp only [Bool.or_eq_true, decide_eq_true_eq] at this
        have h : (atN l (i - 1)).f1 ≤ (atN l i).f0 := by
          rcases this with h | h
          · omega
          · exact h
        exact Int.not_lt.2 h
      · rw [wrap_succ (by omega)]
        exact hr
    · rw [wrap_succ (by omega)]
      exact hr
  · intro i hi hp
    refine Ev.step (fun _ => impl_IsTier.l0.eq_2 ..) (Ev.pos (by omega) (Ev.pos (by omega) (Ev.pos (by omega) (Ev.bind (IsNote_ _ _ _ (hs _ (atN_mem hi))) (Ev.ite (fun h1 => ?_) (fun _ => Ev.some rfl))))))
    simp only [tierP, Bool.and_eq_false_iff, Bool.or_eq_false_iff, decide_eq_false_iff_not] at hp
    rcases hp with hp | ⟨hp, hq⟩
    · exact absurd (h1.symm.trans hp) (by decide)
    · refine Ev.pos (by omega) ?_
      rw [wrap_pred (by omega) (by omega)]
      exact Ev.pos (by omega) (Ev.pos (by omega) (Ev.pos (Int.not_le.1 hq) (Ev.some rfl)))

/-! ### what the exact laws do with notes: sizes, copies, comparison -/
def conv (x : NL) : NI := ⟨x.f0, x.f1, x.f2⟩
/-- What a law's notes bear, as the row tells it. -/
def Given (l : List NL) : Prop := (∀ a_, a_ ∈ l → gT127 a_) ∧ l.length * 32 ≤ 140737488351232
theorem Given.sized {l : List NL} (h : Given l) : Sized (l.map conv) := by
  obtain ⟨h1, h2⟩ := h
  refine ⟨by rw [List.length_map]; omega, fun x hx => ?_⟩
  obtain ⟨y, hy, rfl⟩ := List.mem_map.1 hx
  exact (h1 y hy).2.2
theorem toNoteS_ (l : List NL) (hl : l.length * 32 ≤ 140737488351232) : Ev (fun k => laws_toNoteS.f k l) (l.map conv) := by
  have key : ∀ d i : Nat, i + d = l.length → Ev (fun k => laws_toNoteS.l0 k l ((l.map conv).take i ++ (List.replicate l.length z58).drop i) (i : Int)) (l.map conv) := by
    intro d
    induction d with
    | zero =>
      intro i hi
      exact Ev.step (fun _ => laws_toNoteS.l0.eq_2 ..) (Ev.neg (by omega) (Ev.some (fill_all (by simp) (by simp; omega))))
    | succ d ih =>
      intro i hi
      refine Ev.step (fun _ => laws_toNoteS.l0.eq_2 ..) (Ev.pos (by omega) (Ev.pos (by omega) (Ev.have rfl (Ev.pos ?_ ?_))))
      · rw [fill_length (by simp), List.length_map]; omega
      · rw [wrap_succ (by omega)]
        have e : ((l.map conv).take i ++ (List.replicate l.length z58).drop i).set i ((l.map conv)[i]'(by simp; omega)) = (l.map conv).take (i + 1) ++ (List.replicate l.length z58).drop (i + 1) := set_fill (by simp) (by simp; omega)
        have e2 : (l.map conv)[i]'(by simp; omega) = (⟨(rd_T127 l (i : Int)).f0, (rd_T127 l (i : Int)).f1, (rd_T127 l (i : Int)).f2⟩ : NI) := by
          have : rd_T127 l (i : Int) = l[i]'(by omega) := by
            show l.getD i z127 = _
            rw [List.getD_eq_getElem?_getD, List.getElem?_eq_getElem (by omega)]
            rfl
          rw [this, List.getElem_map]
          rfl
        rw [e2] at e
        have := ih (i + 1) (by omega)
        rw [← e] at this
        exact this
  unfold laws_toNoteS.f
  refine Ev.pos (by omega) (Ev.pos (by omega) ?_)
  have := key l.length 0 (by omega)
  exact this
theorem eqNote_ (a : NI) : laws_eqNote.f a.f0 a.f1 a.f2 a.f0 a.f1 a.f2 = some true := by
  unfold laws_eqNote.f
  rw [if_pos rfl, if_pos rfl, if_pos rfl]
theorem eqNoteS_ (l : List NI) (hl : l.length ≤ 140737488351232) : Ev (fun k => laws_eqNoteS.f k l l) true := by
  unfold laws_eqNoteS.f
  refine Ev.pos rfl ?_
  have h := loop_all0 (L := fun k i => laws_eqNoteS.l0 k l l i) l.length (fun _ => true) true ?_ ?_ ?_
  · exact Ev.eq h (by simp)
  · exact Ev.step (fun _ => laws_eqNoteS.l0.eq_2 ..) (Ev.neg (by omega) (Ev.some rfl))
  · intro i hi _ r hr
    refine Ev.step (fun _ => laws_eqNoteS.l0.eq_2 ..) (Ev.pos (by omega) (Ev.pos (by omega) (Ev.pos (by omega) (Ev.have (eqNote_ _) (Ev.pos rfl ?_)))))
    rw [wrap_succ (by omega)]
    exact hr
  · intro i _ h
    cases h
theorem szNoteS_ (l : List NL) (hl : Given l) (n : Int) (h0 : 0 ≤ n) (h1 : n ≤ 1048576) : ∃ z, Ev (fun k => laws_szNoteS.f k l n) z ∧ -1 ≤ z ∧ z ≤ n := by
  obtain ⟨hg, hn⟩ := hl
  have key : ∀ d i : Nat, i + d = l.length → ∀ z : Int, 0 ≤ z → z ≤ 1048576 → ∃ r, Ev (fun k => laws_szNoteS.l0 k l z (i : Int)) r ∧ -1 ≤ r ∧ r ≤ z := by
    intro d
    induction d with
    | zero =>
      intro i hi z h0 h1
      exact ⟨z, Ev.step (fun _ => laws_szNoteS.l0.eq_2 ..) (Ev.neg (by omega) (Ev.some rfl)), by omega, by omega⟩
    | succ d ih =>
      intro i hi z h0 h1
      have hm : rd_T127 l (i : Int) ∈ l := by
        show l.getD i z127 ∈ l
        rw [List.getD_eq_getElem?_getD, List.getElem?_eq_getElem (by omega)]
        exact List.getElem_mem _
      have hz := szNote_ (rd_T127 l (i : Int)).f0 (rd_T127 l (i : Int)).f1 (rd_T127 l (i : Int)).f2 (hg _ hm).2.2 z h0 h1
      by_cases hneg : z - ((rd_T127 l (i : Int)).f2.size : Int) < 0
      · rw [if_pos hneg] at hz
        exact ⟨-1, Ev.step (fun _ => laws_szNoteS.l0.eq_2 ..) (Ev.pos (by omega) (Ev.pos (by omega) (Ev.have hz (Ev.pos (by decide) (Ev.some rfl))))), by omega, by omega⟩
      · rw [if_neg hneg] at hz
        obtain ⟨r, hr, h2, h3⟩ := ih (i + 1) (by omega) _ (Int.not_lt.1 hneg) (by omega)
        refine ⟨r, Ev.step (fun _ => laws_szNoteS.l0.eq_2 ..) (Ev.pos (by omega) (Ev.pos (by omega) (Ev.have hz (Ev.neg hneg ?_)))), h2, by omega⟩
        rw [wrap_succ (by omega)]
        exact hr
  unfold laws_szNoteS.f
  rw [wrap_in (by omega) (by omega)]
  by_cases hneg : n - (l.length : Int) < 0
  · exact ⟨-1, Ev.pos hneg (Ev.some rfl), by omega, by omega⟩
  · obtain ⟨r, hr, h2, h3⟩ := key l.length 0 (by omega) _ (Int.not_lt.1 hneg) (by omega)
    exact ⟨r, Ev.neg hneg hr, h2, by omega⟩
end Go.Proofs.Ytgapcmmhbegdeaa.MNote
end
section
/- Ranges of frames. -/
namespace Go.Proofs.Ytgapcmmhbegdeaa.MCut
open Go.RowKit Go.Proofs.Ytgapcmmhbegdeaa.G Go.Proofs.YtgapcmmhbegdeaaW.PrintWords Go.Proofs.YtgapcmmhbegdeaaW.PrintLast Go.Proofs.Ytgapcmmhbegdeaa.MPure Go.Proofs.Ytgapcmmhbegdeaa.MWord Go.Proofs.Ytgapcmmhbegdeaa.MNote

def rangeB (a b : Int) : Bool := frameB a && frameB b && decide (a < b)
theorem isRange_ (a b : Int) : impl_isRange.f a b = some (rangeB a b) := by
  unfold impl_isRange.f rangeB
  rw [isFrame_, isFrame_]
  simp only [Option.bind_some]
  cases frameB a <;> cases frameB b <;> simp
end Go.Proofs.Ytgapcmmhbegdeaa.MCut
end
section
/- Windows of frames: what the reference and the program take for one. -/
namespace Go.Proofs.Ytgapcmmhbegdeaa.MWin
open Go.RowKit Go.Proofs.Ytgapcmmhbegdeaa.G Go.Proofs.YtgapcmmhbegdeaaW.PrintWords Go.Proofs.YtgapcmmhbegdeaaW.PrintLast Go.Proofs.Ytgapcmmhbegdeaa.MPure Go.Proofs.Ytgapcmmhbegdeaa.MWord Go.Proofs.Ytgapcmmhbegdeaa.MNote Go.Proofs.Ytgapcmmhbegdeaa.MCut

def windowB (a b : Int) : Bool := rangeB a b && decide (b - a ≤ 200)
theorem windowB_in {a b : Int} (h : windowB a b = true) : 0 ≤ a ∧ a < b ∧ b ≤ 99999 ∧ b - a ≤ 200 := by
  simp only [windowB, rangeB, frameB, Bool.and_eq_true, decide_eq_true_eq] at h
  omega
theorem isWindow_ (a b : Int) : impl_isWindow.f a b = some (windowB a b) := by
  unfold impl_isWindow.f windowB
  rw [isRange_]
  simp only [Option.bind_some]
  cases h : rangeB a b with
  | false => simp
  | true =>
    simp only [rangeB, frameB, Bool.and_eq_true, decide_eq_true_eq] at h
    rw [if_pos rfl, wrap_in (by omega) (by omega)]
    simp
theorem agFrame_ (a : Int) : spec_agFrame.f a = some (frameB a) := by
  unfold spec_agFrame.f
  rw [l1In_]
  rfl
theorem agWindow_ (a b : Int) : spec_agWindow.f a b = some (windowB a b) := by
  unfold spec_agWindow.f windowB rangeB
  rw [agFrame_, agFrame_]
  simp only [Option.bind_some]
  cases h1 : frameB a with
  | false => simp
  | true =>
    rw [if_pos rfl]
    cases h2 : frameB b with
    | false => simp
    | true =>
      simp only [frameB, decide_eq_true_eq] at h1 h2
      rw [if_pos rfl, wrap_in (by omega) (by omega), l1In_]
      simp only [Option.bind_some, Bool.true_and]
      congr 1
      rw [Bool.eq_iff_iff]
      simp only [Bool.and_eq_true, decide_eq_true_eq]
      omega
theorem agAsked_ (x y : List NI) (hx : Sized x) (hy : Sized y) (a b : Int) : Ev (fun k => spec_agAsked.f k x y a b) (tierB x && tierB y && windowB a b) := by
  unfold spec_agAsked.f
  refine Ev.bind (tiGood_ x hx) (Ev.ite (fun h1 => ?_) (fun h1 => Ev.some (by simp [h1])))
  refine Ev.bind (tiGood_ y hy) (Ev.ite (fun h2 => ?_) (fun h2 => Ev.some (by simp [h2])))
  exact Ev.have (agWindow_ a b) (Ev.some (by simp [h1, h2]))
theorem wrap_step {x : Int} (h0 : 0 ≤ x) (h1 : x ≤ 99999) : wrap64 (x + 1) = x + 1 := wrap_in (by omega) (by omega)
end Go.Proofs.Ytgapcmmhbegdeaa.MWin
end
section
/- The gloss at a frame: the reference's search and the program's, by lists alone. -/
namespace Go.Proofs.Ytgapcmmhbegdeaa.MGloss
open Go.RowKit Go.Proofs.Ytgapcmmhbegdeaa.G Go.Proofs.YtgapcmmhbegdeaaW.PrintWords Go.Proofs.YtgapcmmhbegdeaaW.PrintLast Go.Proofs.Ytgapcmmhbegdeaa.MPure Go.Proofs.Ytgapcmmhbegdeaa.MWord Go.Proofs.Ytgapcmmhbegdeaa.MNote Go.Proofs.Ytgapcmmhbegdeaa.MAt0

/-- Whether a frame lies in a note. -/
def inB (a : Int) (x : NI) : Bool := decide (x.f0 ≤ a ∧ a < x.f1)
/-- The gloss at a frame, or the empty text. -/
def glossB (l : List NI) (a : Int) : ByteArray := if 0 ≤ idxOf (inB a) l then (atN l (idxOf (inB a) l).toNat).f2 else ⟨#[]⟩
theorem agGloss_ (l : List NI) (hl : Sized l) (a : Int) : Ev (fun k => spec_agGloss.f k l a) (glossB l a) := by
  obtain ⟨hn, _⟩ := hl
  have key : ∀ d i : Nat, i + d = l.length → (∀ j, j < i → inB a (atN l j) = false) → Ev (fun k => spec_agGloss.l0 k a l (l.length : Int) (i : Int)) (glossB l a) := by
    intro d
    induction d with
    | zero =>
      intro i hi hb
      obtain rfl : i = l.length := by omega
      refine Ev.step (fun _ => spec_agGloss.l0.eq_2 ..) (Ev.neg (by omega) (Ev.some ?_))
      unfold glossB
      rw [idxOf_miss z58 hb, if_neg (by decide)]
    | succ d ih =>
      intro i hi hb
      cases hp : inB a (atN l i) with
      | true =>
        have hq := hp
        simp only [inB, decide_eq_true_eq] at hq
        refine Ev.step (fun _ => spec_agGloss.l0.eq_2 ..) (Ev.pos (by omega) (Ev.pos (by omega) (Ev.pos (by omega) (Ev.pos hq.1 (Ev.pos hq.2 (Ev.some ?_))))))
        unfold glossB
        rw [idxOf_hit z58 (i := i) (by omega) hp hb, if_pos (by omega)]
        rfl
      | false =>
        have hq := hp
        simp only [inB, decide_eq_false_iff_not] at hq
        have hr := ih (i + 1) (by omega) (fun j hj => by
          by_cases e : j = i
          · subst e; exact hp
          · exact hb j (by omega))
        rw [← wrap_succ (by omega)] at hr
        refine Ev.step (fun _ => spec_agGloss.l0.eq_2 ..) (Ev.pos (by omega) (Ev.pos (by omega) (Ev.pos (by omega) (Ev.ite (fun h1 => Ev.neg (fun h2 => hq ⟨h1, h2⟩) hr) (fun _ => hr)))))
  exact key l.length 0 (by omega) (fun j hj => absurd hj (Nat.not_lt_zero _))
theorem tier_bounds {l : List NI} (h : tierB l = true) {x : NI} (hx : x ∈ l) : 0 ≤ x.f0 ∧ x.f0 < x.f1 ∧ x.f1 ≤ 99999 := by
  simp only [tierB, Bool.and_eq_true, List.all_eq_true, List.mem_range] at h
  obtain ⟨i, hi, rfl⟩ := List.mem_iff_getElem.1 hx
  have := h.1 i hi
  have e : atN l i = l[i] := by
    unfold atN
    rw [List.getD_eq_getElem?_getD, List.getElem?_eq_getElem hi]
    rfl
  simp only [tierP, noteB, frameB, Bool.and_eq_true, decide_eq_true_eq, e] at this
  omega
/-- In a tier both searches stop at the same notes. -/
theorem noteAt_in {l : List NI} (h : tierB l = true) (a : Int) : idxOf (impl_noteAt.p a) l = idxOf (inB a) l := by
  refine idxOf_congr (fun x hx => ?_)
  have := tier_bounds h hx
  unfold impl_noteAt.p inB
  rw [wrap_in (by omega) (by omega)]
  rw [decide_eq_decide]
  omega
theorem glossAt_ (l : List NI) (h : tierB l = true) (a : Int) : impl_glossAt.f l a = some (glossB l a) := by
  have e := noteAt_in h a
  have hr := idxOf_range (inB a) l
  unfold impl_glossAt.f impl_noteAt.f glossB
  rw [e]
  simp only [Option.bind_some]
  by_cases h0 : idxOf (inB a) l < 0
  · rw [if_pos h0, if_neg (by omega)]
  · rw [if_neg h0, if_pos (by omega), if_pos (by omega), if_pos (by omega)]
    rfl
end Go.Proofs.Ytgapcmmhbegdeaa.MGloss
end
section
/- The glosses at the frames of a window, as a list, and the program's loop that makes it; no condition. -/
namespace Go.Proofs.Ytgapcmmhbegdeaa.MGl
open Go.RowKit Go.Proofs.Ytgapcmmhbegdeaa.G Go.Proofs.YtgapcmmhbegdeaaW.PrintWords Go.Proofs.YtgapcmmhbegdeaaW.PrintLast Go.Proofs.Ytgapcmmhbegdeaa.MPure Go.Proofs.Ytgapcmmhbegdeaa.MWord Go.Proofs.Ytgapcmmhbegdeaa.MNote Go.Proofs.Ytgapcmmhbegdeaa.MCut Go.Proofs.Ytgapcmmhbegdeaa.MWin Go.Proofs.Ytgapcmmhbegdeaa.MAt0 Go.Proofs.Ytgapcmmhbegdeaa.MGloss

/-- The glosses at d frames from a on. -/
def gl (x : List NI) : Nat → Int → List ByteArray
  | 0, _ => []
  | d + 1, a => glossB x a :: gl x d (a + 1)
theorem gl_length (x : List NI) : ∀ (d : Nat) (a : Int), (gl x d a).length = d
  | 0, _ => rfl
  | d + 1, a => by show (gl x d (a + 1)).length + 1 = d + 1; rw [gl_length x d]
theorem gl_sizes (x : List NI) (hx : Sized x) : ∀ (d : Nat) (a : Int), (gl x d a).all (fun s => decide (s.size ≤ 140737488355328)) = true
  | 0, _ => rfl
  | d + 1, a => by
    show (decide ((glossB x a).size ≤ 140737488355328) && (gl x d (a + 1)).all _) = true
    rw [gl_sizes x hx d, Bool.and_true, decide_eq_true_eq]
    unfold glossB
    split
    · rename_i h
      have hr := idxOf_range (inB a) x
      have hm : atN x (idxOf (inB a) x).toNat ∈ x := atN_mem (by omega)
      have := hx.2 _ hm
      omega
    · exact Nat.zero_le _
theorem frame_loop (x : List NI) (tx : tierB x = true) (b : Int) (hb : b ≤ 99999) : ∀ (d : Nat) (a : Int) (s : List ByteArray), a + d = b → 0 ≤ a → s.length + d ≤ 1000 → Ev (fun k => impl_frameGlosses.l0 k x b s a) (s ++ gl x d a) := by
  intro d
  induction d with
  | zero =>
    intro a s hd ha hs
    exact Ev.step (fun _ => impl_frameGlosses.l0.eq_2 ..) (Ev.neg (by omega) (Ev.some (by simp [gl])))
  | succ d ih =>
    intro a s hd ha hs
    have hw := wrap_step (x := a) (by omega) (by omega)
    have h2 := ih (a + 1) (s ++ [glossB x a]) (by omega) (by omega) (by simp; omega)
    rw [List.append_assoc, List.singleton_append] at h2
    refine Ev.step (fun _ => impl_frameGlosses.l0.eq_2 ..) (Ev.pos (by omega) (Ev.have (glossAt_ x tx a) (Ev.pos (by omega) ?_)))
    rw [hw]
    exact h2
end Go.Proofs.Ytgapcmmhbegdeaa.MGl
end
section
/- What ConfusedGlosses answers, of the reference and of the program. No condition. -/
namespace Go.Proofs.Ytgapcmmhbegdeaa.MConfG
open Go.RowKit Go.Proofs.Ytgapcmmhbegdeaa.G Go.Proofs.YtgapcmmhbegdeaaW.PrintWords Go.Proofs.YtgapcmmhbegdeaaW.PrintLast Go.Proofs.Ytgapcmmhbegdeaa.MPure Go.Proofs.Ytgapcmmhbegdeaa.MWord Go.Proofs.Ytgapcmmhbegdeaa.MNote Go.Proofs.Ytgapcmmhbegdeaa.MCut Go.Proofs.Ytgapcmmhbegdeaa.MWin Go.Proofs.Ytgapcmmhbegdeaa.MAt0 Go.Proofs.Ytgapcmmhbegdeaa.MGloss Go.Proofs.Ytgapcmmhbegdeaa.MGl
open Go.Proofs.Ytgapcmmhbegdeaa.MEnt (Duo)

/-- Both glosses at d frames from a on. -/
def zg (x y : List NI) (d : Nat) (a : Int) : List Duo := (gl x d a).zip (gl y d a)
theorem duo_cons (q : Duo) (l : List Duo) (p : Duo) : MEnt.cnt (q :: l) p = (if MEnt.same q p = true then 1 else 0) + MEnt.cnt l p := by
  unfold MEnt.cnt
  rw [List.filter_cons]
  split
  · rw [List.length_cons]; omega
  · omega
theorem duo_pairs (z : List Duo) {p : Duo} (hp : impl_ConfusedGlosses.bad p = false) : MEnt.cnt (impl_ConfusedGlosses.pairs z) p = MEnt.cnt z p := by
  unfold MEnt.cnt impl_ConfusedGlosses.pairs
  rw [List.filter_filter]
  congr 2
  apply List.filter_congr
  intro q _
  cases hs : MEnt.same q p with
  | false => rfl
  | true => rw [MEnt.same_iff.1 hs, hp]; rfl
theorem pairs_cons_bad {p : Duo} {z : List Duo} (h : impl_ConfusedGlosses.bad p = true) : impl_ConfusedGlosses.pairs (p :: z) = impl_ConfusedGlosses.pairs z := by
  unfold impl_ConfusedGlosses.pairs
  rw [List.filter_cons, h]
  rfl
theorem pairs_cons_ok {p : Duo} {z : List Duo} (h : impl_ConfusedGlosses.bad p = false) : impl_ConfusedGlosses.pairs (p :: z) = p :: impl_ConfusedGlosses.pairs z := by
  unfold impl_ConfusedGlosses.pairs
  rw [List.filter_cons, h]
  rfl
/-- What is answered of the best. -/
theorem conf_end {z : List Duo} {b : Duo × Int} (h : MEnt.One z b) : (if b.2 = 0 then some ((⟨#[]⟩ : ByteArray), (⟨#[]⟩ : ByteArray), (0 : Int), false) else some (b.1.1, b.1.2, b.2, true)) = some (b.1.1, b.1.2, b.2, decide (b.2 > 0)) := by
  rcases h with rfl | ⟨h1, h2⟩
  · rfl
  · have h3 := MEnt.cnt_pos h1
    rw [if_neg (by omega), decide_eq_true (by omega)]
/-- What is known of an answer. -/
def Told (ok : Bool) (r : ByteArray × ByteArray × Int × Bool) : Prop := r.2.2.2 = true → ok = true ∧ 1 ≤ r.2.2.1 ∧ r.1.toList ≠ r.2.1.toList
theorem told_one {z : List Duo} {b : Duo × Int} (h : MEnt.One (impl_ConfusedGlosses.pairs z) b) : Told true (b.1.1, b.1.2, b.2, decide (b.2 > 0)) := by
  intro h2
  have h2 : b.2 > 0 := of_decide_eq_true h2
  rcases h with rfl | ⟨h1, h3⟩
  · exact absurd h2 (by decide)
  · have h4 := (List.mem_filter.1 h1).2
    refine ⟨rfl, h2, fun e => ?_⟩
    have e2 : b.1.1.toList = b.1.2.toList := e
    unfold impl_ConfusedGlosses.bad at h4
    simp [e2] at h4
theorem Conf_both (x y : List NI) (hx : Sized x) (hy : Sized y) (a b : Int) : ∃ r : ByteArray × ByteArray × Int × Bool, Ev (fun k => spec_ConfusedGlosses.f k x y a b) r ∧ Ev (fun k => impl_ConfusedGlosses.f k x y a b) r ∧ Told (tierB x && tierB y && windowB a b) r := by
  unfold spec_ConfusedGlosses.f impl_ConfusedGlosses.f
  have hs := agAsked_ x y hx hy a b
  cases h1 : tierB x with
  | false => exact ⟨(⟨#[]⟩, ⟨#[]⟩, 0, false), Ev.bind (Ev.eq (r := false) hs (by simp [h1])) (Ev.neg (by decide) (Ev.some rfl)), Ev.bind (Ev.eq (IsTier_ x hx) h1) (Ev.neg (by decide) (Ev.some rfl)), fun h => nomatch h⟩
  | true =>
    cases h2 : tierB y with
    | false => exact ⟨(⟨#[]⟩, ⟨#[]⟩, 0, false), Ev.bind (Ev.eq (r := false) hs (by simp [h2])) (Ev.neg (by decide) (Ev.some rfl)), Ev.bind (Ev.eq (IsTier_ x hx) h1) (Ev.pos rfl (Ev.bind (Ev.eq (IsTier_ y hy) h2) (Ev.neg (by decide) (Ev.some rfl)))), fun h => nomatch h⟩
    | true =>
      cases h3 : windowB a b with
      | false => exact ⟨(⟨#[]⟩, ⟨#[]⟩, 0, false), Ev.bind (Ev.eq (r := false) hs (by simp [h3])) (Ev.neg (by decide) (Ev.some rfl)), Ev.bind (Ev.eq (IsTier_ x hx) h1) (Ev.pos rfl (Ev.bind (Ev.eq (IsTier_ y hy) h2) (Ev.pos rfl (Ev.have ((isWindow_ a b).trans (congrArg some h3)) (Ev.neg (by decide) (Ev.some rfl)))))), fun h => nomatch h⟩
      | true =>
        have hw := windowB_in h3
        obtain ⟨d, hd⟩ : ∃ d : Nat, b - a = (d : Int) := ⟨(b - a).toNat, by omega⟩
        have hd200 : d ≤ 200 := by omega
        have g1 := frame_loop x h1 b (by omega) d a [] (by omega) (by omega) (by simp; omega)
        have g2 := frame_loop y h2 b (by omega) d a [] (by omega) (by omega) (by simp; omega)
        rw [List.nil_append] at g1 g2
        have l1 := gl_length x d a
        have l2 := gl_length y d a
        have z1 := gl_sizes x hx d a
        have z2 := gl_sizes y hy d a
        obtain ⟨ps, hps⟩ : ∃ ps, ps = impl_ConfusedGlosses.pairs (zg x y d a) := ⟨_, rfl⟩
        obtain ⟨t, ht⟩ : ∃ t, t = MEnt.best ps ps MEnt.init := ⟨_, rfl⟩
        have hone : MEnt.One ps t := by rw [ht]; exact (MEnt.best_top ps ps MEnt.init (fun _ h => h) (MEnt.Top.start _ _ (fun _ h => h))).1
        have hg : impl_ConfusedGlosses.g (gl x d a) (gl y d a) = some (t.1.1, t.1.2, t.2, decide (t.2 > 0)) := by
          have e : impl_ConfusedGlosses.top ((gl x d a).zip (gl y d a)) = t := by rw [ht, hps]; rfl
          unfold impl_ConfusedGlosses.g
          rw [if_pos (by rw [z1, z2, decide_eq_true (show (gl x d a).length ≤ 1000 by omega), decide_eq_true (show (gl x d a).length ≤ (gl y d a).length by omega)]; rfl), e]
        -- the reference's loops
        have inner : ∀ (q : Duo) (s : Duo × Int) (xa : Int) (r : ByteArray × ByteArray × Int × Bool) (e2 : Nat) (ya e : Int), ya + e2 = b → 0 ≤ ya → 0 ≤ e → e + e2 ≤ 1000000 →
            Ev (fun k => spec_ConfusedGlosses.l0 k x y a b (if MEnt.bt q (e + MEnt.cnt (zg x y e2 ya) q) s = true then (q, e + MEnt.cnt (zg x y e2 ya) q) else s).1.1 (if MEnt.bt q (e + MEnt.cnt (zg x y e2 ya) q) s = true then (q, e + MEnt.cnt (zg x y e2 ya) q) else s).1.2 (if MEnt.bt q (e + MEnt.cnt (zg x y e2 ya) q) s = true then (q, e + MEnt.cnt (zg x y e2 ya) q) else s).2 (wrap64 (xa + 1))) r →
            Ev (fun k => spec_ConfusedGlosses.l1 k x y a b s.1.1 s.1.2 s.2 xa q.1 q.2 e ya) r := by
          intro q s xa r e2
          induction e2 with
          | zero =>
            intro ya e hy1 hy2 he1 he2 hr
            have e0 : e + MEnt.cnt (zg x y 0 ya) q = e := by show e + 0 = e; omega
            rw [e0] at hr
            refine Ev.step (fun _ => spec_ConfusedGlosses.l1.eq_2 ..) (Ev.neg (by omega) ?_)
            cases hb : MEnt.bt q e s with
            | true =>
              rw [hb, if_pos rfl] at hr
              rcases MEnt.bt_iff.1 hb with hb1 | ⟨hb1, hb2⟩
              · exact Ev.pos hb1 hr
              · refine Ev.neg (by omega) (Ev.pos hb1 ?_)
                unfold MEnt.lt at hb2
                rw [Bool.or_eq_true, Bool.and_eq_true, beq_iff_eq] at hb2
                by_cases hq : Op.bytesLess q.1.toList s.1.1.toList = true
                · exact Ev.pos hq hr
                · rcases hb2 with hb2 | ⟨hb2, hb3⟩
                  · exact absurd hb2 hq
                  · exact Ev.neg hq (Ev.pos hb2 (Ev.pos hb3 hr))
            | false =>
              rw [hb, if_neg (by decide)] at hr
              have hb2 : ¬ (s.2 < e ∨ (e = s.2 ∧ MEnt.lt q s.1 = true)) := fun h => by rw [MEnt.bt_iff.2 h] at hb; cases hb
              refine Ev.neg (fun h => hb2 (.inl h)) (Ev.ite (fun he => ?_) (fun _ => hr))
              have hb3 : ¬ MEnt.lt q s.1 = true := fun h => hb2 (.inr ⟨he, h⟩)
              unfold MEnt.lt at hb3
              rw [Bool.or_eq_true, Bool.and_eq_true, beq_iff_eq] at hb3
              exact Ev.neg (fun h => hb3 (.inl h)) (Ev.ite (fun h4 => Ev.neg (fun h => hb3 (.inr ⟨h4, h⟩)) hr) (fun _ => hr))
          | succ e2 ih =>
            intro ya e hy1 hy2 he1 he2 hr
            have hw2 := wrap_step (x := ya) (by omega) (by omega)
            have hc : MEnt.cnt (zg x y (e2 + 1) ya) q = (if MEnt.same (glossB x ya, glossB y ya) q = true then 1 else 0) + MEnt.cnt (zg x y e2 (ya + 1)) q := duo_cons _ _ _
            rw [hc] at hr
            refine Ev.step (fun _ => spec_ConfusedGlosses.l1.eq_2 ..) (Ev.pos (by omega) (Ev.bind (agGloss_ x hx ya) (Ev.ite (fun hg1 => Ev.bind (agGloss_ y hy ya) (Ev.ite (fun hg2 => ?_) (fun hg2 => ?_))) (fun hg1 => ?_))))
            · have hs1 : MEnt.same (glossB x ya, glossB y ya) q = true := by unfold MEnt.same; rw [Bool.and_eq_true, beq_iff_eq, beq_iff_eq]; exact ⟨hg1, hg2⟩
              rw [if_pos hs1, ← Int.add_assoc] at hr
              rw [hw2, wrap_in (show -9223372036854775808 ≤ e + 1 by omega) (by omega)]
              exact ih (ya + 1) (e + 1) (by omega) (by omega) (by omega) (by omega) hr
            · have hs1 : ¬ MEnt.same (glossB x ya, glossB y ya) q = true := by unfold MEnt.same; rw [Bool.and_eq_true, beq_iff_eq, beq_iff_eq]; exact fun h => hg2 h.2
              rw [if_neg hs1, Int.zero_add] at hr
              rw [hw2]
              exact ih (ya + 1) e (by omega) (by omega) he1 (by omega) hr
            · have hs1 : ¬ MEnt.same (glossB x ya, glossB y ya) q = true := by unfold MEnt.same; rw [Bool.and_eq_true, beq_iff_eq, beq_iff_eq]; exact fun h => hg1 h.1
              rw [if_neg hs1, Int.zero_add] at hr
              rw [hw2]
              exact ih (ya + 1) e (by omega) (by omega) he1 (by omega) hr
        have outer : ∀ (e1 : Nat) (xa : Int) (s : Duo × Int), xa + e1 = b → 0 ≤ xa → MEnt.best ps (impl_ConfusedGlosses.pairs (zg x y e1 xa)) s = t → Ev (fun k => spec_ConfusedGlosses.l0 k x y a b s.1.1 s.1.2 s.2 xa) (t.1.1, t.1.2, t.2, decide (t.2 > 0)) := by
          intro e1
          induction e1 with
          | zero =>
            intro xa s hx1 hx2 hp
            have e0 : s = t := hp
            subst e0
            refine Ev.step (fun _ => spec_ConfusedGlosses.l0.eq_2 ..) (Ev.neg (by omega) ?_)
            rw [conf_end hone]
            exact Ev.some rfl
          | succ e1 ih =>
            intro xa s hx1 hx2 hp
            have hw2 := wrap_step (x := xa) (by omega) (by omega)
            have hz : zg x y (e1 + 1) xa = (glossB x xa, glossB y xa) :: zg x y e1 (xa + 1) := rfl
            rw [hz] at hp
            have skip : ∀ c : Bool, c = true → impl_ConfusedGlosses.bad (glossB x xa, glossB y xa) = true → Ev (fun k => spec_ConfusedGlosses.j1 k x y a b s.1.1 s.1.2 s.2 xa (glossB x xa) (glossB y xa) c) (t.1.1, t.1.2, t.2, decide (t.2 > 0)) := by
              intro c hc hb
              rw [pairs_cons_bad hb] at hp
              refine Ev.step (fun _ => spec_ConfusedGlosses.j1.eq_2 ..) (Ev.pos hc ?_)
              rw [hw2]
              exact ih (xa + 1) s (by omega) (by omega) hp
            refine Ev.step (fun _ => spec_ConfusedGlosses.l0.eq_2 ..) (Ev.pos (by omega) (Ev.bind (agGloss_ x hx xa) (Ev.bind (agGloss_ y hy xa) (Ev.ite (fun n1 => skip true rfl (by unfold impl_ConfusedGlosses.bad; simp [n1])) (fun n1 => Ev.ite (fun n2 => skip true rfl (by unfold impl_ConfusedGlosses.bad; simp [n2])) (fun n2 => ?_))))))
            by_cases n3 : (glossB x xa).toList = (glossB y xa).toList
            · exact skip _ (by simp [n3]) (by unfold impl_ConfusedGlosses.bad; simp [n3])
            · have hok : impl_ConfusedGlosses.bad (glossB x xa, glossB y xa) = false := by unfold impl_ConfusedGlosses.bad; simp [n1, n2, n3]
              rw [pairs_cons_ok hok] at hp
              refine Ev.step (fun _ => spec_ConfusedGlosses.j1.eq_2 ..) (Ev.neg (by simp [n3]) (inner (glossB x xa, glossB y xa) s xa _ d a 0 (by omega) (by omega) (Int.le_refl _) (by omega) ?_))
              rw [hw2, Int.zero_add, ← duo_pairs _ hok, ← hps]
              exact ih (xa + 1) _ (by omega) (by omega) hp
        refine ⟨(t.1.1, t.1.2, t.2, decide (t.2 > 0)), Ev.bind (Ev.eq (r := true) hs (by simp [h1, h2, h3])) (Ev.pos rfl (outer d a MEnt.init (by omega) (by omega) (by rw [ht, hps]))), Ev.bind (Ev.eq (IsTier_ x hx) h1) (Ev.pos rfl (Ev.bind (Ev.eq (IsTier_ y hy) h2) (Ev.pos rfl (Ev.have ((isWindow_ a b).trans (congrArg some h3)) (Ev.pos rfl (Ev.bind g1 (Ev.bind g2 ?_))))))), ?_⟩
        rotate_left
        · rw [hps] at hone
          exact told_one hone
        rw [hg]
        exact Ev.some rfl
end Go.Proofs.Ytgapcmmhbegdeaa.MConfG
end
