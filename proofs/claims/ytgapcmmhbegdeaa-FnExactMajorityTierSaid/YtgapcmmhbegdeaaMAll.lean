/- Plain laws of the functions that the claim's functions call: what they compute, with no program in sight. No condition. -/
import Derived.Test.YtgapcmmhbegdeaaWAll
import Derived.Lib.Bytealg
import Derived.Test.YtgapcmmhbegdeaaMBase
import Derived.Test.YtgapcmmhbegdeaaG1
import Derived.Test.YtgapcmmhbegdeaaG7
import Derived.Test.YtgapcmmhbegdeaaG0
import Derived.Test.YtgapcmmhbegdeaaG3
import Derived.Test.YtgapcmmhbegdeaaG4
import Derived.Test.YtgapcmmhbegdeaaG6
import Derived.Test.YtgapcmmhbegdeaaG8
import Derived.Test.YtgapcmmhbegdeaaG31
import Derived.Test.YtgapcmmhbegdeaaG33
import Derived.Test.YtgapcmmhbegdeaaG2
import Derived.Test.YtgapcmmhbegdeaaG5
import Derived.Test.YtgapcmmhbegdeaaG10
import Derived.Test.YtgapcmmhbegdeaaG18
import Derived.Test.YtgapcmmhbegdeaaG23
import Derived.Test.YtgapcmmhbegdeaaG32
import Derived.Test.YtgapcmmhbegdeaaG24
import Derived.Test.YtgapcmmhbegdeaaG25
import Derived.Test.YtgapcmmhbegdeaaG26
import Derived.Test.YtgapcmmhbegdeaaG42
import Derived.Test.YtgapcmmhbegdeaaG43
section
/- Plain lemmas on rounds, lists and numbers, for the laws' pure statements: no program in sight. -/
namespace Go.Proofs.Ytgapcmmhbegdeaa.MPure
open Go.RowKit Go.Proofs.YtgapcmmhbegdeaaW.PrintWords Go.Proofs.YtgapcmmhbegdeaaW.PrintLast

theorem Ev.pos {α : Type} {c : Prop} [Decidable c] {f g : Nat → Option α} {r : α} (h : c) (k : Ev f r) : Ev (fun n => if c then f n else g n) r := by
  simpa only [if_pos h] using k
theorem Ev.neg {α : Type} {c : Prop} [Decidable c] {f g : Nat → Option α} {r : α} (h : ¬ c) (k : Ev g r) : Ev (fun n => if c then f n else g n) r := by
  simpa only [if_neg h] using k
theorem Ev.some {α : Type} {a r : α} (h : a = r) : Ev (fun _ => Option.some a) r := h ▸ Ev.now a
theorem Ev.have {α β : Type} {a : Option α} {x : α} {f : Nat → α → Option β} {r : β} (h : a = .some x) (k : Ev (fun n => f n x) r) : Ev (fun n => a.bind (f n)) r := by
  subst h
  exact k
theorem Ev.ite {α : Type} {c : Prop} [Decidable c] {f g : Nat → Option α} {r : α} (h : c → Ev f r) (k : ¬ c → Ev g r) : Ev (fun n => if c then f n else g n) r := by
  by_cases hc : c
  · exact Ev.pos hc (h hc)
  · exact Ev.neg hc (k hc)
theorem Ev.eq {α : Type} {g : Nat → Option α} {a r : α} (k : Ev g a) (h : a = r) : Ev g r := h ▸ k
theorem wrap_in {n : Int} (h : -9223372036854775808 ≤ n) (h' : n ≤ 9223372036854775807) : wrap64 n = n := by unfold wrap64; omega
theorem wrap_succ {i : Nat} (h : i ≤ 9223372036854775806) : wrap64 ((i : Int) + 1) = ((i + 1 : Nat) : Int) := by unfold wrap64; omega
theorem wrap_pred {i : Nat} (h0 : 0 < i) (h : i ≤ 9223372036854775806) : wrap64 ((i : Int) - 1) = ((i - 1 : Nat) : Int) := by unfold wrap64; omega
/-- A loop that stops with 'false' at the first place at which p does not hold, and answers e behind the last one. -/
theorem loop_all {L : Nat → Int → Option Bool} (n : Nat) (p : Nat → Bool) (e : Bool) (hend : Ev (fun k => L k (n : Int)) e)
    (hyes : ∀ i : Nat, i < n → p i = true → ∀ r, Ev (fun k => L k ((i + 1 : Nat) : Int)) r → Ev (fun k => L k (i : Int)) r) (hno : ∀ i : Nat, i < n → p i = false → Ev (fun k => L k (i : Int)) false) :
    ∀ d i : Nat, i + d = n → Ev (fun k => L k (i : Int)) ((List.range' i d).all p && e)
  | 0, i, h => by
    have : i = n := by omega
    subst this
    simpa using hend
  | d + 1, i, h => by
    have hi : i < n := by omega
    cases hp : p i with
    | true =>
      have ih := loop_all n p e hend hyes hno d (i + 1) (by omega)
      have := hyes i hi hp _ ih
      simpa [List.range'_succ, hp] using this
    | false =>
      have := hno i hi hp
      simpa [List.range'_succ, hp] using this
/-- The same from its begin. -/
theorem loop_all0 {L : Nat → Int → Option Bool} (n : Nat) (p : Nat → Bool) (e : Bool) (hend : Ev (fun k => L k (n : Int)) e)
    (hyes : ∀ i : Nat, i < n → p i = true → ∀ r, Ev (fun k => L k ((i + 1 : Nat) : Int)) r → Ev (fun k => L k (i : Int)) r) (hno : ∀ i : Nat, i < n → p i = false → Ev (fun k => L k (i : Int)) false) :
    Ev (fun k => L k 0) ((List.range n).all p && e) := by
  have h := loop_all n p e hend hyes hno n 0 (by omega)
  rw [← List.range_eq_range'] at h
  exact h

theorem all_congr {n : Nat} {p q : Nat → Bool} (h : ∀ i, i < n → p i = q i) : (List.range n).all p = (List.range n).all q := by
  rw [Bool.eq_iff_iff]
  simp only [List.all_eq_true, List.mem_range]
  constructor
  · exact fun H i hi => by rw [← h i hi]; exact H i hi
  · exact fun H i hi => by rw [h i hi]; exact H i hi

/-- A list that is filled from its begin. -/
theorem set_fill {α : Type} {xs ys : List α} (h : ys.length = xs.length) {i : Nat} (hi : i < xs.length) : (xs.take i ++ ys.drop i).set i xs[i] = xs.take (i + 1) ++ ys.drop (i + 1) := by
  rw [List.set_append, if_neg (by simp; omega)]
  have : i - (List.take i xs).length = 0 := by simp; omega
  rw [this, List.drop_eq_getElem_cons (show i < ys.length by omega), List.set_cons_zero, List.take_succ_eq_append_getElem hi, List.append_assoc]
  rfl
theorem fill_all {α : Type} {xs ys : List α} (h : ys.length = xs.length) {i : Nat} (hi : xs.length ≤ i) : xs.take i ++ ys.drop i = xs := by
  rw [List.take_of_length_le hi, List.drop_of_length_le (by omega), List.append_nil]
theorem fill_length {α : Type} {xs ys : List α} (h : ys.length = xs.length) (i : Nat) : (xs.take i ++ ys.drop i).length = xs.length := by
  simp; omega
end Go.Proofs.Ytgapcmmhbegdeaa.MPure
end
section
/- Loops that search, by lists alone. -/
namespace Go.Proofs.Ytgapcmmhbegdeaa.MAt0
open Go.RowKit Go.Proofs.YtgapcmmhbegdeaaW.PrintWords Go.Proofs.YtgapcmmhbegdeaaW.PrintLast Go.Proofs.Ytgapcmmhbegdeaa.MPure

theorem idxOf_congr {α : Type} {p q : α → Bool} {l : List α} (h : ∀ x, x ∈ l → p x = q x) : idxOf p l = idxOf q l := by
  have : l.findIdx? p = l.findIdx? q := by
    induction l with
    | nil => rfl
    | cons x l ih =>
      rw [List.findIdx?_cons, List.findIdx?_cons, h x List.mem_cons_self, ih (fun y hy => h y (List.mem_cons_of_mem _ hy))]
  unfold idxOf
  rw [this]
theorem idxOf_range {α : Type} (p : α → Bool) (l : List α) : -1 ≤ idxOf p l ∧ idxOf p l < (l.length : Int) := by
  unfold idxOf
  cases h : l.findIdx? p with
  | none => exact ⟨by decide, by show (-1 : Int) < _; omega⟩
  | some i =>
    have := (List.findIdx?_eq_some_iff_getElem.1 h).1
    exact ⟨by show (-1 : Int) ≤ (i : Int); omega, by show (i : Int) < _; omega⟩

end Go.Proofs.Ytgapcmmhbegdeaa.MAt0
end
section
/- Words: what the printed functions on texts of some letters come to. -/
namespace Go.Proofs.Ytgapcmmhbegdeaa.MWord
open Go.RowKit Go.Proofs.Ytgapcmmhbegdeaa.G Go.Proofs.YtgapcmmhbegdeaaW.PrintWords Go.Proofs.YtgapcmmhbegdeaaW.PrintLast Go.Proofs.Ytgapcmmhbegdeaa.MPure

/-- 1 to 8 bytes, of each of which p holds. -/
def wordB (p : Int → Bool) (s : ByteArray) : Bool := (List.range s.size).all (fun i => p (bt s (i : Int))) && decide (1 ≤ (s.size : Int) ∧ (s.size : Int) ≤ 8)
def capB (c : Int) : Bool := decide (65 ≤ c ∧ c ≤ 90)
theorem l1In_ (a b c : Int) : spec_l1In.f a b c = some (decide (b ≤ a ∧ a ≤ c)) := by
  unfold spec_l1In.f
  by_cases h : a ≥ b
  · rw [if_pos h]; simp [show b ≤ a from h]
  · rw [if_neg h]; simp [show ¬ b ≤ a from h]
theorem within_ (a b c : Int) : impl_within.f a b c = some (decide (b ≤ a ∧ a ≤ c)) := by
  unfold impl_within.f
  by_cases h : a ≥ b
  · rw [if_pos h]; simp [show b ≤ a from h]
  · rw [if_neg h]; simp [show ¬ b ≤ a from h]

/-- Which bytes are among some letters. -/
def amongB (ls : ByteArray) (c : Int) : Bool := decide (0 ≤ Lib.indexByte ls.data.toList c.toNat.toUInt8)
theorem hasOnly_ (s ls : ByteArray) (hs : s.size ≤ 140737488351232) : Ev (fun k => impl_hasOnly.f k s ls) ((List.range s.size).all (fun i => amongB ls (bt s (i : Int)))) := by
  refine Ev.eq (loop_all0 (L := fun k i => impl_hasOnly.l0 k s ls (s.size : Int) i) s.size (fun i => amongB ls (bt s (i : Int))) true ?_ ?_ ?_) (Bool.and_true _)
  · refine Ev.step (f := fun _ => _) (fun k => ?_) (Ev.some rfl)
    simp only [impl_hasOnly.l0]
    rw [if_neg (by omega)]
  · intro i hi hp r hr
    refine Ev.step (f := fun k => impl_hasOnly.l0 k s ls (s.size : Int) ((i + 1 : Nat) : Int)) (fun k => ?_) hr
    simp only [amongB, decide_eq_true_eq] at hp
    simp only [impl_hasOnly.l0, strings_IndexByte.f, Option.bind_some]
    rw [if_pos (by omega), if_pos (by omega), if_pos (by omega), if_neg (by omega), wrap_succ (by omega)]
  · intro i hi hp
    refine Ev.step (f := fun k => some false) (fun k => ?_) (Ev.some rfl)
    simp only [amongB, decide_eq_false_iff_not] at hp
    simp only [impl_hasOnly.l0, strings_IndexByte.f, Option.bind_some]
    rw [if_pos (by omega), if_pos (by omega), if_pos (by omega), if_pos (by omega)]
theorem isWordOf_ (s ls : ByteArray) (hs : s.size ≤ 140737488351232) : Ev (fun k => impl_isWordOf.f k s ls) (wordB (amongB ls) s) := by
  unfold impl_isWordOf.f
  refine Ev.have (within_ _ _ _) (Ev.ite (fun h => ?_) (fun h => ?_))
  · refine Ev.bind (hasOnly_ s ls hs) (Ev.some ?_)
    simp only [wordB]
    rw [h, Bool.and_true]
  · refine Ev.some ?_
    simp only [wordB]
    rw [Bool.eq_false_iff.2 h, Bool.and_false]
/-- The capital letters, as the program has them. -/
theorem caps (c : Int) (h0 : 0 ≤ c) (h1 : c ≤ 255) : amongB (⟨#[65, 66, 67, 68, 69, 70, 71, 72, 73, 74, 75, 76, 77, 78, 79, 80, 81, 82, 83, 84, 85, 86, 87, 88, 89, 90]⟩ : ByteArray) c = capB c := by
  have key : ∀ n : Nat, n < 256 → amongB (⟨#[65, 66, 67, 68, 69, 70, 71, 72, 73, 74, 75, 76, 77, 78, 79, 80, 81, 82, 83, 84, 85, 86, 87, 88, 89, 90]⟩ : ByteArray) (n : Int) = capB (n : Int) := by decide +kernel
  obtain ⟨n, rfl⟩ := Int.eq_ofNat_of_zero_le h0
  exact key n (by omega)
theorem wordB_congr {p q : Int → Bool} (h : ∀ c, 0 ≤ c → c ≤ 255 → p c = q c) (s : ByteArray) : wordB p s = wordB q s := by
  unfold wordB
  rw [all_congr (fun i _ => h _ (bt_range s _).1 (bt_range s _).2)]
theorem isWord_ (s : ByteArray) (hs : s.size ≤ 140737488351232) : Ev (fun k => impl_isWordOf.f k s (⟨#[65, 66, 67, 68, 69, 70, 71, 72, 73, 74, 75, 76, 77, 78, 79, 80, 81, 82, 83, 84, 85, 86, 87, 88, 89, 90]⟩ : ByteArray)) (wordB capB s) :=
  Ev.eq (isWordOf_ s _ hs) (wordB_congr caps s)

end Go.Proofs.Ytgapcmmhbegdeaa.MWord
end
section
/- What the printed functions on notes and tiers come to, by numbers and lists alone: words, notes, tiers, the copies and the comparison that the exact laws use. -/
namespace Go.Proofs.Ytgapcmmhbegdeaa.MNote
open Go.RowKit Go.Proofs.Ytgapcmmhbegdeaa.G Go.Proofs.YtgapcmmhbegdeaaW.PrintWords Go.Proofs.YtgapcmmhbegdeaaW.PrintLast Go.Proofs.Ytgapcmmhbegdeaa.MPure Go.Proofs.Ytgapcmmhbegdeaa.MWord

theorem fsWord_ (s : ByteArray) (hs : s.size ≤ 140737488351232) : Ev (fun k => spec_fsWord.f k s) (wordB capB s) := by
  refine loop_all0 (L := fun k i => spec_fsWord.l0 k s i) s.size (fun i => capB (bt s (i : Int))) _ ?_ ?_ ?_
  · refine Ev.step (f := fun _ => _) (fun k => ?_) (Ev.some rfl)
    simp only [spec_fsWord.l0]
    rw [if_neg (by omega), l1In_]
    rfl
  · intro i hi hp r hr
    refine Ev.step (f := fun k => spec_fsWord.l0 k s ((i + 1 : Nat) : Int)) (fun k => ?_) hr
    simp only [capB, decide_eq_true_eq] at hp
    simp only [spec_fsWord.l0]
    rw [if_pos (by omega), if_pos (by omega), if_neg (by omega), if_neg (by omega), wrap_succ (by omega)]
  · intro i hi hp
    simp only [capB, decide_eq_false_iff_not] at hp
    by_cases h : bt s (i : Int) < 65
    · refine Ev.step (f := fun k => some false) (fun k => ?_) (Ev.some rfl)
      simp only [spec_fsWord.l0]
      rw [if_pos (by omega), if_pos (by omega), if_pos h]
    · refine Ev.step (f := fun k => some false) (fun k => ?_) (Ev.some rfl)
      simp only [spec_fsWord.l0]
      rw [if_pos (by omega), if_pos (by omega), if_neg h, if_pos (by omega)]

/-! ### notes -/
def frameB (n : Int) : Bool := decide (0 ≤ n ∧ n ≤ 99999)
def noteB (f t : Int) (g : ByteArray) : Bool := frameB f && frameB t && decide (f < t) && wordB capB g
theorem tiFrame_ (a : Int) : spec_tiFrame.f a = some (frameB a) := by
  unfold spec_tiFrame.f
  rw [l1In_]
  rfl
theorem isFrame_ (a : Int) : impl_isFrame.f a = some (frameB a) := by
  unfold impl_isFrame.f
  rw [within_]
  rfl
theorem tiNote_ (f t : Int) (g : ByteArray) (hg : g.size ≤ 140737488351232) : Ev (fun k => spec_tiNote.f k f t g) (noteB f t g) := by
  unfold spec_tiNote.f noteB
  refine Ev.have (tiFrame_ _) (Ev.ite (fun h => ?_) (fun h => Ev.some (by rw [Bool.eq_false_iff.2 h]; rfl)))
  refine Ev.have (tiFrame_ _) (Ev.ite (fun h2 => ?_) (fun h2 => Ev.some (by rw [Bool.eq_false_iff.2 h2]; simp)))
  refine Ev.ite (fun h3 => ?_) (fun h3 => Ev.some (by simp [h3]))
  exact Ev.bind (fsWord_ g hg) (Ev.some (by simp [h, h2, h3]))
theorem IsNote_ (f t : Int) (g : ByteArray) (hg : g.size ≤ 140737488351232) : Ev (fun k => impl_IsNote.f k f t g) (noteB f t g) := by
  unfold impl_IsNote.f noteB
  refine Ev.have (isFrame_ _) (Ev.ite (fun h => ?_) (fun h => Ev.some (by rw [Bool.eq_false_iff.2 h]; rfl)))
  refine Ev.have (isFrame_ _) (Ev.ite (fun h2 => ?_) (fun h2 => Ev.some (by rw [Bool.eq_false_iff.2 h2]; simp)))
  refine Ev.ite (fun h3 => ?_) (fun h3 => Ev.some (by simp [h3]))
  exact Ev.bind (isWord_ g hg) (Ev.some (by simp [h, h2, h3]))
theorem szNote_ (f t : Int) (g : ByteArray) (hg : g.size ≤ 140737488351232) (n : Int) (h0 : 0 ≤ n) (h1 : n ≤ 1048576) : laws_szNote.f f t g n = some (if n - (g.size : Int) < 0 then -1 else n - (g.size : Int)) := by
  unfold laws_szNote.f
  rw [wrap_in (by omega) (by omega)]
  split <;> rfl

/-! ### tiers -/
abbrev NI := S58
abbrev NL := S127
def atN (l : List NI) (i : Nat) : NI := l.getD i z58
theorem atN_mem {l : List NI} {i : Nat} (h : i < l.length) : atN l i ∈ l := by
  unfold atN
  rw [List.getD_eq_getElem?_getD, List.getElem?_eq_getElem h]
  exact List.getElem_mem h
/-- What the notes' texts bear. -/
def Sized (l : List NI) : Prop := l.length ≤ 140737488351232 ∧ ∀ x, x ∈ l → x.f2.size ≤ 140737488351232
def tierP (l : List NI) (i : Nat) : Bool := noteB (atN l i).f0 (atN l i).f1 (atN l i).f2 && (decide (i = 0) || decide ((atN l (i - 1)).f1 ≤ (atN l i).f0))
def tierB (l : List NI) : Bool := (List.range l.length).all (tierP l) && decide ((l.length : Int) ≤ 40)

theorem tiGood_ (l : List NI) (hl : Sized l) : Ev (fun k => spec_tiGood.f k l) (tierB l) := by
  obtain ⟨hn, hs⟩ := hl
  refine loop_all0 (L := fun k i => spec_tiGood.l0 k l l (l.length : Int) i) l.length (tierP l) _ ?_ ?_ ?_
  · exact Ev.step (fun _ => spec_tiGood.l0.eq_2 ..) (Ev.neg (by omega) (Ev.some rfl))
  · intro i hi hp r hr
    simp only [tierP, Bool.and_eq_true] at hp
    refine Ev.step (fun _ => spec_tiGood.l0.eq_2 ..) (Ev.pos (by omega) (Ev.pos (by omega) (Ev.pos (by omega) (Ev.bind (tiNote_ _ _ _ (hs _ (atN_mem hi))) (Ev.pos hp.1 (Ev.ite (fun h0 => ?_) (fun h0 => ?_)))))))
    · rw [wrap_pred (by omega) (by omega)]
      refine Ev.pos (by omega) (Ev.pos (by omega) (Ev.neg ?_ ?_))
      · have := hp.2
        simp only [Bool.or_eq_true, decide_eq_true_eq] at this
        have h : (atN l (i - 1)).f1 ≤ (atN l i).f0 := by
          rcases this with h | h
          · omega
          · exact h
        exact Int.not_lt.2 h
      · rw [wrap_succ (by omega)]
        exact hr
    · rw [wrap_succ (by omega)]
      exact hr
  · intro i hi hp
    refine Ev.step (fun _ => spec_tiGood.l0.eq_2 ..) (Ev.pos (by omega) (Ev.pos (by omega) (Ev.pos (by omega) (Ev.bind (tiNote_ _ _ _ (hs _ (atN_mem hi))) (Ev.ite (fun h1 => ?_) (fun _ => Ev.some rfl))))))
    simp only [tierP, Bool.and_eq_false_iff, Bool.or_eq_false_iff, decide_eq_false_iff_not] at hp
    rcases hp with hp | ⟨hp, hq⟩
    · exact absurd (h1.symm.trans hp) (by decide)
    · refine Ev.pos (by omega) ?_
      rw [wrap_pred (by omega) (by omega)]
      exact Ev.pos (by omega) (Ev.pos (by omega) (Ev.pos (Int.not_le.1 hq) (Ev.some rfl)))
theorem IsTier_ (l : List NI) (hl : Sized l) : Ev (fun k => impl_IsTier.f k l) (tierB l) := by
  obtain ⟨hn, hs⟩ := hl
  refine loop_all0 (L := fun k i => impl_IsTier.l0 k l l (l.length : Int) i) l.length (tierP l) _ ?_ ?_ ?_
  · exact Ev.step (fun _ => impl_IsTier.l0.eq_2 ..) (Ev.neg (by omega) (Ev.some rfl))
  · intro i hi hp r hr
    simp only [tierP, Bool.and_eq_true] at hp
    refine Ev.step (fun _ => impl_IsTier.l0.eq_2 ..) (Ev.pos (by omega) (Ev.pos (by omega) (Ev.pos (by omega) (Ev.bind (IsNote_ _ _ _ (hs _ (atN_mem hi))) (Ev.pos hp.1 (Ev.ite (fun h0 => ?_) (fun h0 => ?_)))))))
    · rw [wrap_pred (by omega) (by omega)]
      refine Ev.pos (by omega) (Ev.pos (by omega) (Ev.neg ?_ ?_))
      · have := hp.2
        simp only [Bool.or_eq_true, decide_eq_true_eq] at this
        have h : (atN l (i - 1)).f1 ≤ (atN l i).f0 := by
          rcases this with h | h
          · omega
          · exact h
        exact Int.not_lt.2 h
      · rw [wrap_succ (by omega)]
        exact hr
    · rw [wrap_succ (by omega)]
      exact hr
  · intro i hi hp
    refine Ev.step (fun _ => impl_IsTier.l0.eq_2 ..) (Ev.pos (by omega) (Ev.pos (by omega) (Ev.pos (by omega) (Ev.bind (IsNote_ _ _ _ (hs _ (atN_mem hi))) (Ev.ite (fun h1 => ?_) (fun _ => Ev.some rfl))))))
    simp only [tierP, Bool.and_eq_false_iff, Bool.or_eq_false_iff, decide_eq_false_iff_not] at hp
    rcases hp with hp | ⟨hp, hq⟩
    · exact absurd (h1.symm.trans hp) (by decide)
    · refine Ev.pos (by omega) ?_
      rw [wrap_pred (by omega) (by omega)]
      exact Ev.pos (by omega) (Ev.pos (by omega) (Ev.pos (Int.not_le.1 hq) (Ev.some rfl)))

/-! ### what the exact laws do with notes: sizes, copies, comparison -/
def conv (x : NL) : NI := ⟨x.f0, x.f1, x.f2⟩
/-- What a law's notes bear, as the row tells it. -/
def Given (l : List NL) : Prop := (∀ a_, a_ ∈ l → gT127 a_) ∧ l.length * 32 ≤ 140737488351232
theorem Given.sized {l : List NL} (h : Given l) : Sized (l.map conv) := by
  obtain ⟨h1, h2⟩ := h
  refine ⟨by rw [List.length_map]; omega, fun x hx => ?_⟩
  obtain ⟨y, hy, rfl⟩ := List.mem_map.1 hx
  exact (h1 y hy).2.2
theorem toNoteS_ (l : List NL) (hl : l.length * 32 ≤ 140737488351232) : Ev (fun k => laws_toNoteS.f k l) (l.map conv) := by
  have key : ∀ d i : Nat, i + d = l.length → Ev (fun k => laws_toNoteS.l0 k l ((l.map conv).take i ++ (List.replicate l.length z58).drop i) (i : Int)) (l.map conv) := by
    intro d
    induction d with
    | zero =>
      intro i hi
      exact Ev.step (fun _ => laws_toNoteS.l0.eq_2 ..) (Ev.neg (by omega) (Ev.some (fill_all (by simp) (by simp; omega))))
    | succ d ih =>
      intro i hi
      refine Ev.step (fun _ => laws_toNoteS.l0.eq_2 ..) (Ev.pos (by omega) (Ev.pos (by omega) (Ev.have rfl (Ev.pos ?_ ?_))))
      · rw [fill_length (by simp), List.length_map]; omega
      · rw [wrap_succ (by omega)]
        have e : ((l.map conv).take i ++ (List.replicate l.length z58).drop i).set i ((l.map conv)[i]'(by simp; omega)) = (l.map conv).take (i + 1) ++ (List.replicate l.length z58).drop (i + 1) := set_fill (by simp) (by simp; omega)
        have e2 : (l.map conv)[i]'(by simp; omega) = (⟨(rd_T127 l (i : Int)).f0, (rd_T127 l (i : Int)).f1, (rd_T127 l (i : Int)).f2⟩ : NI) := by
          have : rd_T127 l (i : Int) = l[i]'(by omega) := by
            show l.getD i z127 = _
            rw [List.getD_eq_getElem?_getD, List.getElem?_eq_getElem (by omega)]
            rfl
          rw [this, List.getElem_map]
          rfl
        rw [e2] at e
        have := ih (i + 1) (by omega)
        rw [← e] at this
        exact this
  unfold laws_toNoteS.f
  refine Ev.pos (by omega) (Ev.pos (by omega) ?_)
  have := key l.length 0 (by omega)
  exact this
theorem eqNote_ (a : NI) : laws_eqNote.f a.f0 a.f1 a.f2 a.f0 a.f1 a.f2 = some true := by
  unfold laws_eqNote.f
  rw [if_pos rfl, if_pos rfl, if_pos rfl]
theorem eqNoteS_ (l : List NI) (hl : l.length ≤ 140737488351232) : Ev (fun k => laws_eqNoteS.f k l l) true := by
  unfold laws_eqNoteS.f
  refine Ev.pos rfl ?_
  have h := loop_all0 (L := fun k i => laws_eqNoteS.l0 k l l i) l.length (fun _ => true) true ?_ ?_ ?_
  · exact Ev.eq h (by simp)
  · exact Ev.step (fun _ => laws_eqNoteS.l0.eq_2 ..) (Ev.neg (by omega) (Ev.some rfl))
  · intro i hi _ r hr
    refine Ev.step (fun _ => laws_eqNoteS.l0.eq_2 ..) (Ev.pos (by omega) (Ev.pos (by omega) (Ev.pos (by omega) (Ev.have (eqNote_ _) (Ev.pos rfl ?_)))))
    rw [wrap_succ (by omega)]
    exact hr
  · intro i _ h
    cases h
end Go.Proofs.Ytgapcmmhbegdeaa.MNote
end
section
/- Ranges of frames. -/
namespace Go.Proofs.Ytgapcmmhbegdeaa.MCut
open Go.RowKit Go.Proofs.Ytgapcmmhbegdeaa.G Go.Proofs.YtgapcmmhbegdeaaW.PrintWords Go.Proofs.YtgapcmmhbegdeaaW.PrintLast Go.Proofs.Ytgapcmmhbegdeaa.MPure Go.Proofs.Ytgapcmmhbegdeaa.MWord Go.Proofs.Ytgapcmmhbegdeaa.MNote

def rangeB (a b : Int) : Bool := frameB a && frameB b && decide (a < b)
theorem isRange_ (a b : Int) : impl_isRange.f a b = some (rangeB a b) := by
  unfold impl_isRange.f rangeB
  rw [isFrame_, isFrame_]
  simp only [Option.bind_some]
  cases frameB a <;> cases frameB b <;> simp
end Go.Proofs.Ytgapcmmhbegdeaa.MCut
end
section
/- Windows of frames: what the reference and the program take for one. -/
namespace Go.Proofs.Ytgapcmmhbegdeaa.MWin
open Go.RowKit Go.Proofs.Ytgapcmmhbegdeaa.G Go.Proofs.YtgapcmmhbegdeaaW.PrintWords Go.Proofs.YtgapcmmhbegdeaaW.PrintLast Go.Proofs.Ytgapcmmhbegdeaa.MPure Go.Proofs.Ytgapcmmhbegdeaa.MWord Go.Proofs.Ytgapcmmhbegdeaa.MNote Go.Proofs.Ytgapcmmhbegdeaa.MCut

def windowB (a b : Int) : Bool := rangeB a b && decide (b - a ≤ 200)
theorem windowB_in {a b : Int} (h : windowB a b = true) : 0 ≤ a ∧ a < b ∧ b ≤ 99999 ∧ b - a ≤ 200 := by
  simp only [windowB, rangeB, frameB, Bool.and_eq_true, decide_eq_true_eq] at h
  omega
theorem isWindow_ (a b : Int) : impl_isWindow.f a b = some (windowB a b) := by
  unfold impl_isWindow.f windowB
  rw [isRange_]
  simp only [Option.bind_some]
  cases h : rangeB a b with
  | false => simp
  | true =>
    simp only [rangeB, frameB, Bool.and_eq_true, decide_eq_true_eq] at h
    rw [if_pos rfl, wrap_in (by omega) (by omega)]
    simp
theorem agFrame_ (a : Int) : spec_agFrame.f a = some (frameB a) := by
  unfold spec_agFrame.f
  rw [l1In_]
  rfl
theorem agWindow_ (a b : Int) : spec_agWindow.f a b = some (windowB a b) := by
  unfold spec_agWindow.f windowB rangeB
  rw [agFrame_, agFrame_]
  simp only [Option.bind_some]
  cases h1 : frameB a with
  | false => simp
  | true =>
    rw [if_pos rfl]
    cases h2 : frameB b with
    | false => simp
    | true =>
      simp only [frameB, decide_eq_true_eq] at h1 h2
      rw [if_pos rfl, wrap_in (by omega) (by omega), l1In_]
      simp only [Option.bind_some, Bool.true_and]
      congr 1
      rw [Bool.eq_iff_iff]
      simp only [Bool.and_eq_true, decide_eq_true_eq]
      omega
theorem wrap_step {x : Int} (h0 : 0 ≤ x) (h1 : x ≤ 99999) : wrap64 (x + 1) = x + 1 := wrap_in (by omega) (by omega)
end Go.Proofs.Ytgapcmmhbegdeaa.MWin
end
section
/- The gloss at a frame: the reference's search and the program's, by lists alone. -/
namespace Go.Proofs.Ytgapcmmhbegdeaa.MGloss
open Go.RowKit Go.Proofs.Ytgapcmmhbegdeaa.G Go.Proofs.YtgapcmmhbegdeaaW.PrintWords Go.Proofs.YtgapcmmhbegdeaaW.PrintLast Go.Proofs.Ytgapcmmhbegdeaa.MPure Go.Proofs.Ytgapcmmhbegdeaa.MWord Go.Proofs.Ytgapcmmhbegdeaa.MNote Go.Proofs.Ytgapcmmhbegdeaa.MAt0

/-- Whether a frame lies in a note. -/
def inB (a : Int) (x : NI) : Bool := decide (x.f0 ≤ a ∧ a < x.f1)
/-- The gloss at a frame, or the empty text. -/
def glossB (l : List NI) (a : Int) : ByteArray := if 0 ≤ idxOf (inB a) l then (atN l (idxOf (inB a) l).toNat).f2 else ⟨#[]⟩
theorem agGloss_ (l : List NI) (hl : Sized l) (a : Int) : Ev (fun k => spec_agGloss.f k l a) (glossB l a) := by
  obtain ⟨hn, _⟩ := hl
  have key : ∀ d i : Nat, i + d = l.length → (∀ j, j < i → inB a (atN l j) = false) → Ev (fun k => spec_agGloss.l0 k a l (l.length : Int) (i : Int)) (glossB l a) := by
    intro d
    induction d with
    | zero =>
      intro i hi hb
      obtain rfl : i = l.length := by omega
      refine Ev.step (fun _ => spec_agGloss.l0.eq_2 ..) (Ev.neg (by omega) (Ev.some ?_))
      unfold glossB
      rw [idxOf_miss z58 hb, if_neg (by decide)]
    | succ d ih =>
      intro i hi hb
      cases hp : inB a (atN l i) with
      | true =>
        have hq := hp
        simp only [inB, decide_eq_true_eq] at hq
        refine Ev.step (fun _ => spec_agGloss.l0.eq_2 ..) (Ev.pos (by omega) (Ev.pos (by omega) (Ev.pos (by omega) (Ev.pos hq.1 (Ev.pos hq.2 (Ev.some ?_))))))
        unfold glossB
        rw [idxOf_hit z58 (i := i) (by omega) hp hb, if_pos (by omega)]
        rfl
      | false =>
        have hq := hp
        simp only [inB, decide_eq_false_iff_not] at hq
        have hr := ih (i + 1) (by omega) (fun j hj => by
          by_cases e : j = i
          · subst e; exact hp
          · exact hb j (by omega))
        rw [← wrap_succ (by omega)] at hr
        refine Ev.step (fun _ => spec_agGloss.l0.eq_2 ..) (Ev.pos (by omega) (Ev.pos (by omega) (Ev.pos (by omega) (Ev.ite (fun h1 => Ev.neg (fun h2 => hq ⟨h1, h2⟩) hr) (fun _ => hr)))))
  exact key l.length 0 (by omega) (fun j hj => absurd hj (Nat.not_lt_zero _))
theorem tier_bounds {l : List NI} (h : tierB l = true) {x : NI} (hx : x ∈ l) : 0 ≤ x.f0 ∧ x.f0 < x.f1 ∧ x.f1 ≤ 99999 := by
  simp only [tierB, Bool.and_eq_true, List.all_eq_true, List.mem_range] at h
  obtain ⟨i, hi, rfl⟩ := List.mem_iff_getElem.1 hx
  have := h.1 i hi
  have e : atN l i = l[i] := by
    unfold atN
    rw [List.getD_eq_getElem?_getD, List.getElem?_eq_getElem hi]
    rfl
  simp only [tierP, noteB, frameB, Bool.and_eq_true, decide_eq_true_eq, e] at this
  omega
/-- In a tier both searches stop at the same notes. -/
theorem noteAt_in {l : List NI} (h : tierB l = true) (a : Int) : idxOf (impl_noteAt.p a) l = idxOf (inB a) l := by
  refine idxOf_congr (fun x hx => ?_)
  have := tier_bounds h hx
  unfold impl_noteAt.p inB
  rw [wrap_in (by omega) (by omega)]
  rw [decide_eq_decide]
  omega
theorem glossAt_ (l : List NI) (h : tierB l = true) (a : Int) : impl_glossAt.f l a = some (glossB l a) := by
  have e := noteAt_in h a
  have hr := idxOf_range (inB a) l
  unfold impl_glossAt.f impl_noteAt.f glossB
  rw [e]
  simp only [Option.bind_some]
  by_cases h0 : idxOf (inB a) l < 0
  · rw [if_pos h0, if_neg (by omega)]
  · rw [if_neg h0, if_pos (by omega), if_pos (by omega), if_pos (by omega)]
    rfl
end Go.Proofs.Ytgapcmmhbegdeaa.MGloss
end
section
/- How often two tiers have the same gloss. No condition. -/
namespace Go.Proofs.Ytgapcmmhbegdeaa.MSame
open Go.RowKit Go.Proofs.Ytgapcmmhbegdeaa.G Go.Proofs.YtgapcmmhbegdeaaW.PrintWords Go.Proofs.YtgapcmmhbegdeaaW.PrintLast Go.Proofs.Ytgapcmmhbegdeaa.MPure Go.Proofs.Ytgapcmmhbegdeaa.MWord Go.Proofs.Ytgapcmmhbegdeaa.MNote Go.Proofs.Ytgapcmmhbegdeaa.MCut Go.Proofs.Ytgapcmmhbegdeaa.MWin Go.Proofs.Ytgapcmmhbegdeaa.MAt0 Go.Proofs.Ytgapcmmhbegdeaa.MGloss

/-- The rounds at which both have the same gloss. -/
def sameN (x y : List NI) : Nat → Int → Int
  | 0, _ => 0
  | d + 1, a => (if (glossB x a).toList = (glossB y a).toList then 1 else 0) + sameN x y d (a + 1)
theorem sameN_bounds (x y : List NI) : ∀ (d : Nat) (a : Int), 0 ≤ sameN x y d a ∧ sameN x y d a ≤ (d : Int)
  | 0, _ => by simp [sameN]
  | d + 1, a => by
    have h := sameN_bounds x y d (a + 1)
    have e : sameN x y (d + 1) a = (if (glossB x a).toList = (glossB y a).toList then 1 else 0) + sameN x y d (a + 1) := rfl
    rw [e]
    split <;> omega
theorem same_loops (x y : List NI) (hx : Sized x) (hy : Sized y) (tx : tierB x = true) (ty : tierB y = true) (b : Int) (hb : b ≤ 99999) : ∀ (d : Nat) (a s : Int), a + d = b → 0 ≤ a → 0 ≤ s → s + d ≤ 1000 → Ev (fun k => spec_agSame.l0 k x y b s a) (s + sameN x y d a) ∧ Ev (fun k => impl_sameFrames.l0 k x y b s a) (s + sameN x y d a) := by
  intro d
  induction d with
  | zero =>
    intro a s hd ha h0 h1
    exact ⟨Ev.step (fun _ => spec_agSame.l0.eq_2 ..) (Ev.neg (by omega) (Ev.some (by simp [sameN]))), Ev.step (fun _ => impl_sameFrames.l0.eq_2 ..) (Ev.neg (by omega) (Ev.some (by simp [sameN])))⟩
  | succ d ih =>
    intro a s hd ha h0 h1
    have hw := wrap_step (x := a) (by omega) (by omega)
    have hs : wrap64 (s + 1) = s + 1 := wrap_in (by omega) (by omega)
    have es : sameN x y (d + 1) a = (if (glossB x a).toList = (glossB y a).toList then 1 else 0) + sameN x y d (a + 1) := rfl
    by_cases he : (glossB x a).toList = (glossB y a).toList
    · obtain ⟨g1, g2⟩ := ih (a + 1) (s + 1) (by omega) (by omega) (by omega) (by omega)
      rw [es, if_pos he, ← Int.add_assoc]
      refine ⟨Ev.step (fun _ => spec_agSame.l0.eq_2 ..) (Ev.pos (by omega) (Ev.bind (agGloss_ x hx a) (Ev.bind (agGloss_ y hy a) (Ev.pos he ?_)))), Ev.step (fun _ => impl_sameFrames.l0.eq_2 ..) (Ev.pos (by omega) (Ev.have (glossAt_ x tx a) (Ev.have (glossAt_ y ty a) (Ev.pos he ?_))))⟩
      · rw [hw, hs]; exact g1
      · rw [hw, hs]; exact g2
    · obtain ⟨g1, g2⟩ := ih (a + 1) s (by omega) (by omega) h0 (by omega)
      rw [es, if_neg he, Int.zero_add]
      refine ⟨Ev.step (fun _ => spec_agSame.l0.eq_2 ..) (Ev.pos (by omega) (Ev.bind (agGloss_ x hx a) (Ev.bind (agGloss_ y hy a) (Ev.neg he ?_)))), Ev.step (fun _ => impl_sameFrames.l0.eq_2 ..) (Ev.pos (by omega) (Ev.have (glossAt_ x tx a) (Ev.have (glossAt_ y ty a) (Ev.neg he ?_))))⟩
      · rw [hw]; exact g1
      · rw [hw]; exact g2
theorem Same_ (x y : List NI) (hx : Sized x) (hy : Sized y) (tx : tierB x = true) (ty : tierB y = true) (a b : Int) (h : windowB a b = true) : Ev (fun k => spec_agSame.f k x y a b) (sameN x y (b - a).toNat a) ∧ Ev (fun k => impl_sameFrames.f k x y a b) (sameN x y (b - a).toNat a) := by
  have hw := windowB_in h
  obtain ⟨s1, s2⟩ := same_loops x y hx hy tx ty b (by omega) (b - a).toNat a 0 (by omega) (by omega) (by omega) (by omega)
  rw [Int.zero_add] at s1 s2
  exact ⟨s1, s2⟩
end Go.Proofs.Ytgapcmmhbegdeaa.MSame
end
section
/- What the laws do with rows of rows of notes, and which rows of rows are tiers. -/
namespace Go.Proofs.Ytgapcmmhbegdeaa.MNoteSS
open Go.RowKit Go.Proofs.Ytgapcmmhbegdeaa.G Go.Proofs.YtgapcmmhbegdeaaW.PrintWords Go.Proofs.YtgapcmmhbegdeaaW.PrintLast Go.Proofs.Ytgapcmmhbegdeaa.MPure Go.Proofs.Ytgapcmmhbegdeaa.MWord Go.Proofs.Ytgapcmmhbegdeaa.MNote

def tot {α : Type} : List (List α) → Nat
  | [] => 0
  | q :: l => q.length + tot l
theorem drop_get {α : Type} (l : List (List α)) (i : Nat) (h : i < l.length) : l.drop i = l.getD i [] :: l.drop (i + 1) := by
  rw [List.drop_eq_getElem_cons h, List.getD_eq_getElem?_getD, List.getElem?_eq_getElem h]
  rfl
theorem get_mem {α : Type} (l : List (List α)) (i : Nat) (h : i < l.length) : l.getD i [] ∈ l := by
  rw [List.getD_eq_getElem?_getD, List.getElem?_eq_getElem h]
  exact List.getElem_mem h
theorem tot_map {α β : Type} (f : α → β) : ∀ l : List (List α), tot (l.map (fun q => q.map f)) = tot l
  | [] => rfl
  | q :: l => by
    show (q.map f).length + tot (l.map (fun q => q.map f)) = q.length + tot l
    rw [tot_map f l, List.length_map]
/-- What a law's rows of rows bear. -/
def GivenSS (l : List (List NL)) : Prop := (∀ a_, a_ ∈ l → Given a_) ∧ l.length * 24 ≤ 140737488351232
theorem szNoteS2_ (l : List NL) (hl : Given l) (n : Int) (h0 : 0 ≤ n) (h1 : n ≤ 1048576) : ∃ z, Ev (fun k => laws_szNoteS.f k l n) z ∧ -1 ≤ z ∧ z ≤ n ∧ (0 ≤ z → z + (l.length : Int) ≤ n) := by
  obtain ⟨hg, hn⟩ := hl
  have key : ∀ d i : Nat, i + d = l.length → ∀ z : Int, 0 ≤ z → z ≤ 1048576 → ∃ r, Ev (fun k => laws_szNoteS.l0 k l z (i : Int)) r ∧ -1 ≤ r ∧ r ≤ z := by
    intro d
    induction d with
    | zero =>
      intro i hi z h0 h1
      exact ⟨z, Ev.step (fun _ => laws_szNoteS.l0.eq_2 ..) (Ev.neg (by omega) (Ev.some rfl)), by omega, by omega⟩
    | succ d ih =>
      intro i hi z h0 h1
      have hm : rd_T127 l (i : Int) ∈ l := by
        show l.getD i z127 ∈ l
        rw [List.getD_eq_getElem?_getD, List.getElem?_eq_getElem (by omega)]
        exact List.getElem_mem _
      have hz := szNote_ (rd_T127 l (i : Int)).f0 (rd_T127 l (i : Int)).f1 (rd_T127 l (i : Int)).f2 (hg _ hm).2.2 z h0 h1
      by_cases hneg : z - ((rd_T127 l (i : Int)).f2.size : Int) < 0
      · rw [if_pos hneg] at hz
        exact ⟨-1, Ev.step (fun _ => laws_szNoteS.l0.eq_2 ..) (Ev.pos (by omega) (Ev.pos (by omega) (Ev.have hz (Ev.pos (by decide) (Ev.some rfl))))), by omega, by omega⟩
      · rw [if_neg hneg] at hz
        obtain ⟨r, hr, h2, h3⟩ := ih (i + 1) (by omega) _ (Int.not_lt.1 hneg) (by omega)
        refine ⟨r, Ev.step (fun _ => laws_szNoteS.l0.eq_2 ..) (Ev.pos (by omega) (Ev.pos (by omega) (Ev.have hz (Ev.neg hneg ?_)))), h2, by omega⟩
        rw [wrap_succ (by omega)]
        exact hr
  unfold laws_szNoteS.f
  rw [wrap_in (by omega) (by omega)]
  by_cases hneg : n - (l.length : Int) < 0
  · exact ⟨-1, Ev.pos hneg (Ev.some rfl), by omega, by omega, fun h => by omega⟩
  · obtain ⟨r, hr, h2, h3⟩ := key l.length 0 (by omega) _ (Int.not_lt.1 hneg) (by omega)
    exact ⟨r, Ev.neg hneg hr, h2, by omega, fun _ => by omega⟩
theorem szNoteSS_ (l : List (List NL)) (hl : GivenSS l) (n : Int) (h0 : 0 ≤ n) (h1 : n ≤ 1048576) : ∃ z, Ev (fun k => laws_szNoteSS.f k l n) z ∧ -1 ≤ z ∧ z ≤ n ∧ (0 ≤ z → (tot l : Int) + l.length ≤ n) := by
  obtain ⟨hg, hn⟩ := hl
  have key : ∀ d i : Nat, i + d = l.length → ∀ z : Int, 0 ≤ z → z ≤ 1048576 → ∃ r, Ev (fun k => laws_szNoteSS.l0 k l z (i : Int)) r ∧ -1 ≤ r ∧ r ≤ z ∧ (0 ≤ r → r + (tot (l.drop i) : Int) ≤ z) := by
    intro d
    induction d with
    | zero =>
      intro i hi z h0 h1
      refine ⟨z, Ev.step (fun _ => laws_szNoteSS.l0.eq_2 ..) (Ev.neg (by omega) (Ev.some rfl)), by omega, by omega, fun _ => ?_⟩
      rw [List.drop_eq_nil_of_le (by omega)]
      show z + ((0 : Nat) : Int) ≤ z
      omega
    | succ d ih =>
      intro i hi z h0 h1
      obtain ⟨z1, hz1, g1, g2, g3⟩ := szNoteS2_ (l.getD i []) (hg _ (get_mem l i (by omega))) z h0 h1
      have hd : tot (l.drop i) = (l.getD i []).length + tot (l.drop (i + 1)) := by rw [drop_get l i (by omega)]; rfl
      by_cases hneg : z1 < 0
      · exact ⟨-1, Ev.step (fun _ => laws_szNoteSS.l0.eq_2 ..) (Ev.pos (by omega) (Ev.pos (by omega) (Ev.bind hz1 (Ev.pos hneg (Ev.some rfl))))), by omega, by omega, fun h => by omega⟩
      · obtain ⟨r, hr, h2, h3, h4⟩ := ih (i + 1) (by omega) z1 (by omega) (by omega)
        refine ⟨r, Ev.step (fun _ => laws_szNoteSS.l0.eq_2 ..) (Ev.pos (by omega) (Ev.pos (by omega) (Ev.bind hz1 (Ev.neg hneg ?_)))), h2, by omega, fun h => ?_⟩
        · rw [wrap_succ (by omega)]
          exact hr
        · have h5 := h4 h
          have h6 := g3 (by omega)
          rw [hd]
          omega
  unfold laws_szNoteSS.f
  rw [wrap_in (by omega) (by omega)]
  by_cases hneg : n - (l.length : Int) < 0
  · exact ⟨-1, Ev.pos hneg (Ev.some rfl), by omega, by omega, fun h => by omega⟩
  · obtain ⟨r, hr, h2, h3, h4⟩ := key l.length 0 (by omega) _ (Int.not_lt.1 hneg) (by omega)
    refine ⟨r, Ev.neg hneg hr, h2, by omega, fun h => ?_⟩
    have := h4 h
    rw [List.drop_zero] at this
    omega
def convS (l : List (List NL)) : List (List NI) := l.map (fun q => q.map conv)
theorem convS_length (l : List (List NL)) : (convS l).length = l.length := by simp [convS]
theorem toNoteSS_ (l : List (List NL)) (hl : GivenSS l) : Ev (fun k => laws_toNoteSS.f k l) (convS l) := by
  obtain ⟨hg, hn⟩ := hl
  have hcl := convS_length l
  have key : ∀ d i : Nat, i + d = l.length → Ev (fun k => laws_toNoteSS.l0 k l ((convS l).take i ++ (List.replicate l.length ([] : List NI)).drop i) (i : Int)) (convS l) := by
    intro d
    induction d with
    | zero =>
      intro i hi
      exact Ev.step (fun _ => laws_toNoteSS.l0.eq_2 ..) (Ev.neg (by omega) (Ev.some (fill_all (by rw [hcl, List.length_replicate]) (by omega))))
    | succ d ih =>
      intro i hi
      have hrow := toNoteS_ (l.getD i []) (hg _ (get_mem l i (by omega))).2
      refine Ev.step (fun _ => laws_toNoteSS.l0.eq_2 ..) (Ev.pos (by omega) (Ev.pos (by omega) (Ev.bind hrow (Ev.pos ?_ ?_))))
      · rw [fill_length (by rw [hcl, List.length_replicate])]; omega
      · rw [wrap_succ (by omega)]
        have hi2 : i < (convS l).length := by omega
        have e := set_fill (xs := convS l) (ys := List.replicate l.length ([] : List NI)) (by rw [hcl, List.length_replicate]) hi2
        have e2 : (convS l)[i]'hi2 = (l.getD i []).map conv := by
          rw [List.getD_eq_getElem?_getD, List.getElem?_eq_getElem (show i < l.length by omega)]
          simp [convS]
        rw [e2] at e
        have := ih (i + 1) (by omega)
        rw [← e] at this
        exact this
  unfold laws_toNoteSS.f
  refine Ev.pos (by omega) (Ev.pos (by omega) ?_)
  have := key l.length 0 (by omega)
  exact this
theorem eqNoteSS_ (l : List (List NI)) (hl : l.length ≤ 140737488351232) (hr : ∀ q, q ∈ l → q.length ≤ 140737488351232) : Ev (fun k => laws_eqNoteSS.f k l l) true := by
  unfold laws_eqNoteSS.f
  refine Ev.pos rfl ?_
  have h := loop_all0 (L := fun k i => laws_eqNoteSS.l0 k l l i) l.length (fun _ => true) true (Ev.step (fun _ => laws_eqNoteSS.l0.eq_2 ..) (Ev.neg (by omega) (Ev.some rfl)))
    (fun i hi _ r ih => by
      rw [← wrap_succ (by omega)] at ih
      exact Ev.step (fun _ => laws_eqNoteSS.l0.eq_2 ..) (Ev.pos (by omega) (Ev.pos (by omega) (Ev.pos (by omega) (Ev.bind (eqNoteS_ _ (hr _ (get_mem l i hi))) (Ev.pos rfl ih))))))
    (fun _ _ h => by cases h)
  exact Ev.eq h (by simp)

/-! ### which rows of rows are tiers -/
def SizedSS (l : List (List NI)) : Prop := l.length ≤ 140737488351232 ∧ ∀ q, q ∈ l → Sized q
theorem GivenSS.sized {l : List (List NL)} (h : GivenSS l) : SizedSS (convS l) := by
  refine ⟨by rw [convS_length]; have := h.2; omega, fun q hq => ?_⟩
  obtain ⟨y, hy, rfl⟩ := List.mem_map.1 hq
  exact (h.1 y hy).sized
def tiersB (l : List (List NI)) : Bool := decide (1 ≤ (l.length : Int) ∧ (l.length : Int) ≤ 5) && l.all tierB
theorem agTiers_ (l : List (List NI)) (hl : SizedSS l) : Ev (fun k => spec_agTiers.f k l) (tiersB l) := by
  obtain ⟨hn, hs⟩ := hl
  unfold spec_agTiers.f
  have h := loop_all0 (L := fun k i => spec_agTiers.l0 k l l (l.length : Int) i) l.length (fun i => tierB (l.getD i [])) (decide (1 ≤ (l.length : Int) ∧ (l.length : Int) ≤ 5))
    (Ev.step (fun _ => spec_agTiers.l0.eq_2 ..) (Ev.neg (by omega) (Ev.have (l1In_ _ _ _) (Ev.some rfl))))
    (fun i hi hp r ih => by
      rw [← wrap_succ (by omega)] at ih
      exact Ev.step (fun _ => spec_agTiers.l0.eq_2 ..) (Ev.pos (by omega) (Ev.pos (by omega) (Ev.pos (by omega) (Ev.bind (tiGood_ _ (hs _ (get_mem l i hi))) (Ev.pos hp ih))))))
    (fun i hi hp => Ev.step (fun _ => spec_agTiers.l0.eq_2 ..) (Ev.pos (by omega) (Ev.pos (by omega) (Ev.pos (by omega) (Ev.bind (tiGood_ _ (hs _ (get_mem l i hi))) (Ev.neg (by show ¬ tierB (l.getD i []) = true; rw [hp]; decide) (Ev.some rfl)))))))
  refine Ev.eq h ?_
  unfold tiersB
  rw [Bool.and_comm]
  congr 1
  rw [Bool.eq_iff_iff, List.all_eq_true, List.all_eq_true]
  constructor
  · intro H x hx
    obtain ⟨j, hj, rfl⟩ := List.mem_iff_getElem.1 hx
    have := H j (List.mem_range.2 hj)
    rwa [List.getD_eq_getElem?_getD, List.getElem?_eq_getElem hj] at this
  · intro H j hj
    exact H _ (get_mem l j (List.mem_range.1 hj))
theorem all_ : ∀ (l : List (List NI)), (∀ q, q ∈ l → Sized q) → Ev (fun k => impl_areTiers.all k l) (l.all tierB)
  | [], _ => Ev.some rfl
  | q :: l, h => Ev.bind (IsTier_ q (h q (List.mem_cons_self ..))) (Ev.bind (all_ l (fun x hx => h x (List.mem_cons_of_mem _ hx))) (Ev.some rfl))
theorem areTiers_ (l : List (List NI)) (hl : SizedSS l) : Ev (fun k => impl_areTiers.f k l) (tiersB l) := by
  unfold impl_areTiers.f tiersB
  refine Ev.have (within_ _ _ _) (Ev.ite (fun h => ?_) (fun h => ?_))
  · rw [h, Bool.true_and]
    exact all_ l hl.2
  · rw [Bool.eq_false_iff.2 h, Bool.false_and]
    exact Ev.some rfl
theorem tiersB_in {l : List (List NI)} (h : tiersB l = true) : 1 ≤ l.length ∧ l.length ≤ 5 ∧ ∀ q, q ∈ l → tierB q = true := by
  unfold tiersB at h
  simp only [Bool.and_eq_true, decide_eq_true_eq, List.all_eq_true] at h
  exact ⟨by omega, by omega, h.2⟩
end Go.Proofs.Ytgapcmmhbegdeaa.MNoteSS
end
section
/- BestAnnotator: what the reference and the program answer, in plain words. No condition. -/
namespace Go.Proofs.Ytgapcmmhbegdeaa.MBest
open Go.RowKit Go.Proofs.Ytgapcmmhbegdeaa.G Go.Proofs.YtgapcmmhbegdeaaW.PrintWords Go.Proofs.YtgapcmmhbegdeaaW.PrintLast Go.Proofs.Ytgapcmmhbegdeaa.MPure Go.Proofs.Ytgapcmmhbegdeaa.MWord Go.Proofs.Ytgapcmmhbegdeaa.MNote Go.Proofs.Ytgapcmmhbegdeaa.MWin Go.Proofs.Ytgapcmmhbegdeaa.MSame Go.Proofs.Ytgapcmmhbegdeaa.MNoteSS

/-- How often a row agrees with the rows of a list that is numbered from j on, its own number i left out. -/
def rowSum (x : List NI) (i : Int) (d : Nat) (a : Int) : List (List NI) → Int → Int
  | [], _ => 0
  | y :: l, j => (if j = i then 0 else sameN x y d a) + rowSum x i d a l (j + 1)
/-- The first row of the greatest sum. -/
def bestOf (T : List (List NI)) (d : Nat) (a : Int) : List (List NI) → Int → Int → Int → Int × Int
  | [], _, b, m => (b, m)
  | x :: l, i, b, m => if rowSum x i d a T 0 > m then bestOf T d a l (i + 1) i (rowSum x i d a T 0) else bestOf T d a l (i + 1) b m
theorem inner_s (T : List (List NI)) (hT : SizedSS T) (ht : tiersB T = true) (a b : Int) (hw : windowB a b = true) (best most i : Int) (x : List NI) (hx : x ∈ T) (r : Int × Int × Bool) : ∀ (n j : Nat) (s : Int), j + n = T.length → 0 ≤ s → s + 200 * n ≤ 100000 →
    Ev (fun k => if s + rowSum x i (b - a).toNat a (T.drop j) j > most then spec_BestAnnotator.l0 k T a b i (s + rowSum x i (b - a).toNat a (T.drop j) j) T (T.length : Int) (wrap64 (i + 1)) else spec_BestAnnotator.l0 k T a b best most T (T.length : Int) (wrap64 (i + 1))) r →
    Ev (fun k => spec_BestAnnotator.l1 k T a b best most i x s T (T.length : Int) i T (T.length : Int) (j : Int)) r := by
  obtain ⟨h1, h2, h3⟩ := tiersB_in ht
  have hwin := windowB_in hw
  intro n
  induction n with
  | zero =>
    intro j s hj hs hs2 hr
    have e : T.drop j = [] := List.drop_eq_nil_of_le (by omega)
    rw [e] at hr
    have e2 : s + rowSum x i (b - a).toNat a [] j = s := by show s + 0 = s; omega
    rw [e2] at hr
    exact Ev.step (fun _ => spec_BestAnnotator.l1.eq_2 ..) (Ev.neg (by omega) hr)
  | succ n ih =>
    intro j s hj hs hs2 hr
    have hm := get_mem T j (by omega)
    rw [drop_get T j (by omega)] at hr
    have e : rowSum x i (b - a).toNat a (T.getD j [] :: T.drop (j + 1)) j = (if (j : Int) = i then 0 else sameN x (T.getD j []) (b - a).toNat a) + rowSum x i (b - a).toNat a (T.drop (j + 1)) ((j : Int) + 1) := rfl
    rw [e] at hr
    have hb := sameN_bounds x (T.getD j []) (b - a).toNat a
    by_cases hi : (j : Int) = i
    · rw [if_pos hi, Int.zero_add] at hr
      refine Ev.step (fun _ => spec_BestAnnotator.l1.eq_2 ..) (Ev.pos (by omega) (Ev.pos (by omega) (Ev.pos (by omega) (Ev.pos hi ?_))))
      rw [wrap_succ (by omega)]
      exact ih (j + 1) s (by omega) hs (by omega) hr
    · rw [if_neg hi, ← Int.add_assoc] at hr
      refine Ev.step (fun _ => spec_BestAnnotator.l1.eq_2 ..) (Ev.pos (by omega) (Ev.pos (by omega) (Ev.pos (by omega) (Ev.neg hi (Ev.bind (Same_ x (T.getD j []) (hT.2 x hx) (hT.2 _ hm) (h3 x hx) (h3 _ hm) a b hw).1 ?_)))))
      rw [wrap_succ (by omega), wrap_in (show -9223372036854775808 ≤ s + sameN x (T.getD j []) (b - a).toNat a by omega) (by omega)]
      exact ih (j + 1) _ (by omega) (by omega) (by omega) hr
theorem outer_s (T : List (List NI)) (hT : SizedSS T) (ht : tiersB T = true) (a b : Int) (hw : windowB a b = true) : ∀ (n i : Nat) (best most : Int), i + n = T.length →
    Ev (fun k => spec_BestAnnotator.l0 k T a b best most T (T.length : Int) (i : Int)) ((bestOf T (b - a).toNat a (T.drop i) i best most).1, (bestOf T (b - a).toNat a (T.drop i) i best most).2, true) := by
  obtain ⟨h1, h2, h3⟩ := tiersB_in ht
  intro n
  induction n with
  | zero =>
    intro i best most hi
    have e : T.drop i = [] := List.drop_eq_nil_of_le (by omega)
    rw [e]
    exact Ev.step (fun _ => spec_BestAnnotator.l0.eq_2 ..) (Ev.neg (by omega) (Ev.some rfl))
  | succ n ih =>
    intro i best most hi
    have hm := get_mem T i (by omega)
    rw [drop_get T i (by omega)]
    refine Ev.step (fun _ => spec_BestAnnotator.l0.eq_2 ..) (Ev.pos (by omega) (Ev.pos (by omega) (Ev.pos (by omega) (inner_s T hT ht a b hw best most i (T.getD i []) hm _ T.length 0 0 (by omega) (by omega) (by omega) ?_))))
    rw [List.drop_zero, Int.zero_add, wrap_succ (by omega)]
    refine Ev.ite (fun h => ?_) (fun h => ?_)
    · have e : bestOf T (b - a).toNat a (T.getD i [] :: T.drop (i + 1)) i best most = bestOf T (b - a).toNat a (T.drop (i + 1)) ((i + 1 : Nat) : Int) i (rowSum (T.getD i []) i (b - a).toNat a T 0) := if_pos h
      rw [e]
      exact ih (i + 1) _ _ (by omega)
    · have e : bestOf T (b - a).toNat a (T.getD i [] :: T.drop (i + 1)) i best most = bestOf T (b - a).toNat a (T.drop (i + 1)) ((i + 1 : Nat) : Int) best most := if_neg h
      rw [e]
      exact ih (i + 1) _ _ (by omega)
theorem inner_i (T : List (List NI)) (hT : SizedSS T) (ht : tiersB T = true) (a b : Int) (hw : windowB a b = true) (best most i : Int) (x : List NI) (hx : x ∈ T) (r : Int × Int × Bool) : ∀ (n j : Nat) (s : Int), j + n = T.length → 0 ≤ s → s + 200 * n ≤ 100000 →
    Ev (fun k => if s + rowSum x i (b - a).toNat a (T.drop j) j > most then impl_BestAnnotator.l0 k T a b i (s + rowSum x i (b - a).toNat a (T.drop j) j) T (T.length : Int) (wrap64 (i + 1)) else impl_BestAnnotator.l0 k T a b best most T (T.length : Int) (wrap64 (i + 1))) r →
    Ev (fun k => impl_BestAnnotator.l1 k T a b best most i x s T (T.length : Int) i T (T.length : Int) (j : Int)) r := by
  obtain ⟨h1, h2, h3⟩ := tiersB_in ht
  have hwin := windowB_in hw
  intro n
  induction n with
  | zero =>
    intro j s hj hs hs2 hr
    have e : T.drop j = [] := List.drop_eq_nil_of_le (by omega)
    rw [e] at hr
    have e2 : s + rowSum x i (b - a).toNat a [] j = s := by show s + 0 = s; omega
    rw [e2] at hr
    exact Ev.step (fun _ => impl_BestAnnotator.l1.eq_2 ..) (Ev.neg (by omega) hr)
  | succ n ih =>
    intro j s hj hs hs2 hr
    have hm := get_mem T j (by omega)
    rw [drop_get T j (by omega)] at hr
    have e : rowSum x i (b - a).toNat a (T.getD j [] :: T.drop (j + 1)) j = (if (j : Int) = i then 0 else sameN x (T.getD j []) (b - a).toNat a) + rowSum x i (b - a).toNat a (T.drop (j + 1)) ((j : Int) + 1) := rfl
    rw [e] at hr
    have hb := sameN_bounds x (T.getD j []) (b - a).toNat a
    by_cases hi : (j : Int) = i
    · rw [if_pos hi, Int.zero_add] at hr
      refine Ev.step (fun _ => impl_BestAnnotator.l1.eq_2 ..) (Ev.pos (by omega) (Ev.pos (by omega) (Ev.pos (by omega) (Ev.pos hi ?_))))
      rw [wrap_succ (by omega)]
      exact ih (j + 1) s (by omega) hs (by omega) hr
    · rw [if_neg hi, ← Int.add_assoc] at hr
      refine Ev.step (fun _ => impl_BestAnnotator.l1.eq_2 ..) (Ev.pos (by omega) (Ev.pos (by omega) (Ev.pos (by omega) (Ev.neg hi (Ev.bind (Same_ x (T.getD j []) (hT.2 x hx) (hT.2 _ hm) (h3 x hx) (h3 _ hm) a b hw).2 ?_)))))
      rw [wrap_succ (by omega), wrap_in (show -9223372036854775808 ≤ s + sameN x (T.getD j []) (b - a).toNat a by omega) (by omega)]
      exact ih (j + 1) _ (by omega) (by omega) (by omega) hr
theorem outer_i (T : List (List NI)) (hT : SizedSS T) (ht : tiersB T = true) (a b : Int) (hw : windowB a b = true) : ∀ (n i : Nat) (best most : Int), i + n = T.length →
    Ev (fun k => impl_BestAnnotator.l0 k T a b best most T (T.length : Int) (i : Int)) ((bestOf T (b - a).toNat a (T.drop i) i best most).1, (bestOf T (b - a).toNat a (T.drop i) i best most).2, true) := by
  obtain ⟨h1, h2, h3⟩ := tiersB_in ht
  intro n
  induction n with
  | zero =>
    intro i best most hi
    have e : T.drop i = [] := List.drop_eq_nil_of_le (by omega)
    rw [e]
    exact Ev.step (fun _ => impl_BestAnnotator.l0.eq_2 ..) (Ev.neg (by omega) (Ev.some rfl))
  | succ n ih =>
    intro i best most hi
    have hm := get_mem T i (by omega)
    rw [drop_get T i (by omega)]
    refine Ev.step (fun _ => impl_BestAnnotator.l0.eq_2 ..) (Ev.pos (by omega) (Ev.pos (by omega) (Ev.pos (by omega) (inner_i T hT ht a b hw best most i (T.getD i []) hm _ T.length 0 0 (by omega) (by omega) (by omega) ?_))))
    rw [List.drop_zero, Int.zero_add, wrap_succ (by omega)]
    refine Ev.ite (fun h => ?_) (fun h => ?_)
    · have e : bestOf T (b - a).toNat a (T.getD i [] :: T.drop (i + 1)) i best most = bestOf T (b - a).toNat a (T.drop (i + 1)) ((i + 1 : Nat) : Int) i (rowSum (T.getD i []) i (b - a).toNat a T 0) := if_pos h
      rw [e]
      exact ih (i + 1) _ _ (by omega)
    · have e : bestOf T (b - a).toNat a (T.getD i [] :: T.drop (i + 1)) i best most = bestOf T (b - a).toNat a (T.drop (i + 1)) ((i + 1 : Nat) : Int) best most := if_neg h
      rw [e]
      exact ih (i + 1) _ _ (by omega)
def bestR (T : List (List NI)) (a b : Int) : Int × Int × Bool := if (tiersB T && windowB a b) = true then ((bestOf T (b - a).toNat a T 0 0 (-1)).1, (bestOf T (b - a).toNat a T 0 0 (-1)).2, true) else (0, 0, false)
theorem Best_s (T : List (List NI)) (hT : SizedSS T) (a b : Int) : Ev (fun k => spec_BestAnnotator.f k T a b) (bestR T a b) := by
  unfold spec_BestAnnotator.f bestR
  cases h1 : tiersB T with
  | false => exact Ev.bind (Ev.eq (agTiers_ T hT) h1) (Ev.neg (by decide) (Ev.step (fun _ => spec_BestAnnotator.j0.eq_2 ..) (Ev.pos rfl (Ev.some rfl))))
  | true =>
    cases h2 : windowB a b with
    | false => exact Ev.bind (Ev.eq (agTiers_ T hT) h1) (Ev.pos rfl (Ev.have ((agWindow_ a b).trans (congrArg some h2)) (Ev.step (fun _ => spec_BestAnnotator.j0.eq_2 ..) (Ev.pos rfl (Ev.some rfl)))))
    | true =>
      have h := outer_s T hT h1 a b h2 T.length 0 0 (-1) (by omega)
      rw [List.drop_zero] at h
      exact Ev.bind (Ev.eq (agTiers_ T hT) h1) (Ev.pos rfl (Ev.have ((agWindow_ a b).trans (congrArg some h2)) (Ev.step (fun _ => spec_BestAnnotator.j0.eq_2 ..) (Ev.neg (by decide) h))))
theorem Best_i (T : List (List NI)) (hT : SizedSS T) (a b : Int) : Ev (fun k => impl_BestAnnotator.f k T a b) (bestR T a b) := by
  unfold impl_BestAnnotator.f bestR
  cases h1 : tiersB T with
  | false => exact Ev.bind (Ev.eq (areTiers_ T hT) h1) (Ev.neg (by decide) (Ev.step (fun _ => impl_BestAnnotator.j0.eq_2 ..) (Ev.pos rfl (Ev.some rfl))))
  | true =>
    cases h2 : windowB a b with
    | false => exact Ev.bind (Ev.eq (areTiers_ T hT) h1) (Ev.pos rfl (Ev.have ((isWindow_ a b).trans (congrArg some h2)) (Ev.step (fun _ => impl_BestAnnotator.j0.eq_2 ..) (Ev.pos rfl (Ev.some rfl)))))
    | true =>
      have h := outer_i T hT h1 a b h2 T.length 0 0 (-1) (by omega)
      rw [List.drop_zero] at h
      exact Ev.bind (Ev.eq (areTiers_ T hT) h1) (Ev.pos rfl (Ev.have ((isWindow_ a b).trans (congrArg some h2)) (Ev.step (fun _ => impl_BestAnnotator.j0.eq_2 ..) (Ev.neg (by decide) h))))
end Go.Proofs.Ytgapcmmhbegdeaa.MBest
end
section
/- MajorityTier: what the reference and the program answer, in plain words. No condition. -/
namespace Go.Proofs.Ytgapcmmhbegdeaa.MMajor
open Go.RowKit Go.Proofs.Ytgapcmmhbegdeaa.G Go.Proofs.YtgapcmmhbegdeaaW.PrintWords Go.Proofs.YtgapcmmhbegdeaaW.PrintLast Go.Proofs.Ytgapcmmhbegdeaa.MPure Go.Proofs.Ytgapcmmhbegdeaa.MWord Go.Proofs.Ytgapcmmhbegdeaa.MNote Go.Proofs.Ytgapcmmhbegdeaa.MWin Go.Proofs.Ytgapcmmhbegdeaa.MAt0 Go.Proofs.Ytgapcmmhbegdeaa.MGloss Go.Proofs.Ytgapcmmhbegdeaa.MNoteSS
open Go.Proofs.Ytgapcmmhbegdeaa.MMap (cnt)

theorem cnt_cons (t : ByteArray) (l : List ByteArray) (s : ByteArray) : cnt (t :: l) s = (if t.toList = s.toList then 1 else 0) + cnt l s := by
  unfold cnt
  rw [List.filter_cons]
  by_cases h : t.toList = s.toList
  · rw [if_pos (by simp [h]), if_pos h, List.length_cons]; omega
  · rw [if_neg (by simp [h]), if_neg h]; omega
theorem cnt_nonneg (l : List ByteArray) (s : ByteArray) : 0 ≤ cnt l s := (MMap.cnt_le l s).1
theorem cnt_app (s : ByteArray) (m : List ByteArray) : ∀ l : List ByteArray, cnt (l ++ m) s = cnt l s + cnt m s
  | [] => by show cnt m s = ((0 : Nat) : Int) + cnt m s; omega
  | x :: l => by rw [List.cons_append, cnt_cons, cnt_cons, cnt_app s m l]; omega
/-- Two texts that differ. -/
theorem cnt_two (g h : ByteArray) (hd : g.toList ≠ h.toList) : ∀ l : List ByteArray, cnt l g + cnt l h ≤ (l.length : Int)
  | [] => by show ((0 : Nat) : Int) + ((0 : Nat) : Int) ≤ ((0 : Nat) : Int); omega
  | x :: l => by
    have ih := cnt_two g h hd l
    rw [cnt_cons, cnt_cons, List.length_cons]
    by_cases h1 : x.toList = g.toList
    · have h2 : ¬ x.toList = h.toList := fun e => hd (h1.symm.trans e)
      rw [if_pos h1, if_neg h2]; omega
    · rw [if_neg h1]
      split <;> omega
theorem bytes_eq {a b : ByteArray} (h : a.toList = b.toList) : a = b := by
  rw [ByteArray.toList_eq, ByteArray.toList_eq] at h
  exact ByteArray.ext (Array.toList_inj.1 h)
/-- The text that more than half have, or the empty one. -/
def majB (gs : List ByteArray) : ByteArray := match gs.find? (fun g => decide (2 * cnt gs g > (gs.length : Int))) with | some g => g | none => ⟨#[]⟩
theorem maj_is {gs : List ByteArray} {g : ByteArray} (hm : g ∈ gs) (h : 2 * cnt gs g > (gs.length : Int)) : majB gs = g := by
  unfold majB
  cases hf : gs.find? (fun g => decide (2 * cnt gs g > (gs.length : Int))) with
  | none =>
    rw [List.find?_eq_none] at hf
    exact absurd (decide_eq_true h) (hf g hm)
  | some q =>
    have hq := List.find?_some hf
    have hq := of_decide_eq_true hq
    apply bytes_eq
    apply Decidable.byContradiction
    intro hn
    have := cnt_two q g hn gs
    omega
theorem maj_not {gs : List ByteArray} (h : ∀ g, g ∈ gs → ¬ 2 * cnt gs g > (gs.length : Int)) : majB gs = ⟨#[]⟩ := by
  unfold majB
  have hf : gs.find? (fun g => decide (2 * cnt gs g > (gs.length : Int))) = none := by
    rw [List.find?_eq_none]
    intro x hx he
    exact h x hx (of_decide_eq_true he)
  rw [hf]
def glS (T : List (List NI)) (a : Int) : List ByteArray := T.map (fun x => glossB x a)
theorem glS_length (T : List (List NI)) (a : Int) : (glS T a).length = T.length := by simp [glS]
theorem mem_glS {T : List (List NI)} {x : List NI} (h : x ∈ T) (a : Int) : glossB x a ∈ glS T a := List.mem_map.2 ⟨x, h, rfl⟩
theorem gloss_size (x : List NI) (hx : Sized x) (a : Int) : (glossB x a).size ≤ 140737488351232 := by
  unfold glossB
  split
  · rename_i h
    have hr := idxOf_range (inB a) x
    have hm : atN x (idxOf (inB a) x).toNat ∈ x := atN_mem (by omega)
    exact hx.2 _ hm
  · exact Nat.zero_le _
theorem maj_size (T : List (List NI)) (hT : SizedSS T) (a : Int) : (majB (glS T a)).size ≤ 140737488351232 := by
  unfold majB
  split
  · rename_i g hg
    have hm := List.mem_of_find?_eq_some hg
    obtain ⟨x, hx, rfl⟩ := List.mem_map.1 hm
    exact gloss_size x (hT.2 x hx) a
  · exact Nat.zero_le _
/-- The program's. -/
theorem go_ (T : List (List NI)) (hT : SizedSS T) (h3 : ∀ q, q ∈ T → tierB q = true) (h5 : T.length ≤ 5) (a : Int) : ∀ (l : List (List NI)) (seen : List ByteArray), (∀ q, q ∈ l → q ∈ T) → seen ++ glS l a = glS T a → (∀ g, ¬ 2 * cnt seen g > (T.length : Int)) →
    impl_majority.go (T.length : Int) a l seen = some (majB (glS T a)) := by
  intro l
  induction l with
  | nil =>
    intro seen hl hs hn
    have e : seen = glS T a := by rw [← hs]; simp [glS]
    subst e
    rw [maj_not (fun g _ => by rw [glS_length]; exact hn g)]
    rfl
  | cons x l ih =>
    intro seen hl hs hn
    have hx := hl x (List.mem_cons_self ..)
    have hs2 : (seen ++ [glossB x a]) ++ glS l a = glS T a := by rw [← hs, List.append_assoc]; rfl
    have hle : cnt (seen ++ [glossB x a]) (glossB x a) ≤ cnt (glS T a) (glossB x a) := by
      rw [← hs2, cnt_app _ (glS l a)]
      have := cnt_nonneg (glS l a) (glossB x a)
      omega
    have hcl := MMap.cnt_le (seen ++ [glossB x a]) (glossB x a)
    have hlen : (seen ++ [glossB x a]).length ≤ 5 := by
      have h1 := congrArg List.length hs2
      rw [List.length_append, glS_length, glS_length] at h1
      omega
    unfold impl_majority.go
    rw [glossAt_ x (h3 x hx) a, Option.bind_some, if_pos (Nat.le_trans (gloss_size x (hT.2 x hx) a) (by omega)), wrap_in (by omega) (by omega)]
    by_cases hg : 2 * cnt (seen ++ [glossB x a]) (glossB x a) > (T.length : Int)
    · rw [if_pos hg, maj_is (gs := glS T a) (g := glossB x a) (mem_glS hx a) (by rw [glS_length]; omega)]
    · rw [if_neg hg]
      refine ih _ (fun q hq => hl q (List.mem_cons_of_mem _ hq)) hs2 (fun g => ?_)
      have hc := MMap.cnt_step seen (glossB x a) g
      by_cases he : (glossB x a).toList == g.toList
      · rw [MMap.cnt_same he]
        exact hg
      · rw [hc, if_neg he]
        exact hn g
theorem majority_ (T : List (List NI)) (hT : SizedSS T) (h : tiersB T = true) (a : Int) : impl_majority.f T a = some (majB (glS T a)) := by
  obtain ⟨h1, h2, h3⟩ := tiersB_in h
  unfold impl_majority.f
  rw [if_pos (by omega)]
  exact go_ T hT h3 h2 a T [] (fun q hq => hq) rfl (fun g => by show ¬ 2 * ((0 : Nat) : Int) > _; omega)
/-- The reference's. -/
theorem agMajor_ (T : List (List NI)) (hT : SizedSS T) (h : tiersB T = true) (a : Int) : Ev (fun k => spec_agMajor.f k T a) (majB (glS T a)) := by
  obtain ⟨h1, h2, h3⟩ := tiersB_in h
  have inner : ∀ (x : ByteArray) (i : Int) (r : ByteArray) (n j : Nat) (c : Int), j + n = T.length → 0 ≤ c → c ≤ j →
      Ev (fun k => if 2 * (c + cnt (glS (T.drop j) a) x) > (T.length : Int) then some x else spec_agMajor.l0 k T a T (T.length : Int) (wrap64 (i + 1))) r → Ev (fun k => spec_agMajor.l1 k T a x c T (T.length : Int) i T (T.length : Int) (j : Int)) r := by
    intro x i r n
    induction n with
    | zero =>
      intro j c hj hc hc2 hr
      have e : T.drop j = [] := List.drop_eq_nil_of_le (by omega)
      rw [e] at hr
      have e2 : c + cnt (glS [] a) x = c := by show c + ((0 : Nat) : Int) = c; omega
      rw [e2] at hr
      refine Ev.step (fun _ => spec_agMajor.l1.eq_2 ..) (Ev.neg (by omega) ?_)
      rw [wrap_in (by omega) (by omega)]
      exact hr
    | succ n ih =>
      intro j c hj hc hc2 hr
      have hm := get_mem T j (by omega)
      rw [drop_get T j (by omega)] at hr
      have e : glS (T.getD j [] :: T.drop (j + 1)) a = glossB (T.getD j []) a :: glS (T.drop (j + 1)) a := rfl
      rw [e, cnt_cons] at hr
      refine Ev.step (fun _ => spec_agMajor.l1.eq_2 ..) (Ev.pos (by omega) (Ev.pos (by omega) (Ev.pos (by omega) (Ev.bind (agGloss_ _ (hT.2 _ hm) a) ?_))))
      by_cases hg : (glossB (T.getD j []) a).toList = x.toList
      · rw [if_pos hg, ← Int.add_assoc] at hr
        refine Ev.pos hg ?_
        rw [wrap_succ (by omega), wrap_in (show -9223372036854775808 ≤ c + 1 by omega) (by omega)]
        exact ih (j + 1) (c + 1) (by omega) (by omega) (by omega) hr
      · rw [if_neg hg, Int.zero_add] at hr
        refine Ev.neg hg ?_
        rw [wrap_succ (by omega)]
        exact ih (j + 1) c (by omega) hc (by omega) hr
  have outer : ∀ (n i : Nat), i + n = T.length → (∀ j, j < i → ¬ 2 * cnt (glS T a) (glossB (T.getD j []) a) > (T.length : Int)) → Ev (fun k => spec_agMajor.l0 k T a T (T.length : Int) (i : Int)) (majB (glS T a)) := by
    intro n
    induction n with
    | zero =>
      intro i hi hn
      refine Ev.step (fun _ => spec_agMajor.l0.eq_2 ..) (Ev.neg (by omega) (Ev.some ?_))
      rw [maj_not]
      intro g hg
      obtain ⟨x, hx, rfl⟩ := List.mem_map.1 hg
      obtain ⟨j, hj, rfl⟩ := List.mem_iff_getElem.1 hx
      have := hn j (by omega)
      rw [List.getD_eq_getElem?_getD, List.getElem?_eq_getElem hj] at this
      rw [glS_length]
      exact this
    | succ n ih =>
      intro i hi hn
      have hm := get_mem T i (by omega)
      refine Ev.step (fun _ => spec_agMajor.l0.eq_2 ..) (Ev.pos (by omega) (Ev.pos (by omega) (Ev.pos (by omega) (Ev.bind (agGloss_ _ (hT.2 _ hm) a) (inner (glossB (T.getD i []) a) i _ T.length 0 0 (by omega) (by omega) (by omega) ?_)))))
      rw [List.drop_zero, Int.zero_add, wrap_succ (by omega)]
      refine Ev.ite (fun hg => Ev.some ?_) (fun hg => ?_)
      · exact (maj_is (gs := glS T a) (mem_glS hm a) (by rw [glS_length]; exact hg)).symm
      · refine ih (i + 1) (by omega) (fun j hj => ?_)
        by_cases e : j = i
        · subst e; exact hg
        · exact hn j (by omega)
  exact outer T.length 0 (by omega) (fun j hj => absurd hj (Nat.not_lt_zero _))

/-! ### the rows of frames -/
/-- What ties the reference's last gloss to the program's last note. -/
def rowJ (s : List NI) (last : ByteArray) (a : Int) : Prop := (s.length = 0 → last.toList = []) ∧ (0 < s.length → (rd_T58 s ((s.length - 1 : Nat) : Int)).f1 ≤ a ∧ (rd_T58 s ((s.length - 1 : Nat) : Int)).f2.toList ≠ [] ∧
  (last.toList ≠ [] → (rd_T58 s ((s.length - 1 : Nat) : Int)).f1 = a ∧ (rd_T58 s ((s.length - 1 : Nat) : Int)).f2.toList = last.toList) ∧ ((rd_T58 s ((s.length - 1 : Nat) : Int)).f1 = a → last.toList = (rd_T58 s ((s.length - 1 : Nat) : Int)).f2.toList))
theorem rd_end (s : List NI) (v : NI) : rd_T58 (s ++ [v]) (((s ++ [v]).length - 1 : Nat) : Int) = v := by
  have e : (s ++ [v]).length - 1 = s.length := by simp
  rw [e]
  show (s ++ [v]).getD s.length z58 = v
  rw [List.getD_eq_getElem?_getD, List.getElem?_append_right (Nat.le_refl _), Nat.sub_self]
  rfl
theorem rd_setN (s : List NI) (n : Nat) (v : NI) (h : n < s.length) : rd_T58 (s.set n v) (n : Int) = v := by
  show (s.set n v).getD n z58 = v
  rw [List.getD_eq_getElem?_getD, List.getElem?_set_self h]
  rfl
theorem mem_set_size {s : List NI} {n : Nat} {v : NI} (h : ∀ x, x ∈ s → x.f2.size ≤ 140737488351232) (hv : v.f2.size ≤ 140737488351232) : ∀ x, x ∈ s.set n v → x.f2.size ≤ 140737488351232 := by
  intro x hx
  rcases List.mem_or_eq_of_mem_set hx with hx | rfl
  · exact h x hx
  · exact hv
theorem rd_mem (s : List NI) (n : Nat) (h : n < s.length) : rd_T58 s (n : Int) ∈ s := by
  show s.getD n z58 ∈ s
  rw [List.getD_eq_getElem?_getD, List.getElem?_eq_getElem h]
  exact List.getElem_mem h
theorem loops (T : List (List NI)) (hT : SizedSS T) (ht : tiersB T = true) (b : Int) (hb : b ≤ 99999) : ∀ (d : Nat) (a : Int) (s : List NI) (last : ByteArray), a + d = b → 0 ≤ a → s.length + d ≤ 200 → (∀ x, x ∈ s → x.f2.size ≤ 140737488351232) → rowJ s last a →
    ∃ r : List NI × Bool, r.1.length ≤ 200 ∧ Ev (fun k => spec_MajorityTier.l0 k T b s last a) r ∧ Ev (fun k => impl_MajorityTier.l0 k T b s a) r ∧ (r.2 = true → tierB r.1 = true) ∧ (∀ x, x ∈ r.1 → x.f2.size ≤ 140737488351232) := by
  intro d
  induction d with
  | zero =>
    intro a s last hd ha hs hz _
    have hsz : Sized s := ⟨by omega, hz⟩
    cases hq : tierB s with
    | true => exact ⟨(s, true), by show s.length ≤ 200; omega, Ev.step (fun _ => spec_MajorityTier.l0.eq_2 ..) (Ev.neg (by omega) (Ev.bind (tiGood_ s hsz) (Ev.pos hq (Ev.some rfl)))), Ev.step (fun _ => impl_MajorityTier.l0.eq_2 ..) (Ev.neg (by omega) (Ev.bind (IsTier_ s hsz) (Ev.pos hq (Ev.some rfl)))), fun _ => hq, hz⟩
    | false => exact ⟨([], false), Nat.zero_le _, Ev.step (fun _ => spec_MajorityTier.l0.eq_2 ..) (Ev.neg (by omega) (Ev.bind (tiGood_ s hsz) (Ev.neg (by rw [hq]; decide) (Ev.some rfl)))), Ev.step (fun _ => impl_MajorityTier.l0.eq_2 ..) (Ev.neg (by omega) (Ev.bind (IsTier_ s hsz) (Ev.neg (by rw [hq]; decide) (Ev.some rfl)))), fun h => (nomatch h), fun x hx => (nomatch hx)⟩
  | succ d ih =>
    intro a s last hd ha hs hz hi
    have hw := wrap_step (x := a) (by omega) (by omega)
    have m1 := agMajor_ T hT ht a
    have m2 := majority_ T hT ht a
    have m3 := maj_size T hT a
    generalize majB (glS T a) = g at m1 m2 m3
    by_cases he : g.toList = []
    · obtain ⟨r, hr, h1, h2, h3⟩ := ih (a + 1) s g (by omega) (by omega) (by omega) hz ⟨fun _ => he, fun h => by
        have := hi.2 h
        exact ⟨by omega, this.2.1, fun hn => absurd he hn, fun h => by omega⟩⟩
      rw [← hw] at h1 h2
      exact ⟨r, hr, Ev.step (fun _ => spec_MajorityTier.l0.eq_2 ..) (Ev.pos (by omega) (Ev.bind m1 (Ev.pos he h1))), Ev.step (fun _ => impl_MajorityTier.l0.eq_2 ..) (Ev.pos (by omega) (Ev.have m2 (Ev.pos he h2))), h3⟩
    · by_cases hl : g.toList = last.toList
      · have hln : last.toList ≠ [] := fun h => he (hl.trans h)
        have hpos : 0 < s.length := Nat.pos_of_ne_zero (fun h => hln (hi.1 h))
        obtain ⟨q1, q2, q3, q4⟩ := hi.2 hpos
        obtain ⟨e1, e2⟩ := q3 hln
        have hp := wrap_pred (i := s.length) hpos (by omega)
        have hn : ((s.length - 1 : Nat) : Int).toNat = s.length - 1 := rfl
        have hmem := hz _ (rd_mem s (s.length - 1) (by omega))
        generalize hL : rd_T58 s ((s.length - 1 : Nat) : Int) = L at q1 q2 q3 q4 e1 e2 hmem
        have hrd := rd_setN s (s.length - 1) ⟨L.f0, a + 1, L.f2⟩ (by omega)
        obtain ⟨r, hr, h1, h2, h3⟩ := ih (a + 1) (s.set (s.length - 1) ⟨L.f0, a + 1, L.f2⟩) g (by omega) (by omega) (by rw [List.length_set]; omega) (mem_set_size hz hmem) ⟨fun h => by rw [List.length_set] at h; omega, fun _ => by
          rw [List.length_set, hrd]
          exact ⟨Int.le_refl _, q2, fun _ => ⟨rfl, e2.trans hl.symm⟩, fun _ => hl.trans e2.symm⟩⟩
        refine ⟨r, hr, Ev.step (fun _ => spec_MajorityTier.l0.eq_2 ..) (Ev.pos (by omega) (Ev.bind m1 (Ev.neg he (Ev.pos hl ?_)))), Ev.step (fun _ => impl_MajorityTier.l0.eq_2 ..) (Ev.pos (by omega) (Ev.have m2 (Ev.neg he ?_))), h3⟩
        · rw [hp, hn, hw, hL]
          exact Ev.pos (by omega) (Ev.pos (by omega) h1)
        · rw [hp, hn, hL, e1, hw]
          exact Ev.pos (by omega) (Ev.pos (by omega) (Ev.pos (by omega) (Ev.pos rfl (Ev.pos (e2.trans hl.symm) h2))))
      · obtain ⟨r, hr, h1, h2, h3⟩ := ih (a + 1) (s ++ [⟨a, a + 1, g⟩]) g (by omega) (by omega) (by simp; omega) (fun x hx => by
          rcases List.mem_append.1 hx with hx | hx
          · exact hz x hx
          · obtain rfl := List.mem_singleton.1 hx; exact m3) ⟨fun h => by simp at h, fun _ => by
          rw [rd_end]
          exact ⟨Int.le_refl _, he, fun _ => ⟨rfl, rfl⟩, fun _ => rfl⟩⟩
        refine ⟨r, hr, Ev.step (fun _ => spec_MajorityTier.l0.eq_2 ..) (Ev.pos (by omega) (Ev.bind m1 (Ev.neg he (Ev.neg hl (Ev.pos (by omega) (by rw [hw]; exact h1)))))), Ev.step (fun _ => impl_MajorityTier.l0.eq_2 ..) (Ev.pos (by omega) (Ev.have m2 (Ev.neg he ?_))), h3⟩
        rw [hw]
        by_cases hpos : 0 < s.length
        · have hp := wrap_pred (i := s.length) hpos (by omega)
          obtain ⟨q1, q2, q3, q4⟩ := hi.2 hpos
          rw [hp]
          generalize hL : rd_T58 s ((s.length - 1 : Nat) : Int) = L at q1 q2 q3 q4
          refine Ev.pos (by omega) (Ev.pos (by omega) (Ev.pos (by omega) (Ev.ite (fun e1 => ?_) (fun _ => Ev.pos (by omega) h2))))
          exact Ev.neg (fun e2 => hl (e2.symm.trans (q4 e1).symm)) (Ev.pos (by omega) h2)
        · have : s.length = 0 := by omega
          rw [this]
          exact Ev.neg (by unfold wrap64; omega) (Ev.pos (by omega) h2)
theorem Major_both (T : List (List NI)) (hT : SizedSS T) (a b : Int) : ∃ r : List NI × Bool, r.1.length ≤ 200 ∧ Ev (fun k => spec_MajorityTier.f k T a b) r ∧ Ev (fun k => impl_MajorityTier.f k T a b) r ∧ (r.2 = true → tierB r.1 = true ∧ tiersB T = true ∧ windowB a b = true) ∧ (∀ x, x ∈ r.1 → x.f2.size ≤ 140737488351232) := by
  unfold spec_MajorityTier.f impl_MajorityTier.f
  cases h1 : tiersB T with
  | false => exact ⟨([], false), Nat.zero_le _, Ev.bind (Ev.eq (agTiers_ T hT) h1) (Ev.neg (by decide) (Ev.step (fun _ => spec_MajorityTier.j0.eq_2 ..) (Ev.pos rfl (Ev.some rfl)))), Ev.bind (Ev.eq (areTiers_ T hT) h1) (Ev.neg (by decide) (Ev.step (fun _ => impl_MajorityTier.j0.eq_2 ..) (Ev.pos rfl (Ev.some rfl)))), fun h => (nomatch h), fun x hx => (nomatch hx)⟩
  | true =>
    cases h2 : windowB a b with
    | false => exact ⟨([], false), Nat.zero_le _, Ev.bind (Ev.eq (agTiers_ T hT) h1) (Ev.pos rfl (Ev.have ((agWindow_ a b).trans (congrArg some h2)) (Ev.step (fun _ => spec_MajorityTier.j0.eq_2 ..) (Ev.pos rfl (Ev.some rfl))))), Ev.bind (Ev.eq (areTiers_ T hT) h1) (Ev.pos rfl (Ev.have ((isWindow_ a b).trans (congrArg some h2)) (Ev.step (fun _ => impl_MajorityTier.j0.eq_2 ..) (Ev.pos rfl (Ev.some rfl))))), fun h => (nomatch h), fun x hx => (nomatch hx)⟩
    | true =>
      have hw := windowB_in h2
      obtain ⟨r, hr, g1, g2, g3, g4⟩ := loops T hT h1 b (by omega) (b - a).toNat a [] ⟨#[]⟩ (by omega) (by omega) (by simp; omega) (fun x hx => (nomatch hx)) ⟨fun _ => by rw [ByteArray.toList_eq], fun h => absurd h (by simp)⟩
      exact ⟨r, hr, Ev.bind (Ev.eq (agTiers_ T hT) h1) (Ev.pos rfl (Ev.have ((agWindow_ a b).trans (congrArg some h2)) (Ev.step (fun _ => spec_MajorityTier.j0.eq_2 ..) (Ev.neg (by decide) g1)))), Ev.bind (Ev.eq (areTiers_ T hT) h1) (Ev.pos rfl (Ev.have ((isWindow_ a b).trans (congrArg some h2)) (Ev.step (fun _ => impl_MajorityTier.j0.eq_2 ..) (Ev.neg (by decide) g2)))), fun h => ⟨g3 h, rfl, rfl⟩, g4⟩
end Go.Proofs.Ytgapcmmhbegdeaa.MMajor
end
section
/- The law's marks as texts: what markText comes to (that it comes to some text, and always to the same). -/
namespace Go.Proofs.Ytgapcmmhbegdeaa.MText
open Go.RowKit Go.Proofs.Ytgapcmmhbegdeaa.G Go.Proofs.YtgapcmmhbegdeaaW.PrintWords Go.Proofs.YtgapcmmhbegdeaaW.PrintLast Go.Proofs.Ytgapcmmhbegdeaa.MPure

theorem one_size (x : Int) : (strOfNums [x]).size = 1 := rfl
theorem markText_loop : ∀ d : Nat, d ≤ 40 → ∀ (a : Int) (s : ByteArray), 0 ≤ a → a < 10 ^ d → a ≤ 4611686018427387904 → s.size + d ≤ 100 → ∃ t, Ev (fun k => laws_markText.l0 k a s) t := by
  intro d
  induction d with
  | zero =>
    intro _ a s h0 h1 _ hs
    refine ⟨_, Ev.step (fun _ => laws_markText.l0.eq_2 ..) (Ev.neg (by simp at h1; omega) (Ev.pos (by omega) (Ev.some rfl)))⟩
  | succ d ih =>
    intro hd a s h0 h1 hb hs
    by_cases hp : a > 0
    · have e : wrap64 (Int.tdiv a 10) = a / 10 := by
        rw [Int.tdiv_eq_ediv_of_nonneg h0, wrap_in (by omega) (by omega)]
      have hlt : a / 10 < 10 ^ d := by
        rw [Int.pow_succ] at h1
        omega
      obtain ⟨t, ht⟩ := ih (by omega) (a / 10) (strOfNums [wrap64 (48 + Int.tmod a 10) % 256] ++ s) (by omega) hlt (by omega) (by rw [ByteArray.size_append, one_size]; omega)
      refine ⟨t, Ev.step (fun _ => laws_markText.l0.eq_2 ..) (Ev.pos hp (Ev.have rfl (Ev.pos (by rw [one_size]; omega) ?_)))⟩
      rw [e]
      exact ht
    · exact ⟨_, Ev.step (fun _ => laws_markText.l0.eq_2 ..) (Ev.neg hp (Ev.pos (by omega) (Ev.some rfl)))⟩
theorem markText_any (a : Int) (h0 : 0 ≤ a) (h1 : a ≤ 4611686018427387904) : ∃ t, Ev (fun k => laws_markText.f k a) t := by
  unfold laws_markText.f
  by_cases h : a ≤ 0
  · exact ⟨_, Ev.pos h (Ev.some rfl)⟩
  · obtain ⟨t, ht⟩ := markText_loop 19 (by omega) a ⟨#[]⟩ h0 (by have : (10 : Int) ^ 19 = 10000000000000000000 := by decide
                                                                 omega) h1 (by decide)
    exact ⟨t, Ev.neg h ht⟩
/-- The text of a mark. -/
noncomputable def mt (a : Int) : ByteArray := if h : 0 ≤ a ∧ a ≤ 4611686018427387904 then Classical.choose (markText_any a h.1 h.2) else ⟨#[]⟩
theorem markText_ (a : Int) (h0 : 0 ≤ a) (h1 : a ≤ 4611686018427387904) : Ev (fun k => laws_markText.f k a) (mt a) := by
  unfold mt
  rw [dif_pos ⟨h0, h1⟩]
  exact Classical.choose_spec (markText_any a h0 h1)
end Go.Proofs.Ytgapcmmhbegdeaa.MText
end
section
/- The laws' marks on notes: what is written into a list of notes, and that it is found again. -/
namespace Go.Proofs.Ytgapcmmhbegdeaa.MMarkN
open Go.RowKit Go.Proofs.Ytgapcmmhbegdeaa.G Go.Proofs.YtgapcmmhbegdeaaW.PrintWords Go.Proofs.YtgapcmmhbegdeaaW.PrintLast Go.Proofs.Ytgapcmmhbegdeaa.MPure Go.Proofs.Ytgapcmmhbegdeaa.MNote Go.Proofs.Ytgapcmmhbegdeaa.MText

noncomputable def mkN (n : Int) (i : Nat) : NI := ⟨n + 3 * i, n + 3 * i + 1, mt (n + 3 * i + 2)⟩
noncomputable def marksN (n : Int) (m : Nat) : List NI := (List.range m).map (mkN n)
theorem marksN_length (n : Int) (m : Nat) : (marksN n m).length = m := by simp [marksN]
theorem marksN_get (n : Int) (m i : Nat) (h : i < m) : (marksN n m)[i]'(by rw [marksN_length]; exact h) = mkN n i := by simp [marksN]
theorem rd_set (xs : List NI) (i : Nat) (v : NI) (h : i < xs.length) : rd_T58 (xs.set i v) (i : Int) = v := by
  show (xs.set i v).getD i z58 = v
  rw [List.getD_eq_getElem?_getD, List.getElem?_set_self h]
  rfl
theorem markNoteS_ (l : List NI) (hl : l.length ≤ 140737488351232) (n : Int) (h0 : 0 ≤ n) (h1 : n ≤ 1152921504606846976) : Ev (fun k => laws_markNoteS.f k l n) (n + 3 * l.length, marksN n l.length) := by
  have key : ∀ d i : Nat, i + d = l.length → Ev (fun k => laws_markNoteS.l0 k ((marksN n l.length).take i ++ l.drop i) (n + 3 * i) (i : Int)) (n + 3 * l.length, marksN n l.length) := by
    intro d
    induction d with
    | zero =>
      intro i hi
      have hlen := fill_length (xs := marksN n l.length) (ys := l) (by rw [marksN_length]) i
      rw [marksN_length] at hlen
      refine Ev.step (fun _ => laws_markNoteS.l0.eq_2 ..) (Ev.neg (by omega) (Ev.some ?_))
      rw [fill_all (by rw [marksN_length]) (by rw [marksN_length]; omega)]
      obtain rfl : i = l.length := by omega
      rfl
    | succ d ih =>
      intro i hi
      have hlen := fill_length (xs := marksN n l.length) (ys := l) (by rw [marksN_length]) i
      rw [marksN_length] at hlen
      have h := ih (i + 1) (by omega)
      have e1 : wrap64 (n + 3 * (i : Int) + 1) = n + 3 * i + 1 := wrap_in (by omega) (by omega)
      have e2 : wrap64 (n + 3 * (i : Int) + 1 + 1) = n + 3 * i + 2 := by rw [wrap_in (by omega) (by omega)]; omega
      have e3 : wrap64 (n + 3 * (i : Int) + 2 + 1) = n + 3 * ((i + 1 : Nat) : Int) := by rw [wrap_in (by omega) (by omega)]; omega
      refine Ev.step (fun _ => laws_markNoteS.l0.eq_2 ..) (Ev.pos (by omega) (Ev.pos (by omega) ?_))
      generalize hx : (marksN n l.length).take i ++ l.drop i = x at hlen ⊢
      have hix : i < x.length := by omega
      rw [e1, e2, e3, wrap_succ (by omega)]
      refine Ev.have rfl (Ev.have rfl (Ev.bind (markText_ _ (by omega) (by omega)) ?_))
      have ei : ((i : Int)).toNat = i := rfl
      rw [ei, rd_set _ i _ hix]
      simp only [List.set_set]
      rw [rd_set _ i _ hix, ← hx]
      have hs : ((marksN n l.length).take i ++ l.drop i).set i (mkN n i) = (marksN n l.length).take (i + 1) ++ l.drop (i + 1) := by
        rw [← marksN_get n l.length i (by omega)]
        exact set_fill (by rw [marksN_length]) (by rw [marksN_length]; omega)
      rw [← hs] at h
      exact h
  have h := key l.length 0 (by omega)
  unfold laws_markNoteS.f
  simpa using h
theorem heldNoteS_ (m : Nat) (hl : m ≤ 140737488351232) (n : Int) (h0 : 0 ≤ n) (h1 : n ≤ 1152921504606846976) : Ev (fun k => laws_heldNoteS.f k (marksN n m) n) (n + 3 * m) := by
  have key : ∀ d i : Nat, i + d = m → Ev (fun k => laws_heldNoteS.l0 k (marksN n m) (n + 3 * i) (i : Int)) (n + 3 * m) := by
    intro d
    induction d with
    | zero =>
      intro i hi
      obtain rfl : i = m := by omega
      exact Ev.step (fun _ => laws_heldNoteS.l0.eq_2 ..) (Ev.neg (by rw [marksN_length]; omega) (Ev.some rfl))
    | succ d ih =>
      intro i hi
      have h := ih (i + 1) (by omega)
      have e1 : wrap64 (n + 3 * (i : Int) + 1) = n + 3 * i + 1 := wrap_in (by omega) (by omega)
      have e2 : wrap64 (n + 3 * (i : Int) + 1 + 1) = n + 3 * i + 2 := by rw [wrap_in (by omega) (by omega)]; omega
      have e3 : wrap64 (n + 3 * (i : Int) + 2 + 1) = n + 3 * ((i + 1 : Nat) : Int) := by rw [wrap_in (by omega) (by omega)]; omega
      have er : rd_T58 (marksN n m) (i : Int) = mkN n i := by
        show (marksN n m).getD i z58 = _
        rw [List.getD_eq_getElem?_getD, List.getElem?_eq_getElem (by rw [marksN_length]; omega), marksN_get n m i (by omega)]
        rfl
      refine Ev.step (fun _ => laws_heldNoteS.l0.eq_2 ..) (Ev.pos (by rw [marksN_length]; omega) (Ev.pos (by omega) ?_))
      rw [e1, e2, e3, wrap_succ (by omega), er]
      exact Ev.pos rfl (Ev.pos rfl (Ev.bind (markText_ _ (by omega) (by omega)) (Ev.pos rfl h)))
  have h := key m 0 (by omega)
  unfold laws_heldNoteS.f
  simpa using h
end Go.Proofs.Ytgapcmmhbegdeaa.MMarkN
end
