/- Plain laws of the functions that the claim's functions call: what they compute, with no program in sight. No condition. -/
import Derived.Test.YtgapcmmhbegdeaaWAll
import Derived.Lib.Bytealg
import Derived.Test.YtgapcmmhbegdeaaG1
import Derived.Test.YtgapcmmhbegdeaaG7
import Derived.Test.YtgapcmmhbegdeaaG0
import Derived.Test.YtgapcmmhbegdeaaG3
import Derived.Test.YtgapcmmhbegdeaaG4
import Derived.Test.YtgapcmmhbegdeaaG6
import Derived.Test.YtgapcmmhbegdeaaG8
import Derived.Test.YtgapcmmhbegdeaaG32
import Derived.Test.YtgapcmmhbegdeaaG34
import Derived.Test.YtgapcmmhbegdeaaG2
import Derived.Test.YtgapcmmhbegdeaaG5
import Derived.Test.YtgapcmmhbegdeaaMBase
import Derived.Test.YtgapcmmhbegdeaaG10
import Derived.Test.YtgapcmmhbegdeaaG19
import Derived.Test.YtgapcmmhbegdeaaG20
import Derived.Test.YtgapcmmhbegdeaaG21
import Derived.Test.YtgapcmmhbegdeaaG22
import Derived.Test.YtgapcmmhbegdeaaG94
import Derived.Test.YtgapcmmhbegdeaaG13
import Derived.Test.YtgapcmmhbegdeaaG14
import Derived.Test.YtgapcmmhbegdeaaG15
import Derived.Test.YtgapcmmhbegdeaaG16
import Derived.Test.YtgapcmmhbegdeaaG17
import Derived.Test.YtgapcmmhbegdeaaG18
section
/- Plain lemmas on rounds, lists and numbers, for the laws' pure statements: no program in sight. -/
namespace Go.Proofs.Ytgapcmmhbegdeaa.MPure
open Go.RowKit Go.Proofs.YtgapcmmhbegdeaaW.PrintWords Go.Proofs.YtgapcmmhbegdeaaW.PrintLast

theorem Ev.pos {α : Type} {c : Prop} [Decidable c] {f g : Nat → Option α} {r : α} (h : c) (k : Ev f r) : Ev (fun n => if c then f n else g n) r := by
  simpa only [if_pos h] using k
theorem Ev.neg {α : Type} {c : Prop} [Decidable c] {f g : Nat → Option α} {r : α} (h : ¬ c) (k : Ev g r) : Ev (fun n => if c then f n else g n) r := by
  simpa only [if_neg h] using k
theorem Ev.some {α : Type} {a r : α} (h : a = r) : Ev (fun _ => Option.some a) r := h ▸ Ev.now a
theorem Ev.have {α β : Type} {a : Option α} {x : α} {f : Nat → α → Option β} {r : β} (h : a = .some x) (k : Ev (fun n => f n x) r) : Ev (fun n => a.bind (f n)) r := by
  subst h
  exact k
theorem Ev.ite {α : Type} {c : Prop} [Decidable c] {f g : Nat → Option α} {r : α} (h : c → Ev f r) (k : ¬ c → Ev g r) : Ev (fun n => if c then f n else g n) r := by
  by_cases hc : c
  · exact Ev.pos hc (h hc)
  · exact Ev.neg hc (k hc)
theorem Ev.eq {α : Type} {g : Nat → Option α} {a r : α} (k : Ev g a) (h : a = r) : Ev g r := h ▸ k
theorem wrap_in {n : Int} (h : -9223372036854775808 ≤ n) (h' : n ≤ 9223372036854775807) : wrap64 n = n := by unfold wrap64; omega
theorem wrap_succ {i : Nat} (h : i ≤ 9223372036854775806) : wrap64 ((i : Int) + 1) = ((i + 1 : Nat) : Int) := by unfold wrap64; omega
theorem wrap_pred {i : Nat} (h0 : 0 < i) (h : i ≤ 9223372036854775806) : wrap64 ((i : Int) - 1) = ((i - 1 : Nat) : Int) := by unfold wrap64; omega
/-- A loop that stops with 'false' at the first place at which p does not hold, and answers e behind the last one. -/
theorem loop_all {L : Nat → Int → Option Bool} (n : Nat) (p : Nat → Bool) (e : Bool) (hend : Ev (fun k => L k (n : Int)) e)
    (hyes : ∀ i : Nat, i < n → p i = true → ∀ r, Ev (fun k => L k ((i + 1 : Nat) : Int)) r → Ev (fun k => L k (i : Int)) r) (hno : ∀ i : Nat, i < n → p i = false → Ev (fun k => L k (i : Int)) false) :
    ∀ d i : Nat, i + d = n → Ev (fun k => L k (i : Int)) ((List.range' i d).all p && e)
  | 0, i, h => by
    have : i = n := by omega
    subst this
    simpa using hend
  | d + 1, i, h => by
    have hi : i < n := by omega
    cases hp : p i with
    | true =>
      have ih := loop_all n p e hend hyes hno d (i + 1) (by omega)
      have := hyes i hi hp _ ih
      simpa [List.range'_succ, hp] using this
    | false =>
      have := hno i hi hp
      simpa [List.range'_succ, hp] using this
/-- The same from its begin. -/
theorem loop_all0 {L : Nat → Int → Option Bool} (n : Nat) (p : Nat → Bool) (e : Bool) (hend : Ev (fun k => L k (n : Int)) e)
    (hyes : ∀ i : Nat, i < n → p i = true → ∀ r, Ev (fun k => L k ((i + 1 : Nat) : Int)) r → Ev (fun k => L k (i : Int)) r) (hno : ∀ i : Nat, i < n → p i = false → Ev (fun k => L k (i : Int)) false) :
    Ev (fun k => L k 0) ((List.range n).all p && e) := by
  have h := loop_all n p e hend hyes hno n 0 (by omega)
  rw [← List.range_eq_range'] at h
  exact h

theorem all_congr {n : Nat} {p q : Nat → Bool} (h : ∀ i, i < n → p i = q i) : (List.range n).all p = (List.range n).all q := by
  rw [Bool.eq_iff_iff]
  simp only [List.all_eq_true, List.mem_range]
  constructor
  · exact fun H i hi => by rw [← h i hi]; exact H i hi
  · exact fun H i hi => by rw [h i hi]; exact H i hi

end Go.Proofs.Ytgapcmmhbegdeaa.MPure
end
section
/- Words: what the printed functions on texts of some letters come to. -/
namespace Go.Proofs.Ytgapcmmhbegdeaa.MWord
open Go.RowKit Go.Proofs.Ytgapcmmhbegdeaa.G Go.Proofs.YtgapcmmhbegdeaaW.PrintWords Go.Proofs.YtgapcmmhbegdeaaW.PrintLast Go.Proofs.Ytgapcmmhbegdeaa.MPure

/-- 1 to 8 bytes, of each of which p holds. -/
def wordB (p : Int → Bool) (s : ByteArray) : Bool := (List.range s.size).all (fun i => p (bt s (i : Int))) && decide (1 ≤ (s.size : Int) ∧ (s.size : Int) ≤ 8)
def capB (c : Int) : Bool := decide (65 ≤ c ∧ c ≤ 90)
theorem l1In_ (a b c : Int) : spec_l1In.f a b c = some (decide (b ≤ a ∧ a ≤ c)) := by
  unfold spec_l1In.f
  by_cases h : a ≥ b
  · rw [if_pos h]; simp [show b ≤ a from h]
  · rw [if_neg h]; simp [show ¬ b ≤ a from h]
theorem within_ (a b c : Int) : impl_within.f a b c = some (decide (b ≤ a ∧ a ≤ c)) := by
  unfold impl_within.f
  by_cases h : a ≥ b
  · rw [if_pos h]; simp [show b ≤ a from h]
  · rw [if_neg h]; simp [show ¬ b ≤ a from h]

/-- Which bytes are among some letters. -/
def amongB (ls : ByteArray) (c : Int) : Bool := decide (0 ≤ Lib.indexByte ls.data.toList c.toNat.toUInt8)
theorem hasOnly_ (s ls : ByteArray) (hs : s.size ≤ 140737488351232) : Ev (fun k => impl_hasOnly.f k s ls) ((List.range s.size).all (fun i => amongB ls (bt s (i : Int)))) := by
  refine Ev.eq (loop_all0 (L := fun k i => impl_hasOnly.l0 k s ls (s.size : Int) i) s.size (fun i => amongB ls (bt s (i : Int))) true ?_ ?_ ?_) (Bool.and_true _)
  · refine Ev.step (f := fun _ => _) (fun k => ?_) (Ev.some rfl)
    simp only [impl_hasOnly.l0]
    rw [if_neg (by omega)]
  · intro i hi hp r hr
    refine Ev.step (f := fun k => impl_hasOnly.l0 k s ls (s.size : Int) ((i + 1 : Nat) : Int)) (fun k => ?_) hr
    simp only [amongB, decide_eq_true_eq] at hp
    simp only [impl_hasOnly.l0, strings_IndexByte.f, Option.bind_some]
    rw [if_pos (by omega), if_pos (by omega), if_pos (by omega), if_neg (by omega), wrap_succ (by omega)]
  · intro i hi hp
    refine Ev.step (f := fun k => some false) (fun k => ?_) (Ev.some rfl)
    simp only [amongB, decide_eq_false_iff_not] at hp
    simp only [impl_hasOnly.l0, strings_IndexByte.f, Option.bind_some]
    rw [if_pos (by omega), if_pos (by omega), if_pos (by omega), if_pos (by omega)]
theorem isWordOf_ (s ls : ByteArray) (hs : s.size ≤ 140737488351232) : Ev (fun k => impl_isWordOf.f k s ls) (wordB (amongB ls) s) := by
  unfold impl_isWordOf.f
  refine Ev.have (within_ _ _ _) (Ev.ite (fun h => ?_) (fun h => ?_))
  · refine Ev.bind (hasOnly_ s ls hs) (Ev.some ?_)
    simp only [wordB]
    rw [h, Bool.and_true]
  · refine Ev.some ?_
    simp only [wordB]
    rw [Bool.eq_false_iff.2 h, Bool.and_false]
/-- The capital letters, as the program has them. -/
theorem caps (c : Int) (h0 : 0 ≤ c) (h1 : c ≤ 255) : amongB (⟨#[65, 66, 67, 68, 69, 70, 71, 72, 73, 74, 75, 76, 77, 78, 79, 80, 81, 82, 83, 84, 85, 86, 87, 88, 89, 90]⟩ : ByteArray) c = capB c := by
  have key : ∀ n : Nat, n < 256 → amongB (⟨#[65, 66, 67, 68, 69, 70, 71, 72, 73, 74, 75, 76, 77, 78, 79, 80, 81, 82, 83, 84, 85, 86, 87, 88, 89, 90]⟩ : ByteArray) (n : Int) = capB (n : Int) := by decide +kernel
  obtain ⟨n, rfl⟩ := Int.eq_ofNat_of_zero_le h0
  exact key n (by omega)
theorem wordB_congr {p q : Int → Bool} (h : ∀ c, 0 ≤ c → c ≤ 255 → p c = q c) (s : ByteArray) : wordB p s = wordB q s := by
  unfold wordB
  rw [all_congr (fun i _ => h _ (bt_range s _).1 (bt_range s _).2)]
theorem isWord_ (s : ByteArray) (hs : s.size ≤ 140737488351232) : Ev (fun k => impl_isWordOf.f k s (⟨#[65, 66, 67, 68, 69, 70, 71, 72, 73, 74, 75, 76, 77, 78, 79, 80, 81, 82, 83, 84, 85, 86, 87, 88, 89, 90]⟩ : ByteArray)) (wordB capB s) :=
  Ev.eq (isWordOf_ s _ hs) (wordB_congr caps s)

end Go.Proofs.Ytgapcmmhbegdeaa.MWord
end
section
/- What the printed functions on notes and tiers come to, by numbers and lists alone: words, notes, tiers, the copies and the comparison that the exact laws use. -/
namespace Go.Proofs.Ytgapcmmhbegdeaa.MNote
open Go.RowKit Go.Proofs.Ytgapcmmhbegdeaa.G Go.Proofs.YtgapcmmhbegdeaaW.PrintWords Go.Proofs.YtgapcmmhbegdeaaW.PrintLast Go.Proofs.Ytgapcmmhbegdeaa.MPure Go.Proofs.Ytgapcmmhbegdeaa.MWord

theorem fsWord_ (s : ByteArray) (hs : s.size ≤ 140737488351232) : Ev (fun k => spec_fsWord.f k s) (wordB capB s) := by
  refine loop_all0 (L := fun k i => spec_fsWord.l0 k s i) s.size (fun i => capB (bt s (i : Int))) _ ?_ ?_ ?_
  · refine Ev.step (f := fun _ => _) (fun k => ?_) (Ev.some rfl)
    simp only [spec_fsWord.l0]
    rw [if_neg (by omega), l1In_]
    rfl
  · intro i hi hp r hr
    refine Ev.step (f := fun k => spec_fsWord.l0 k s ((i + 1 : Nat) : Int)) (fun k => ?_) hr
    simp only [capB, decide_eq_true_eq] at hp
    simp only [spec_fsWord.l0]
    rw [if_pos (by omega), if_pos (by omega), if_neg (by omega), if_neg (by omega), wrap_succ (by omega)]
  · intro i hi hp
    simp only [capB, decide_eq_false_iff_not] at hp
    by_cases h : bt s (i : Int) < 65
    · refine Ev.step (f := fun k => some false) (fun k => ?_) (Ev.some rfl)
      simp only [spec_fsWord.l0]
      rw [if_pos (by omega), if_pos (by omega), if_pos h]
    · refine Ev.step (f := fun k => some false) (fun k => ?_) (Ev.some rfl)
      simp only [spec_fsWord.l0]
      rw [if_pos (by omega), if_pos (by omega), if_neg h, if_pos (by omega)]

/-! ### notes -/
def frameB (n : Int) : Bool := decide (0 ≤ n ∧ n ≤ 99999)
def noteB (f t : Int) (g : ByteArray) : Bool := frameB f && frameB t && decide (f < t) && wordB capB g
theorem tiFrame_ (a : Int) : spec_tiFrame.f a = some (frameB a) := by
  unfold spec_tiFrame.f
  rw [l1In_]
  rfl
theorem isFrame_ (a : Int) : impl_isFrame.f a = some (frameB a) := by
  unfold impl_isFrame.f
  rw [within_]
  rfl
theorem tiNote_ (f t : Int) (g : ByteArray) (hg : g.size ≤ 140737488351232) : Ev (fun k => spec_tiNote.f k f t g) (noteB f t g) := by
  unfold spec_tiNote.f noteB
  refine Ev.have (tiFrame_ _) (Ev.ite (fun h => ?_) (fun h => Ev.some (by rw [Bool.eq_false_iff.2 h]; rfl)))
  refine Ev.have (tiFrame_ _) (Ev.ite (fun h2 => ?_) (fun h2 => Ev.some (by rw [Bool.eq_false_iff.2 h2]; simp)))
  refine Ev.ite (fun h3 => ?_) (fun h3 => Ev.some (by simp [h3]))
  exact Ev.bind (fsWord_ g hg) (Ev.some (by simp [h, h2, h3]))
theorem IsNote_ (f t : Int) (g : ByteArray) (hg : g.size ≤ 140737488351232) : Ev (fun k => impl_IsNote.f k f t g) (noteB f t g) := by
  unfold impl_IsNote.f noteB
  refine Ev.have (isFrame_ _) (Ev.ite (fun h => ?_) (fun h => Ev.some (by rw [Bool.eq_false_iff.2 h]; rfl)))
  refine Ev.have (isFrame_ _) (Ev.ite (fun h2 => ?_) (fun h2 => Ev.some (by rw [Bool.eq_false_iff.2 h2]; simp)))
  refine Ev.ite (fun h3 => ?_) (fun h3 => Ev.some (by simp [h3]))
  exact Ev.bind (isWord_ g hg) (Ev.some (by simp [h, h2, h3]))
/-! ### tiers -/
abbrev NI := S58
abbrev NL := S127
def atN (l : List NI) (i : Nat) : NI := l.getD i z58
theorem atN_mem {l : List NI} {i : Nat} (h : i < l.length) : atN l i ∈ l := by
  unfold atN
  rw [List.getD_eq_getElem?_getD, List.getElem?_eq_getElem h]
  exact List.getElem_mem h
/-- What the notes' texts bear. -/
def Sized (l : List NI) : Prop := l.length ≤ 140737488351232 ∧ ∀ x, x ∈ l → x.f2.size ≤ 140737488351232
def tierP (l : List NI) (i : Nat) : Bool := noteB (atN l i).f0 (atN l i).f1 (atN l i).f2 && (decide (i = 0) || decide ((atN l (i - 1)).f1 ≤ (atN l i).f0))
def tierB (l : List NI) : Bool := (List.range l.length).all (tierP l) && decide ((l.length : Int) ≤ 40)

theorem tiGood_ (l : List NI) (hl : Sized l) : Ev (fun k => spec_tiGood.f k l) (tierB l) := by
  obtain ⟨hn, hs⟩ := hl
  refine loop_all0 (L := fun k i => spec_tiGood.l0 k l l (l.length : Int) i) l.length (tierP l) _ ?_ ?_ ?_
  · exact Ev.step (fun _ => spec_tiGood.l0.eq_2 ..) (Ev.neg (by omega) (Ev.some rfl))
  · intro i hi hp r hr
    simp only [tierP, Bool.and_eq_true] at hp
    refine Ev.step (fun _ => spec_tiGood.l0.eq_2 ..) (Ev.pos (by omega) (Ev.pos (by omega) (Ev.pos (by omega) (Ev.bind (tiNote_ _ _ _ (hs _ (atN_mem hi))) (Ev.pos hp.1 (Ev.ite (fun h0 => ?_) (fun h0 => ?_)))))))
    · rw [wrap_pred (by omega) (by omega)]
      refine Ev.pos (by omega) (Ev.pos (by omega) (Ev.neg ?_ ?_))
      · have := hp.2
        simp only [Bool.or_eq_true, decide_eq_true_eq] at this
        have h : (atN l (i - 1)).f1 ≤ (atN l i).f0 := by
          rcases this with h | h
          · omega
          · exact h
        exact Int.not_lt.2 h
      · rw [wrap_succ (by omega)]
        exact hr
    · rw [wrap_succ (by omega)]
      exact hr
  · intro i hi hp
    refine Ev.step (fun _ => spec_tiGood.l0.eq_2 ..) (Ev.pos (by omega) (Ev.pos (by omega) (Ev.pos (by omega) (Ev.bind (tiNote_ _ _ _ (hs _ (atN_mem hi))) (Ev.ite (fun h1 => ?_) (fun _ => Ev.some rfl))))))
    simp only [tierP, Bool.and_eq_false_iff, Bool.or_eq_false_iff, decide_eq_false_iff_not] at hp
    rcases hp with hp | ⟨hp, hq⟩
    · exact absurd (h1.symm.trans hp) (by decide)
    · refine Ev.pos (by omega) ?_
      rw [wrap_pred (by omega) (by omega)]
      exact Ev.pos (by omega) (Ev.pos (by omega) (Ev.pos (Int.not_le.1 hq) (Ev.some rfl)))
theorem IsTier_ (l : List NI) (hl : Sized l) : Ev (fun k => impl_IsTier.f k l) (tierB l) := by
  obtain ⟨hn, hs⟩ := hl
  refine loop_all0 (L := fun k i => impl_IsTier.l0 k l l (l.length : Int) i) l.length (tierP l) _ ?_ ?_ ?_
  · exact Ev.step (fun _ => impl_IsTier.l0.eq_2 ..) (Ev.neg (by omega) (Ev.some rfl))
  · intro i hi hp r hr
    simp only [tierP, Bool.and_eq_true] at hp
    refine Ev.step (fun _ => impl_IsTier.l0.eq_2 ..) (Ev.pos (by omega) (Ev.pos (by omega) (Ev.pos (by omega) (Ev.bind (IsNote_ _ _ _ (hs _ (atN_mem hi))) (Ev.pos hp.1 (Ev.ite (fun h0 => ?_) (fun h0 => ?_)))))))
    · rw [wrap_pred (by omega) (by omega)]
      refine Ev.pos (by omega) (Ev.pos (by omega) (Ev.neg ?_ ?_))
      · have := hp.2
        simp only [Bool.or_eq_true, decide_eq_true_eq] at this
        have h : (atN l (i - 1)).f1 ≤ (atN l i).f0 := by
          rcases this with h | h
          · omega
          · exact h
        exact Int.not_lt.2 h
      · rw [wrap_succ (by omega)]
        exact hr
    · rw [wrap_succ (by omega)]
      exact hr
  · intro i hi hp
    refine Ev.step (fun _ => impl_IsTier.l0.eq_2 ..) (Ev.pos (by omega) (Ev.pos (by omega) (Ev.pos (by omega) (Ev.bind (IsNote_ _ _ _ (hs _ (atN_mem hi))) (Ev.ite (fun h1 => ?_) (fun _ => Ev.some rfl))))))
    simp only [tierP, Bool.and_eq_false_iff, Bool.or_eq_false_iff, decide_eq_false_iff_not] at hp
    rcases hp with hp | ⟨hp, hq⟩
    · exact absurd (h1.symm.trans hp) (by decide)
    · refine Ev.pos (by omega) ?_
      rw [wrap_pred (by omega) (by omega)]
      exact Ev.pos (by omega) (Ev.pos (by omega) (Ev.pos (Int.not_le.1 hq) (Ev.some rfl)))

/-! ### what the exact laws do with notes: sizes, copies, comparison -/
def conv (x : NL) : NI := ⟨x.f0, x.f1, x.f2⟩
/-- What a law's notes bear, as the row tells it. -/
def Given (l : List NL) : Prop := (∀ a_, a_ ∈ l → gT127 a_) ∧ l.length * 32 ≤ 140737488351232
theorem Given.sized {l : List NL} (h : Given l) : Sized (l.map conv) := by
  obtain ⟨h1, h2⟩ := h
  refine ⟨by rw [List.length_map]; omega, fun x hx => ?_⟩
  obtain ⟨y, hy, rfl⟩ := List.mem_map.1 hx
  exact (h1 y hy).2.2
end Go.Proofs.Ytgapcmmhbegdeaa.MNote
end
section
/- Ranges of frames. -/
namespace Go.Proofs.Ytgapcmmhbegdeaa.MCut
open Go.RowKit Go.Proofs.Ytgapcmmhbegdeaa.G Go.Proofs.YtgapcmmhbegdeaaW.PrintWords Go.Proofs.YtgapcmmhbegdeaaW.PrintLast Go.Proofs.Ytgapcmmhbegdeaa.MPure Go.Proofs.Ytgapcmmhbegdeaa.MWord Go.Proofs.Ytgapcmmhbegdeaa.MNote

def rangeB (a b : Int) : Bool := frameB a && frameB b && decide (a < b)
theorem isRange_ (a b : Int) : impl_isRange.f a b = some (rangeB a b) := by
  unfold impl_isRange.f rangeB
  rw [isFrame_, isFrame_]
  simp only [Option.bind_some]
  cases frameB a <;> cases frameB b <;> simp
end Go.Proofs.Ytgapcmmhbegdeaa.MCut
end
section
/- Windows of frames: what the reference and the program take for one. -/
namespace Go.Proofs.Ytgapcmmhbegdeaa.MWin
open Go.RowKit Go.Proofs.Ytgapcmmhbegdeaa.G Go.Proofs.YtgapcmmhbegdeaaW.PrintWords Go.Proofs.YtgapcmmhbegdeaaW.PrintLast Go.Proofs.Ytgapcmmhbegdeaa.MPure Go.Proofs.Ytgapcmmhbegdeaa.MWord Go.Proofs.Ytgapcmmhbegdeaa.MNote Go.Proofs.Ytgapcmmhbegdeaa.MCut

def windowB (a b : Int) : Bool := rangeB a b && decide (b - a ≤ 200)
theorem windowB_in {a b : Int} (h : windowB a b = true) : 0 ≤ a ∧ a < b ∧ b ≤ 99999 ∧ b - a ≤ 200 := by
  simp only [windowB, rangeB, frameB, Bool.and_eq_true, decide_eq_true_eq] at h
  omega
theorem isWindow_ (a b : Int) : impl_isWindow.f a b = some (windowB a b) := by
  unfold impl_isWindow.f windowB
  rw [isRange_]
  simp only [Option.bind_some]
  cases h : rangeB a b with
  | false => simp
  | true =>
    simp only [rangeB, frameB, Bool.and_eq_true, decide_eq_true_eq] at h
    rw [if_pos rfl, wrap_in (by omega) (by omega)]
    simp
theorem agFrame_ (a : Int) : spec_agFrame.f a = some (frameB a) := by
  unfold spec_agFrame.f
  rw [l1In_]
  rfl
theorem agWindow_ (a b : Int) : spec_agWindow.f a b = some (windowB a b) := by
  unfold spec_agWindow.f windowB rangeB
  rw [agFrame_, agFrame_]
  simp only [Option.bind_some]
  cases h1 : frameB a with
  | false => simp
  | true =>
    rw [if_pos rfl]
    cases h2 : frameB b with
    | false => simp
    | true =>
      simp only [frameB, decide_eq_true_eq] at h1 h2
      rw [if_pos rfl, wrap_in (by omega) (by omega), l1In_]
      simp only [Option.bind_some, Bool.true_and]
      congr 1
      rw [Bool.eq_iff_iff]
      simp only [Bool.and_eq_true, decide_eq_true_eq]
      omega
theorem agAsked_ (x y : List NI) (hx : Sized x) (hy : Sized y) (a b : Int) : Ev (fun k => spec_agAsked.f k x y a b) (tierB x && tierB y && windowB a b) := by
  unfold spec_agAsked.f
  refine Ev.bind (tiGood_ x hx) (Ev.ite (fun h1 => ?_) (fun h1 => Ev.some (by simp [h1])))
  refine Ev.bind (tiGood_ y hy) (Ev.ite (fun h2 => ?_) (fun h2 => Ev.some (by simp [h2])))
  exact Ev.have (agWindow_ a b) (Ev.some (by simp [h1, h2]))
theorem wrap_step {x : Int} (h0 : 0 ≤ x) (h1 : x ≤ 99999) : wrap64 (x + 1) = x + 1 := wrap_in (by omega) (by omega)
end Go.Proofs.Ytgapcmmhbegdeaa.MWin
end
section
/- Loops that search, by lists alone. -/
namespace Go.Proofs.Ytgapcmmhbegdeaa.MAt0
open Go.RowKit Go.Proofs.YtgapcmmhbegdeaaW.PrintWords Go.Proofs.YtgapcmmhbegdeaaW.PrintLast Go.Proofs.Ytgapcmmhbegdeaa.MPure

theorem idxOf_congr {α : Type} {p q : α → Bool} {l : List α} (h : ∀ x, x ∈ l → p x = q x) : idxOf p l = idxOf q l := by
  have : l.findIdx? p = l.findIdx? q := by
    induction l with
    | nil => rfl
    | cons x l ih =>
      rw [List.findIdx?_cons, List.findIdx?_cons, h x List.mem_cons_self, ih (fun y hy => h y (List.mem_cons_of_mem _ hy))]
  unfold idxOf
  rw [this]
theorem idxOf_range {α : Type} (p : α → Bool) (l : List α) : -1 ≤ idxOf p l ∧ idxOf p l < (l.length : Int) := by
  unfold idxOf
  cases h : l.findIdx? p with
  | none => exact ⟨by decide, by show (-1 : Int) < _; omega⟩
  | some i =>
    have := (List.findIdx?_eq_some_iff_getElem.1 h).1
    exact ⟨by show (-1 : Int) ≤ (i : Int); omega, by show (i : Int) < _; omega⟩

end Go.Proofs.Ytgapcmmhbegdeaa.MAt0
end
section
/- The gloss at a frame: the reference's search and the program's, by lists alone. -/
namespace Go.Proofs.Ytgapcmmhbegdeaa.MGloss
open Go.RowKit Go.Proofs.Ytgapcmmhbegdeaa.G Go.Proofs.YtgapcmmhbegdeaaW.PrintWords Go.Proofs.YtgapcmmhbegdeaaW.PrintLast Go.Proofs.Ytgapcmmhbegdeaa.MPure Go.Proofs.Ytgapcmmhbegdeaa.MWord Go.Proofs.Ytgapcmmhbegdeaa.MNote Go.Proofs.Ytgapcmmhbegdeaa.MAt0

/-- Whether a frame lies in a note. -/
def inB (a : Int) (x : NI) : Bool := decide (x.f0 ≤ a ∧ a < x.f1)
/-- The gloss at a frame, or the empty text. -/
def glossB (l : List NI) (a : Int) : ByteArray := if 0 ≤ idxOf (inB a) l then (atN l (idxOf (inB a) l).toNat).f2 else ⟨#[]⟩
theorem agGloss_ (l : List NI) (hl : Sized l) (a : Int) : Ev (fun k => spec_agGloss.f k l a) (glossB l a) := by
  obtain ⟨hn, _⟩ := hl
  have key : ∀ d i : Nat, i + d = l.length → (∀ j, j < i → inB a (atN l j) = false) → Ev (fun k => spec_agGloss.l0 k a l (l.length : Int) (i : Int)) (glossB l a) := by
    intro d
    induction d with
    | zero =>
      intro i hi hb
      obtain rfl : i = l.length := by omega
      refine Ev.step (fun _ => spec_agGloss.l0.eq_2 ..) (Ev.neg (by omega) (Ev.some ?_))
      unfold glossB
      rw [idxOf_miss z58 hb, if_neg (by decide)]
    | succ d ih =>
      intro i hi hb
      cases hp : inB a (atN l i) with
      | true =>
        have hq := hp
        simp only [inB, decide_eq_true_eq] at hq
        refine Ev.step (fun _ => spec_agGloss.l0.eq_2 ..) (Ev.pos (by omega) (Ev.pos (by omega) (Ev.pos (by omega) (Ev.pos hq.1 (Ev.pos hq.2 (Ev.some ?_))))))
        unfold glossB
        rw [idxOf_hit z58 (i := i) (by omega) hp hb, if_pos (by omega)]
        rfl
      | false =>
        have hq := hp
        simp only [inB, decide_eq_false_iff_not] at hq
        have hr := ih (i + 1) (by omega) (fun j hj => by
          by_cases e : j = i
          · subst e; exact hp
          · exact hb j (by omega))
        rw [← wrap_succ (by omega)] at hr
        refine Ev.step (fun _ => spec_agGloss.l0.eq_2 ..) (Ev.pos (by omega) (Ev.pos (by omega) (Ev.pos (by omega) (Ev.ite (fun h1 => Ev.neg (fun h2 => hq ⟨h1, h2⟩) hr) (fun _ => hr)))))
  exact key l.length 0 (by omega) (fun j hj => absurd hj (Nat.not_lt_zero _))
theorem tier_bounds {l : List NI} (h : tierB l = true) {x : NI} (hx : x ∈ l) : 0 ≤ x.f0 ∧ x.f0 < x.f1 ∧ x.f1 ≤ 99999 := by
  simp only [tierB, Bool.and_eq_true, List.all_eq_true, List.mem_range] at h
  obtain ⟨i, hi, rfl⟩ := List.mem_iff_getElem.1 hx
  have := h.1 i hi
  have e : atN l i = l[i] := by
    unfold atN
    rw [List.getD_eq_getElem?_getD, List.getElem?_eq_getElem hi]
    rfl
  simp only [tierP, noteB, frameB, Bool.and_eq_true, decide_eq_true_eq, e] at this
  omega
/-- In a tier both searches stop at the same notes. -/
theorem noteAt_in {l : List NI} (h : tierB l = true) (a : Int) : idxOf (impl_noteAt.p a) l = idxOf (inB a) l := by
  refine idxOf_congr (fun x hx => ?_)
  have := tier_bounds h hx
  unfold impl_noteAt.p inB
  rw [wrap_in (by omega) (by omega)]
  rw [decide_eq_decide]
  omega
theorem glossAt_ (l : List NI) (h : tierB l = true) (a : Int) : impl_glossAt.f l a = some (glossB l a) := by
  have e := noteAt_in h a
  have hr := idxOf_range (inB a) l
  unfold impl_glossAt.f impl_noteAt.f glossB
  rw [e]
  simp only [Option.bind_some]
  by_cases h0 : idxOf (inB a) l < 0
  · rw [if_pos h0, if_neg (by omega)]
  · rw [if_neg h0, if_pos (by omega), if_pos (by omega), if_pos (by omega)]
    rfl
end Go.Proofs.Ytgapcmmhbegdeaa.MGloss
end
section
/- The glosses at the frames of a window, as a list, and the program's loop that makes it; no condition. -/
namespace Go.Proofs.Ytgapcmmhbegdeaa.MGl
open Go.RowKit Go.Proofs.Ytgapcmmhbegdeaa.G Go.Proofs.YtgapcmmhbegdeaaW.PrintWords Go.Proofs.YtgapcmmhbegdeaaW.PrintLast Go.Proofs.Ytgapcmmhbegdeaa.MPure Go.Proofs.Ytgapcmmhbegdeaa.MWord Go.Proofs.Ytgapcmmhbegdeaa.MNote Go.Proofs.Ytgapcmmhbegdeaa.MCut Go.Proofs.Ytgapcmmhbegdeaa.MWin Go.Proofs.Ytgapcmmhbegdeaa.MAt0 Go.Proofs.Ytgapcmmhbegdeaa.MGloss

/-- The glosses at d frames from a on. -/
def gl (x : List NI) : Nat → Int → List ByteArray
  | 0, _ => []
  | d + 1, a => glossB x a :: gl x d (a + 1)
theorem gl_length (x : List NI) : ∀ (d : Nat) (a : Int), (gl x d a).length = d
  | 0, _ => rfl
  | d + 1, a => by show (gl x d (a + 1)).length + 1 = d + 1; rw [gl_length x d]
theorem gl_sizes (x : List NI) (hx : Sized x) : ∀ (d : Nat) (a : Int), (gl x d a).all (fun s => decide (s.size ≤ 140737488355328)) = true
  | 0, _ => rfl
  | d + 1, a => by
    show (decide ((glossB x a).size ≤ 140737488355328) && (gl x d (a + 1)).all _) = true
    rw [gl_sizes x hx d, Bool.and_true, decide_eq_true_eq]
    unfold glossB
    split
    · rename_i h
      have hr := idxOf_range (inB a) x
      have hm : atN x (idxOf (inB a) x).toNat ∈ x := atN_mem (by omega)
      have := hx.2 _ hm
      omega
    · exact Nat.zero_le _
theorem frame_loop (x : List NI) (tx : tierB x = true) (b : Int) (hb : b ≤ 99999) : ∀ (d : Nat) (a : Int) (s : List ByteArray), a + d = b → 0 ≤ a → s.length + d ≤ 1000 → Ev (fun k => impl_frameGlosses.l0 k x b s a) (s ++ gl x d a) := by
  intro d
  induction d with
  | zero =>
    intro a s hd ha hs
    exact Ev.step (fun _ => impl_frameGlosses.l0.eq_2 ..) (Ev.neg (by omega) (Ev.some (by simp [gl])))
  | succ d ih =>
    intro a s hd ha hs
    have hw := wrap_step (x := a) (by omega) (by omega)
    have h2 := ih (a + 1) (s ++ [glossB x a]) (by omega) (by omega) (by simp; omega)
    rw [List.append_assoc, List.singleton_append] at h2
    refine Ev.step (fun _ => impl_frameGlosses.l0.eq_2 ..) (Ev.pos (by omega) (Ev.have (glossAt_ x tx a) (Ev.pos (by omega) ?_)))
    rw [hw]
    exact h2
end Go.Proofs.Ytgapcmmhbegdeaa.MGl
end
section
/- How often two tiers have the same gloss. No condition. -/
namespace Go.Proofs.Ytgapcmmhbegdeaa.MSame
open Go.RowKit Go.Proofs.Ytgapcmmhbegdeaa.G Go.Proofs.YtgapcmmhbegdeaaW.PrintWords Go.Proofs.YtgapcmmhbegdeaaW.PrintLast Go.Proofs.Ytgapcmmhbegdeaa.MPure Go.Proofs.Ytgapcmmhbegdeaa.MWord Go.Proofs.Ytgapcmmhbegdeaa.MNote Go.Proofs.Ytgapcmmhbegdeaa.MCut Go.Proofs.Ytgapcmmhbegdeaa.MWin Go.Proofs.Ytgapcmmhbegdeaa.MAt0 Go.Proofs.Ytgapcmmhbegdeaa.MGloss

/-- The rounds at which both have the same gloss. -/
def sameN (x y : List NI) : Nat → Int → Int
  | 0, _ => 0
  | d + 1, a => (if (glossB x a).toList = (glossB y a).toList then 1 else 0) + sameN x y d (a + 1)
theorem sameN_bounds (x y : List NI) : ∀ (d : Nat) (a : Int), 0 ≤ sameN x y d a ∧ sameN x y d a ≤ (d : Int)
  | 0, _ => by simp [sameN]
  | d + 1, a => by
    have h := sameN_bounds x y d (a + 1)
    have e : sameN x y (d + 1) a = (if (glossB x a).toList = (glossB y a).toList then 1 else 0) + sameN x y d (a + 1) := rfl
    rw [e]
    split <;> omega
theorem same_loops (x y : List NI) (hx : Sized x) (hy : Sized y) (tx : tierB x = true) (ty : tierB y = true) (b : Int) (hb : b ≤ 99999) : ∀ (d : Nat) (a s : Int), a + d = b → 0 ≤ a → 0 ≤ s → s + d ≤ 1000 → Ev (fun k => spec_agSame.l0 k x y b s a) (s + sameN x y d a) ∧ Ev (fun k => impl_sameFrames.l0 k x y b s a) (s + sameN x y d a) := by
  intro d
  induction d with
  | zero =>
    intro a s hd ha h0 h1
    exact ⟨Ev.step (fun _ => spec_agSame.l0.eq_2 ..) (Ev.neg (by omega) (Ev.some (by simp [sameN]))), Ev.step (fun _ => impl_sameFrames.l0.eq_2 ..) (Ev.neg (by omega) (Ev.some (by simp [sameN])))⟩
  | succ d ih =>
    intro a s hd ha h0 h1
    have hw := wrap_step (x := a) (by omega) (by omega)
    have hs : wrap64 (s + 1) = s + 1 := wrap_in (by omega) (by omega)
    have es : sameN x y (d + 1) a = (if (glossB x a).toList = (glossB y a).toList then 1 else 0) + sameN x y d (a + 1) := rfl
    by_cases he : (glossB x a).toList = (glossB y a).toList
    · obtain ⟨g1, g2⟩ := ih (a + 1) (s + 1) (by omega) (by omega) (by omega) (by omega)
      rw [es, if_pos he, ← Int.add_assoc]
      refine ⟨Ev.step (fun _ => spec_agSame.l0.eq_2 ..) (Ev.pos (by omega) (Ev.bind (agGloss_ x hx a) (Ev.bind (agGloss_ y hy a) (Ev.pos he ?_)))), Ev.step (fun _ => impl_sameFrames.l0.eq_2 ..) (Ev.pos (by omega) (Ev.have (glossAt_ x tx a) (Ev.have (glossAt_ y ty a) (Ev.pos he ?_))))⟩
      · rw [hw, hs]; exact g1
      · rw [hw, hs]; exact g2
    · obtain ⟨g1, g2⟩ := ih (a + 1) s (by omega) (by omega) h0 (by omega)
      rw [es, if_neg he, Int.zero_add]
      refine ⟨Ev.step (fun _ => spec_agSame.l0.eq_2 ..) (Ev.pos (by omega) (Ev.bind (agGloss_ x hx a) (Ev.bind (agGloss_ y hy a) (Ev.neg he ?_)))), Ev.step (fun _ => impl_sameFrames.l0.eq_2 ..) (Ev.pos (by omega) (Ev.have (glossAt_ x tx a) (Ev.have (glossAt_ y ty a) (Ev.neg he ?_))))⟩
      · rw [hw]; exact g1
      · rw [hw]; exact g2
theorem Same_ (x y : List NI) (hx : Sized x) (hy : Sized y) (tx : tierB x = true) (ty : tierB y = true) (a b : Int) (h : windowB a b = true) : Ev (fun k => spec_agSame.f k x y a b) (sameN x y (b - a).toNat a) ∧ Ev (fun k => impl_sameFrames.f k x y a b) (sameN x y (b - a).toNat a) := by
  have hw := windowB_in h
  obtain ⟨s1, s2⟩ := same_loops x y hx hy tx ty b (by omega) (b - a).toNat a 0 (by omega) (by omega) (by omega) (by omega)
  rw [Int.zero_add] at s1 s2
  exact ⟨s1, s2⟩
end Go.Proofs.Ytgapcmmhbegdeaa.MSame
end
section
/- What AgreementBeyond answers, of the reference and of the program, and what is known of it. No condition. -/
namespace Go.Proofs.Ytgapcmmhbegdeaa.MAgrB
open Go.RowKit Go.Proofs.Ytgapcmmhbegdeaa.G Go.Proofs.YtgapcmmhbegdeaaW.PrintWords Go.Proofs.YtgapcmmhbegdeaaW.PrintLast Go.Proofs.Ytgapcmmhbegdeaa.MPure Go.Proofs.Ytgapcmmhbegdeaa.MWord Go.Proofs.Ytgapcmmhbegdeaa.MNote Go.Proofs.Ytgapcmmhbegdeaa.MCut Go.Proofs.Ytgapcmmhbegdeaa.MWin Go.Proofs.Ytgapcmmhbegdeaa.MAt0 Go.Proofs.Ytgapcmmhbegdeaa.MGloss Go.Proofs.Ytgapcmmhbegdeaa.MGl Go.Proofs.Ytgapcmmhbegdeaa.MSame
open Go.Proofs.Ytgapcmmhbegdeaa.MMap (cnt)

theorem cnt_cons (t : ByteArray) (l : List ByteArray) (s : ByteArray) : cnt (t :: l) s = (if t.toList = s.toList then 1 else 0) + cnt l s := by
  unfold cnt
  rw [List.filter_cons]
  by_cases h : t.toList = s.toList
  · rw [if_pos (by simp [h]), if_pos h, List.length_cons]; omega
  · rw [if_neg (by simp [h]), if_neg h]; omega
/-- For each text of the first list, how often it stands in the second one. -/
def pairs (gb : List ByteArray) : List ByteArray → Int
  | [] => 0
  | s :: ga => cnt gb s + pairs gb ga
theorem pairs_cons (t : ByteArray) (gb : List ByteArray) : ∀ ga : List ByteArray, pairs (t :: gb) ga = cnt ga t + pairs gb ga
  | [] => rfl
  | s :: ga => by
    have ih := pairs_cons t gb ga
    show cnt (t :: gb) s + pairs (t :: gb) ga = cnt (s :: ga) t + (cnt gb s + pairs gb ga)
    rw [cnt_cons, cnt_cons, ih]
    by_cases h : t.toList = s.toList
    · rw [if_pos h, if_pos h.symm]; omega
    · rw [if_neg h, if_neg (fun e => h e.symm)]; omega
/-- Both ways of counting. -/
theorem pairs_comm : ∀ (ga gb : List ByteArray), pairs gb ga = pairs ga gb
  | [], gb => by
    induction gb with
    | nil => rfl
    | cons t gb ih => rw [pairs_cons, ih]; rfl
  | s :: ga, gb => by rw [pairs_cons, ← pairs_comm ga gb]; rfl
theorem cnt_bounds (l : List ByteArray) (s : ByteArray) : 0 ≤ cnt l s ∧ cnt l s ≤ (l.length : Int) := MMap.cnt_le l s
theorem pairs_bounds (gb : List ByteArray) : ∀ ga : List ByteArray, 0 ≤ pairs gb ga ∧ pairs gb ga ≤ ((ga.length * gb.length : Nat) : Int)
  | [] => by simp [pairs]
  | s :: ga => by
    have h := pairs_bounds gb ga
    have h2 := cnt_bounds gb s
    rw [List.length_cons, Nat.succ_mul]
    show 0 ≤ cnt gb s + pairs gb ga ∧ cnt gb s + pairs gb ga ≤ _
    omega
theorem sum_ (ga : List ByteArray) : ∀ (gb : List ByteArray) (e : Int), 0 ≤ e → e + ((gb.length * ga.length : Nat) : Int) ≤ 1000000 → impl_AgreementBeyond.sum ga gb e = e + pairs ga gb
  | [], e, _, _ => by show e = e + 0; omega
  | t :: gb, e, h0, h1 => by
    have h2 := cnt_bounds ga t
    rw [List.length_cons, Nat.succ_mul] at h1
    show impl_AgreementBeyond.sum ga gb (wrap64 (e + cnt ga t)) = e + (cnt ga t + pairs ga gb)
    rw [wrap_in (by omega) (by omega), sum_ ga gb _ (by omega) (by omega)]
    omega
theorem wr {z : Int} (h0 : -3000000000 ≤ z) (h1 : z ≤ 3000000000) : wrap64 z = z := wrap_in (by omega) (by omega)
theorem up_ (m n : Nat) (hm : 0 < m) (hn : 0 < n) : (m + n - 1) / n = if m % n = 0 then m / n else m / n + 1 := by
  have hdm := Nat.div_add_mod m n
  have hlt := Nat.mod_lt m hn
  split
  · rename_i hz
    have e : m + n - 1 = n * (m / n) + (n - 1) := by omega
    rw [e, Nat.mul_add_div hn, Nat.div_eq_of_lt (show n - 1 < n by omega)]
    rfl
  · rename_i hz
    have hs : n * (m / n + 1) = n * (m / n) + n := Nat.mul_succ _ _
    have e : m + n - 1 = n * (m / n + 1) + (m % n - 1) := by omega
    rw [e, Nat.mul_add_div hn, Nat.div_eq_of_lt (show m % n - 1 < n by omega)]
/-- The quotient, rounded down. -/
def Fl (a b q : Int) : Prop := q * b ≤ a ∧ a < q * b + b
theorem down_neg (m n : Nat) (hm : 0 < m) (hn : 0 < n) (h1 : m ≤ 1000000000) (h2 : n ≤ 1000000000) : ∃ q : Int, spec_agDown.f (-(m : Int)) (n : Int) = some q ∧ impl_floorDiv.f (-(m : Int)) (n : Int) = some q ∧ Fl (-(m : Int)) (n : Int) q := by
  have hu := up_ m n hm hn
  have hdm := Nat.div_add_mod m n
  have hlt := Nat.mod_lt m hn
  have hle : m / n ≤ m := Nat.div_le_self m n
  have f1 : Int.tdiv (-(m : Int)) (n : Int) = -((m / n : Nat) : Int) := by rw [Int.neg_tdiv]; rfl
  have f2 : Int.tmod (-(m : Int)) (n : Int) = -((m % n : Nat) : Int) := by rw [Int.neg_tmod]; rfl
  have e4 : Int.tdiv ((m + n - 1 : Nat) : Int) (n : Int) = (((m + n - 1) / n : Nat) : Int) := rfl
  unfold spec_agDown.f impl_floorDiv.f
  rw [if_pos (by omega), if_neg (by omega), if_neg (by omega), f1, f2, Int.neg_neg, wr (z := (m : Int)) (by omega) (by omega), wr (z := (m : Int) + (n : Int)) (by omega) (by omega), show (m : Int) + (n : Int) - 1 = ((m + n - 1 : Nat) : Int) by omega, wr (z := ((m + n - 1 : Nat) : Int)) (by omega) (by omega), e4, hu]
  generalize hP : m / n = P at hle hdm
  generalize hR : m % n = R at hlt hdm
  have hi : (n : Int) * (P : Int) + (R : Int) = (m : Int) := by rw [← hdm]; simp
  have hc : (P : Int) * (n : Int) = (n : Int) * (P : Int) := Int.mul_comm _ _
  by_cases hz : R = 0
  · rw [if_pos hz, if_neg (show ¬ -((R : Nat) : Int) < 0 by omega), wr (z := ((P : Nat) : Int)) (by omega) (by omega)]
    refine ⟨wrap64 (-((P : Nat) : Int)), rfl, rfl, ?_⟩
    unfold Fl
    rw [wr (z := -((P : Nat) : Int)) (by omega) (by omega), Int.neg_mul, hc]
    omega
  · rw [if_neg hz, if_pos (show -((R : Nat) : Int) < 0 by omega), wr (z := ((P + 1 : Nat) : Int)) (by omega) (by omega), wr (z := -((P : Nat) : Int)) (by omega) (by omega)]
    refine ⟨wrap64 (-((P + 1 : Nat) : Int)), rfl, by rw [show -((P : Nat) : Int) - 1 = -((P + 1 : Nat) : Int) by omega], ?_⟩
    unfold Fl
    rw [wr (z := -((P + 1 : Nat) : Int)) (by omega) (by omega), Int.neg_mul, show ((P + 1 : Nat) : Int) * (n : Int) = (n : Int) * (P : Int) + (n : Int) by rw [show ((P + 1 : Nat) : Int) = (P : Int) + 1 by omega, Int.add_mul, hc, Int.one_mul]]
    omega
theorem down_ (a b : Int) (h0 : 0 < b) (h1 : -1000000000 ≤ a) (h2 : a ≤ 1000000000) (h3 : b ≤ 1000000000) : ∃ q : Int, spec_agDown.f a b = some q ∧ impl_floorDiv.f a b = some q ∧ Fl a b q := by
  obtain ⟨n, rfl⟩ : ∃ n : Nat, b = (n : Int) := ⟨b.toNat, by omega⟩
  by_cases ha : a < 0
  · obtain ⟨m, rfl⟩ : ∃ m : Nat, a = -(m : Int) := ⟨(-a).toNat, by omega⟩
    exact down_neg m n (by omega) (by omega) (by omega) (by omega)
  · obtain ⟨m, rfl⟩ : ∃ m : Nat, a = (m : Int) := ⟨a.toNat, by omega⟩
    have f1 : Int.tdiv (m : Int) (n : Int) = ((m / n : Nat) : Int) := rfl
    have f2 : Int.tmod (m : Int) (n : Int) = ((m % n : Nat) : Int) := rfl
    have hdm := Nat.div_add_mod m n
    have hlt := Nat.mod_lt m (show 0 < n by omega)
    have hle : m / n ≤ m := Nat.div_le_self m n
    unfold spec_agDown.f impl_floorDiv.f
    rw [if_neg ha, if_neg (show ¬ (n : Int) = 0 by omega), if_neg (show ¬ (n : Int) = 0 by omega), f1, f2, if_neg (show ¬ ((m % n : Nat) : Int) < 0 by omega)]
    generalize m / n = P at hle hdm
    generalize m % n = R at hlt hdm
    have hi : (n : Int) * (P : Int) + (R : Int) = (m : Int) := by rw [← hdm]; simp
    have hc : (P : Int) * (n : Int) = (n : Int) * (P : Int) := Int.mul_comm _ _
    refine ⟨wrap64 ((P : Nat) : Int), rfl, rfl, ?_⟩
    unfold Fl
    rw [wr (z := ((P : Nat) : Int)) (by omega) (by omega), hc]
    omega
theorem sq_le {d : Nat} (h : d ≤ 200) : (0 : Int) + ((d * d : Nat) : Int) ≤ 900000 := by
  have h2 : d * d ≤ 200 * 200 := Nat.mul_le_mul h h
  omega
/-- What is known of an answer: n frames, S of them alike. -/
def Told (d : Nat) (S : Int) (r : Int × Bool) : Prop := r.2 = true ∧ r.1 ≤ 100 ∧ (r.1 = 100 → S = (d : Int)) ∧ (S = (d : Int) → r.1 = 100)
/-- What both make of the counts. -/
theorem tail_ (x y : List NI) (a b : Int) (d : Nat) (E S : Int) (hd : d ≤ 200) (hS : 0 ≤ S ∧ S ≤ (d : Int)) (hE : 0 ≤ E ∧ E ≤ ((d * d : Nat) : Int)) (hES : E = ((d * d : Nat) : Int) → S = (d : Int)) (hs : Ev (fun k => spec_agSame.f k x y a b) S) :
    ∃ r : Int × Bool, Ev (fun k => if wrap64 ((d : Int) * (d : Int)) = E then some (100, true) else (spec_agSame.f k x y a b).bind fun t104 => (spec_agDown.f (wrap64 (100 * (wrap64 ((wrap64 ((d : Int) * t104)) - E)))) (wrap64 ((wrap64 ((d : Int) * (d : Int))) - E))).bind fun t105 => some (t105, true)) r ∧
      (if wrap64 ((d : Int) * (d : Int)) = E then some (100, true) else (impl_floorDiv.f (wrap64 (100 * (wrap64 ((wrap64 ((d : Int) * S)) - E)))) (wrap64 ((wrap64 ((d : Int) * (d : Int))) - E))).bind fun q => some (q, true)) = some r ∧ Told d S r := by
  have hdd : d * d ≤ 200 * 200 := Nat.mul_le_mul hd hd
  have h1 : (d : Int) * S ≤ 200 * 200 := Int.mul_le_mul (by omega) (by omega) (by omega) (by omega)
  have h2 : 0 ≤ (d : Int) * S := Int.mul_nonneg (by omega) (by omega)
  have h5 : (d : Int) * S ≤ (d : Int) * (d : Int) := Int.mul_le_mul_of_nonneg_left hS.2 (by omega)
  have h6 : (d : Int) * S = (d : Int) * (d : Int) → 0 < d → S = (d : Int) := fun e hp => Int.eq_of_mul_eq_mul_left (by omega) e
  have h7 : S = (d : Int) → (d : Int) * S = (d : Int) * (d : Int) := fun e => by rw [e]
  have h8 : d = 0 → d * d = 0 := fun e => by rw [e]
  rw [← Int.natCast_mul] at *
  generalize hds : (d : Int) * S = DS at h1 h2 h5 h6 h7
  generalize d * d = D at hdd hE h5 h6 h7 h8 hES
  rw [wr (z := ((D : Nat) : Int)) (by omega) (by omega), wr (z := DS) (by omega) (by omega), wr (z := DS - E) (by omega) (by omega), wr (z := 100 * (DS - E)) (by omega) (by omega), wr (z := ((D : Nat) : Int) - E) (by omega) (by omega)]
  by_cases hq : ((D : Nat) : Int) = E
  · exact ⟨(100, true), Ev.pos hq (Ev.some rfl), by rw [if_pos hq], rfl, Int.le_refl _, fun _ => hES hq.symm, fun _ => rfl⟩
  · obtain ⟨q, q1, q2, q3⟩ := down_ (100 * (DS - E)) (((D : Nat) : Int) - E) (by omega) (by omega) (by omega) (by omega)
    refine ⟨(q, true), Ev.neg hq (Ev.bind hs ?_), by rw [if_neg hq, q2]; rfl, rfl, ?_⟩
    · rw [hds, wr (z := DS) (by omega) (by omega), wr (z := DS - E) (by omega) (by omega), wr (z := 100 * (DS - E)) (by omega) (by omega), q1]
      exact Ev.some rfl
    · obtain ⟨q3, q4⟩ := q3
      generalize hb : ((D : Nat) : Int) - E = Bn at q3 q4
      have hbp : 0 < Bn := by omega
      show q ≤ 100 ∧ (q = 100 → S = (d : Int)) ∧ (S = (d : Int) → q = 100)
      have hle : q ≤ 100 := Int.not_lt.1 (fun h => by
        have h9 : 101 * Bn ≤ q * Bn := Int.mul_le_mul_of_nonneg_right (by omega) (by omega)
        omega)
      refine ⟨hle, fun e => ?_, fun e => ?_⟩
      · rw [e] at q3 q4
        exact h6 (by omega) (Nat.pos_of_ne_zero (fun h => by have := h8 h; omega))
      · have h9 := h7 e
        by_cases hlt : q = 100
        · exact hlt
        · have h10 : q * Bn + Bn ≤ 100 * Bn := by
            have : (q + 1) * Bn ≤ 100 * Bn := Int.mul_le_mul_of_nonneg_right (by omega) (by omega)
            rw [Int.add_mul, Int.one_mul] at this
            exact this
          omega
/-- Where all texts stand everywhere they are one text. -/
theorem cnt_all {l : List ByteArray} {s : ByteArray} (h : cnt l s = (l.length : Int)) : ∀ t, t ∈ l → t.toList = s.toList := by
  unfold MMap.cnt at h
  have h2 : (l.filter (fun x => x.toList == s.toList)).length = l.length := by omega
  intro t ht
  exact eq_of_beq (List.length_filter_eq_length_iff.1 h2 t ht)
theorem pairs_all (gb : List ByteArray) : ∀ ga : List ByteArray, pairs gb ga = ((ga.length * gb.length : Nat) : Int) → ∀ s, s ∈ ga → cnt gb s = (gb.length : Int)
  | [], _, s, hs => nomatch hs
  | t :: ga, h, s, hs => by
    have h1 := pairs_bounds gb ga
    have h2 := cnt_bounds gb t
    rw [List.length_cons, Nat.succ_mul] at h
    have h3 : cnt gb t + pairs gb ga = _ := h
    rcases List.mem_cons.1 hs with rfl | hs
    · omega
    · exact pairs_all gb ga (by omega) s hs
theorem gl_mem (x : List NI) : ∀ (d : Nat) (a f : Int), a ≤ f → f < a + d → glossB x f ∈ gl x d a
  | 0, _, _, _, _ => by omega
  | d + 1, a, f, h0, h1 => by
    by_cases e : f = a
    · subst e; exact List.mem_cons_self ..
    · exact List.mem_cons_of_mem _ (gl_mem x d (a + 1) f (by omega) (by omega))
theorem same_all (x y : List NI) : ∀ (d : Nat) (a : Int), (∀ f, a ≤ f → f < a + d → (glossB x f).toList = (glossB y f).toList) → sameN x y d a = (d : Int)
  | 0, _, _ => rfl
  | d + 1, a, h => by
    have e : sameN x y (d + 1) a = (if (glossB x a).toList = (glossB y a).toList then 1 else 0) + sameN x y d (a + 1) := rfl
    rw [e, if_pos (h a (Int.le_refl _) (by omega)), same_all x y d (a + 1) (fun f h0 h1 => h f (by omega) (by omega))]
    omega
theorem all_same (x y : List NI) (d : Nat) (a : Int) (h : pairs (gl y d a) (gl x d a) = ((d * d : Nat) : Int)) : sameN x y d a = (d : Int) := by
  have h2 := pairs_all (gl y d a) (gl x d a) (by rw [gl_length, gl_length]; exact h)
  exact same_all x y d a (fun f h0 h1 => (cnt_all (h2 _ (gl_mem x d a f h0 h1)) _ (gl_mem y d a f h0 h1)).symm)
theorem Agree_both (x y : List NI) (hx : Sized x) (hy : Sized y) (a b : Int) : ∃ r : Int × Bool, Ev (fun k => spec_AgreementBeyond.f k x y a b) r ∧ Ev (fun k => impl_AgreementBeyond.f k x y a b) r ∧ if (tierB x && tierB y && windowB a b) = true then Told (b - a).toNat (sameN x y (b - a).toNat a) r else r = (0, false) := by
  unfold spec_AgreementBeyond.f impl_AgreementBeyond.f
  have hs := agAsked_ x y hx hy a b
  cases h1 : tierB x with
  | false => exact ⟨(0, false), Ev.bind (Ev.eq (r := false) hs (by simp [h1])) (Ev.neg (by decide) (Ev.some rfl)), Ev.bind (Ev.eq (IsTier_ x hx) h1) (Ev.neg (by decide) (Ev.some rfl)), rfl⟩
  | true =>
    cases h2 : tierB y with
    | false => exact ⟨(0, false), Ev.bind (Ev.eq (r := false) hs (by simp [h2])) (Ev.neg (by decide) (Ev.some rfl)), Ev.bind (Ev.eq (IsTier_ x hx) h1) (Ev.pos rfl (Ev.bind (Ev.eq (IsTier_ y hy) h2) (Ev.neg (by decide) (Ev.some rfl)))), rfl⟩
    | true =>
      cases h3 : windowB a b with
      | false => exact ⟨(0, false), Ev.bind (Ev.eq (r := false) hs (by simp [h3])) (Ev.neg (by decide) (Ev.some rfl)), Ev.bind (Ev.eq (IsTier_ x hx) h1) (Ev.pos rfl (Ev.bind (Ev.eq (IsTier_ y hy) h2) (Ev.pos rfl (Ev.have ((isWindow_ a b).trans (congrArg some h3)) (Ev.neg (by decide) (Ev.some rfl)))))), rfl⟩
      | true =>
        have hw := windowB_in h3
        obtain ⟨d, hd⟩ : ∃ d : Nat, b - a = (d : Int) := ⟨(b - a).toNat, by omega⟩
        have hd200 : d ≤ 200 := by omega
        obtain ⟨s1, s2⟩ := same_loops x y hx hy h1 h2 b (by omega) d a 0 (by omega) (by omega) (by omega) (by omega)
        have hsb := sameN_bounds x y d a
        rw [Int.zero_add] at s1 s2
        have hall := all_same x y d a
        have hdn : (b - a).toNat = d := by omega
        rw [hdn]
        generalize sameN x y d a = S at s1 s2 hsb hall ⊢
        have g1 := frame_loop x h1 b (by omega) d a [] (by omega) (by omega) (by simp; omega)
        have g2 := frame_loop y h2 b (by omega) d a [] (by omega) (by omega) (by simp; omega)
        rw [List.nil_append] at g1 g2
        have l1 := gl_length x d a
        have l2 := gl_length y d a
        have z1 := gl_sizes x hx d a
        have z2 := gl_sizes y hy d a
        have hdd : d * d ≤ 40000 := Nat.mul_le_mul hd200 hd200
        have hpb := pairs_bounds (gl y d a) (gl x d a)
        rw [l1, l2] at hpb
        have hsum := sum_ (gl x d a) (gl y d a) 0 (Int.le_refl _) (by rw [l1, l2]; omega)
        rw [Int.zero_add, ← pairs_comm (gl x d a) (gl y d a)] at hsum
        have hn : wrap64 (b - a) = (d : Int) := by rw [wrap_in (by omega) (by omega)]; exact hd
        have hnn : wrap64 ((d : Int) * (d : Int)) = ((d * d : Nat) : Int) := by
          rw [← Int.natCast_mul, wrap_in (by omega) (by omega)]
        obtain ⟨r, t1, t2, t3⟩ := tail_ x y a b d (pairs (gl y d a) (gl x d a)) S hd200 hsb hpb hall s1
        replace t2 : impl_AgreementBeyond.g (d : Int) S (gl x d a) (gl y d a) = some r := by
          unfold impl_AgreementBeyond.g
          rw [if_pos (by rw [z1, z2, decide_eq_true (show (gl x d a).length ≤ 1000 by omega), decide_eq_true (show (gl y d a).length ≤ 1000 by omega)]; rfl), hsum]
          exact t2
        -- the reference's loops
        have inner : ∀ (xa : Int) (e2 : Nat) (ya e : Int), ya + e2 = b → 0 ≤ ya → 0 ≤ e → e + e2 ≤ 1000000 → Ev (fun k => spec_AgreementBeyond.l0 k x y a b (d : Int) (e + cnt (gl y e2 ya) (glossB x xa)) (wrap64 (xa + 1))) r → Ev (fun k => spec_AgreementBeyond.l1 k x y a b (d : Int) e xa ya) r := by
          intro xa e2
          induction e2 with
          | zero =>
            intro ya e hy1 hy2 he1 he2 hr
            refine Ev.step (fun _ => spec_AgreementBeyond.l1.eq_2 ..) (Ev.neg (by omega) ?_)
            have : e + cnt (gl y 0 ya) (glossB x xa) = e := by show e + 0 = e; omega
            rw [this] at hr
            exact hr
          | succ e2 ih =>
            intro ya e hy1 hy2 he1 he2 hr
            have hw2 := wrap_step (x := ya) (by omega) (by omega)
            have hc : cnt (gl y (e2 + 1) ya) (glossB x xa) = (if (glossB y ya).toList = (glossB x xa).toList then 1 else 0) + cnt (gl y e2 (ya + 1)) (glossB x xa) := cnt_cons _ _ _
            rw [hc] at hr
            refine Ev.step (fun _ => spec_AgreementBeyond.l1.eq_2 ..) (Ev.pos (by omega) (Ev.bind (agGloss_ x hx xa) (Ev.bind (agGloss_ y hy ya) (Ev.ite (fun hg => ?_) (fun hg => ?_)))))
            · rw [if_pos hg.symm, ← Int.add_assoc] at hr
              rw [hw2, wrap_in (show -9223372036854775808 ≤ e + 1 by omega) (by omega)]
              exact ih (ya + 1) (e + 1) (by omega) (by omega) (by omega) (by omega) hr
            · rw [if_neg (fun h => hg h.symm), Int.zero_add] at hr
              rw [hw2]
              exact ih (ya + 1) e (by omega) (by omega) he1 (by omega) hr
        have outer : ∀ (e1 : Nat) (xa e : Int), xa + e1 = b → 0 ≤ xa → 0 ≤ e → e + ((e1 * d : Nat) : Int) ≤ 900000 → e + pairs (gl y d a) (gl x e1 xa) = pairs (gl y d a) (gl x d a) → Ev (fun k => spec_AgreementBeyond.l0 k x y a b (d : Int) e xa) r := by
          intro e1
          induction e1 with
          | zero =>
            intro xa e hx1 hx2 he1 he2 hp
            have : e = pairs (gl y d a) (gl x d a) := by rw [← hp]; show e = e + 0; omega
            subst this
            exact Ev.step (fun _ => spec_AgreementBeyond.l0.eq_2 ..) (Ev.neg (by omega) t1)
          | succ e1 ih =>
            intro xa e hx1 hx2 he1 he2 hp
            have hw2 := wrap_step (x := xa) (by omega) (by omega)
            have hcb := cnt_bounds (gl y d a) (glossB x xa)
            rw [l2] at hcb
            rw [Nat.succ_mul] at he2
            have hp2 : e + (cnt (gl y d a) (glossB x xa) + pairs (gl y d a) (gl x e1 (xa + 1))) = pairs (gl y d a) (gl x d a) := hp
            refine Ev.step (fun _ => spec_AgreementBeyond.l0.eq_2 ..) (Ev.pos (by omega) (inner xa d a e (by omega) (by omega) he1 (by omega) ?_))
            rw [hw2]
            exact ih (xa + 1) _ (by omega) (by omega) (by omega) (by omega) (by rw [← hp2]; omega)
        have hout := outer d a 0 (by omega) (by omega) (Int.le_refl _) (sq_le hd200) (Int.zero_add _)
        refine ⟨r, Ev.bind (Ev.eq (r := true) hs (by simp [h1, h2, h3])) (Ev.pos rfl ?_), Ev.bind (Ev.eq (IsTier_ x hx) h1) (Ev.pos rfl (Ev.bind (Ev.eq (IsTier_ y hy) h2) (Ev.pos rfl (Ev.have ((isWindow_ a b).trans (congrArg some h3)) (Ev.pos rfl (Ev.bind s2 (Ev.bind g1 (Ev.bind g2 ?_)))))))), t3⟩
        · rw [hn]; exact hout
        · rw [hn, t2]; exact Ev.some rfl
end Go.Proofs.Ytgapcmmhbegdeaa.MAgrB
end
section
/- GlossAt: what the reference and the program answer, in plain words (out of the pure text of the exact law). No condition. -/
namespace Go.Proofs.Ytgapcmmhbegdeaa.MCGlossAt
open Go.RowKit Go.Proofs.Ytgapcmmhbegdeaa.G Go.Proofs.YtgapcmmhbegdeaaW.PrintWords Go.Proofs.YtgapcmmhbegdeaaW.PrintLast Go.Proofs.Ytgapcmmhbegdeaa.MPure Go.Proofs.Ytgapcmmhbegdeaa.MWord Go.Proofs.Ytgapcmmhbegdeaa.MNote Go.Proofs.Ytgapcmmhbegdeaa.MGloss

theorem agFrame_ (a : Int) : spec_agFrame.f a = some (frameB a) := by
  unfold spec_agFrame.f
  rw [l1In_]
  rfl
def glossAtR (l : List NI) (a : Int) : ByteArray × Bool := if tierB l = true ∧ frameB a = true then (glossB l a, true) else (⟨#[]⟩, false)
theorem GlossAt_s (l : List NI) (hl : Sized l) (a : Int) : Ev (fun k => spec_GlossAt.f k l a) (glossAtR l a) := by
  unfold spec_GlossAt.f glossAtR
  refine Ev.bind (tiGood_ l hl) (Ev.ite (fun h1 => ?_) (fun h1 => Ev.some (by simp [h1])))
  refine Ev.have (agFrame_ a) (Ev.ite (fun h2 => ?_) (fun h2 => Ev.some (by simp [h2])))
  exact Ev.bind (agGloss_ l hl a) (Ev.some (by rw [if_pos ⟨h1, h2⟩]))
theorem GlossAt_i (l : List NI) (hl : Sized l) (a : Int) : Ev (fun k => impl_GlossAt.f k l a) (glossAtR l a) := by
  unfold impl_GlossAt.f glossAtR
  refine Ev.bind (IsTier_ l hl) (Ev.ite (fun h1 => ?_) (fun h1 => Ev.some (by simp [h1])))
  refine Ev.have (isFrame_ a) (Ev.ite (fun h2 => ?_) (fun h2 => Ev.some (by simp [h2])))
  exact Ev.have (glossAt_ l h1 a) (Ev.some (by rw [if_pos ⟨h1, h2⟩]))
end Go.Proofs.Ytgapcmmhbegdeaa.MCGlossAt
end
section
/- What ConfusedGlosses answers, of the reference and of the program. No condition. -/
namespace Go.Proofs.Ytgapcmmhbegdeaa.MConfG
open Go.RowKit Go.Proofs.Ytgapcmmhbegdeaa.G Go.Proofs.YtgapcmmhbegdeaaW.PrintWords Go.Proofs.YtgapcmmhbegdeaaW.PrintLast Go.Proofs.Ytgapcmmhbegdeaa.MPure Go.Proofs.Ytgapcmmhbegdeaa.MWord Go.Proofs.Ytgapcmmhbegdeaa.MNote Go.Proofs.Ytgapcmmhbegdeaa.MCut Go.Proofs.Ytgapcmmhbegdeaa.MWin Go.Proofs.Ytgapcmmhbegdeaa.MAt0 Go.Proofs.Ytgapcmmhbegdeaa.MGloss Go.Proofs.Ytgapcmmhbegdeaa.MGl
open Go.Proofs.Ytgapcmmhbegdeaa.MEnt (Duo)

/-- Both glosses at d frames from a on. -/
def zg (x y : List NI) (d : Nat) (a : Int) : List Duo := (gl x d a).zip (gl y d a)
theorem duo_cons (q : Duo) (l : List Duo) (p : Duo) : MEnt.cnt (q :: l) p = (if MEnt.same q p = true then 1 else 0) + MEnt.cnt l p := by
  unfold MEnt.cnt
  rw [List.filter_cons]
  split
  · rw [List.length_cons]; omega
  · omega
theorem duo_pairs (z : List Duo) {p : Duo} (hp : impl_ConfusedGlosses.bad p = false) : MEnt.cnt (impl_ConfusedGlosses.pairs z) p = MEnt.cnt z p := by
  unfold MEnt.cnt impl_ConfusedGlosses.pairs
  rw [List.filter_filter]
  congr 2
  apply List.filter_congr
  intro q _
  cases hs : MEnt.same q p with
  | false => rfl
  | true => rw [MEnt.same_iff.1 hs, hp]; rfl
theorem pairs_cons_bad {p : Duo} {z : List Duo} (h : impl_ConfusedGlosses.bad p = true) : impl_ConfusedGlosses.pairs (p :: z) = impl_ConfusedGlosses.pairs z := by
  unfold impl_ConfusedGlosses.pairs
  rw [List.filter_cons, h]
  rfl
theorem pairs_cons_ok {p : Duo} {z : List Duo} (h : impl_ConfusedGlosses.bad p = false) : impl_ConfusedGlosses.pairs (p :: z) = p :: impl_ConfusedGlosses.pairs z := by
  unfold impl_ConfusedGlosses.pairs
  rw [List.filter_cons, h]
  rfl
/-- What is answered of the best. -/
theorem conf_end {z : List Duo} {b : Duo × Int} (h : MEnt.One z b) : (if b.2 = 0 then some ((⟨#[]⟩ : ByteArray), (⟨#[]⟩ : ByteArray), (0 : Int), false) else some (b.1.1, b.1.2, b.2, true)) = some (b.1.1, b.1.2, b.2, decide (b.2 > 0)) := by
  rcases h with rfl | ⟨h1, h2⟩
  · rfl
  · have h3 := MEnt.cnt_pos h1
    rw [if_neg (by omega), decide_eq_true (by omega)]
/-- What is known of an answer. -/
def Told (ok : Bool) (r : ByteArray × ByteArray × Int × Bool) : Prop := r.2.2.2 = true → ok = true ∧ 1 ≤ r.2.2.1 ∧ r.1.toList ≠ r.2.1.toList
theorem told_one {z : List Duo} {b : Duo × Int} (h : MEnt.One (impl_ConfusedGlosses.pairs z) b) : Told true (b.1.1, b.1.2, b.2, decide (b.2 > 0)) := by
  intro h2
  have h2 : b.2 > 0 := of_decide_eq_true h2
  rcases h with rfl | ⟨h1, h3⟩
  · exact absurd h2 (by decide)
  · have h4 := (List.mem_filter.1 h1).2
    refine ⟨rfl, h2, fun e => ?_⟩
    have e2 : b.1.1.toList = b.1.2.toList := e
    unfold impl_ConfusedGlosses.bad at h4
    simp [e2] at h4
theorem Conf_both (x y : List NI) (hx : Sized x) (hy : Sized y) (a b : Int) : ∃ r : ByteArray × ByteArray × Int × Bool, Ev (fun k => spec_ConfusedGlosses.f k x y a b) r ∧ Ev (fun k => impl_ConfusedGlosses.f k x y a b) r ∧ Told (tierB x && tierB y && windowB a b) r := by
  unfold spec_ConfusedGlosses.f impl_ConfusedGlosses.f
  have hs := agAsked_ x y hx hy a b
  cases h1 : tierB x with
  | false => exact ⟨(⟨#[]⟩, ⟨#[]⟩, 0, false), Ev.bind (Ev.eq (r := false) hs (by simp [h1])) (Ev.neg (by decide) (Ev.some rfl)), Ev.bind (Ev.eq (IsTier_ x hx) h1) (Ev.neg (by decide) (Ev.some rfl)), fun h => nomatch h⟩
  | true =>
    cases h2 : tierB y with
    | false => exact ⟨(⟨#[]⟩, ⟨#[]⟩, 0, false), Ev.bind (Ev.eq (r := false) hs (by simp [h2])) (Ev.neg (by decide) (Ev.some rfl)), Ev.bind (Ev.eq (IsTier_ x hx) h1) (Ev.pos rfl (Ev.bind (Ev.eq (IsTier_ y hy) h2) (Ev.neg (by decide) (Ev.some rfl)))), fun h => nomatch h⟩
    | true =>
      cases h3 : windowB a b with
      | false => exact ⟨(⟨#[]⟩, ⟨#[]⟩, 0, false), Ev.bind (Ev.eq (r := false) hs (by simp [h3])) (Ev.neg (by decide) (Ev.some rfl)), Ev.bind (Ev.eq (IsTier_ x hx) h1) (Ev.pos rfl (Ev.bind (Ev.eq (IsTier_ y hy) h2) (Ev.pos rfl (Ev.have ((isWindow_ a b).trans (congrArg some h3)) (Ev.neg (by decide) (Ev.some rfl)))))), fun h => nomatch h⟩
      | true =>
        have hw := windowB_in h3
        obtain ⟨d, hd⟩ : ∃ d : Nat, b - a = (d : Int) := ⟨(b - a).toNat, by omega⟩
        have hd200 : d ≤ 200 := by omega
        have g1 := frame_loop x h1 b (by omega) d a [] (by omega) (by omega) (by simp; omega)
        have g2 := frame_loop y h2 b (by omega) d a [] (by omega) (by omega) (by simp; omega)
        rw [List.nil_append] at g1 g2
        have l1 := gl_length x d a
        have l2 := gl_length y d a
        have z1 := gl_sizes x hx d a
        have z2 := gl_sizes y hy d a
        obtain ⟨ps, hps⟩ : ∃ ps, ps = impl_ConfusedGlosses.pairs (zg x y d a) := ⟨_, rfl⟩
        obtain ⟨t, ht⟩ : ∃ t, t = MEnt.best ps ps MEnt.init := ⟨_, rfl⟩
        have hone : MEnt.One ps t := by rw [ht]; exact (MEnt.best_top ps ps MEnt.init (fun _ h => h) (MEnt.Top.start _ _ (fun _ h => h))).1
        have hg : impl_ConfusedGlosses.g (gl x d a) (gl y d a) = some (t.1.1, t.1.2, t.2, decide (t.2 > 0)) := by
          have e : impl_ConfusedGlosses.top ((gl x d a).zip (gl y d a)) = t := by rw [ht, hps]; rfl
          unfold impl_ConfusedGlosses.g
          rw [if_pos (by rw [z1, z2, decide_eq_true (show (gl x d a).length ≤ 1000 by omega), decide_eq_true (show (gl x d a).length ≤ (gl y d a).length by omega)]; rfl), e]
        -- the reference's loops
        have inner : ∀ (q : Duo) (s : Duo × Int) (xa : Int) (r : ByteArray × ByteArray × Int × Bool) (e2 : Nat) (ya e : Int), ya + e2 = b → 0 ≤ ya → 0 ≤ e → e + e2 ≤ 1000000 →
            Ev (fun k => spec_ConfusedGlosses.l0 k x y a b (if MEnt.bt q (e + MEnt.cnt (zg x y e2 ya) q) s = true then (q, e + MEnt.cnt (zg x y e2 ya) q) else s).1.1 (if MEnt.bt q (e + MEnt.cnt (zg x y e2 ya) q) s = true then (q, e + MEnt.cnt (zg x y e2 ya) q) else s).1.2 (if MEnt.bt q (e + MEnt.cnt (zg x y e2 ya) q) s = true then (q, e + MEnt.cnt (zg x y e2 ya) q) else s).2 (wrap64 (xa + 1))) r →
            Ev (fun k => spec_ConfusedGlosses.l1 k x y a b s.1.1 s.1.2 s.2 xa q.1 q.2 e ya) r := by
          intro q s xa r e2
          induction e2 with
          | zero =>
            intro ya e hy1 hy2 he1 he2 hr
            have e0 : e + MEnt.cnt (zg x y 0 ya) q = e := by show e + 0 = e; omega
            rw [e0] at hr
            refine Ev.step (fun _ => spec_ConfusedGlosses.l1.eq_2 ..) (Ev.neg (by omega) ?_)
            cases hb : MEnt.bt q e s with
            | true =>
              rw [hb, if_pos rfl] at hr
              rcases MEnt.bt_iff.1 hb with hb1 | ⟨hb1, hb2⟩
              · exact Ev.pos hb1 hr
              · refine Ev.neg (by omega) (Ev.pos hb1 ?_)
                unfold MEnt.lt at hb2
                rw [Bool.or_eq_true, Bool.and_eq_true, beq_iff_eq] at hb2
                by_cases hq : Op.bytesLess q.1.toList s.1.1.toList = true
                · exact Ev.pos hq hr
                · rcases hb2 with hb2 | ⟨hb2, hb3⟩
                  · exact absurd hb2 hq
                  · exact Ev.neg hq (Ev.pos hb2 (Ev.pos hb3 hr))
            | false =>
              rw [hb, if_neg (by decide)] at hr
              have hb2 : ¬ (s.2 < e ∨ (e = s.2 ∧ MEnt.lt q s.1 = true)) := fun h => by rw [MEnt.bt_iff.2 h] at hb; cases hb
              refine Ev.neg (fun h => hb2 (.inl h)) (Ev.ite (fun he => ?_) (fun _ => hr))
              have hb3 : ¬ MEnt.lt q s.1 = true := fun h => hb2 (.inr ⟨he, h⟩)
              unfold MEnt.lt at hb3
              rw [Bool.or_eq_true, Bool.and_eq_true, beq_iff_eq] at hb3
              exact Ev.neg (fun h => hb3 (.inl h)) (Ev.ite (fun h4 => Ev.neg (fun h => hb3 (.inr ⟨h4, h⟩)) hr) (fun _ => hr))
          | succ e2 ih =>
            intro ya e hy1 hy2 he1 he2 hr
            have hw2 := wrap_step (x := ya) (by omega) (by omega)
            have hc : MEnt.cnt (zg x y (e2 + 1) ya) q = (if MEnt.same (glossB x ya, glossB y ya) q = true then 1 else 0) + MEnt.cnt (zg x y e2 (ya + 1)) q := duo_cons _ _ _
            rw [hc] at hr
            refine Ev.step (fun _ => spec_ConfusedGlosses.l1.eq_2 ..) (Ev.pos (by omega) (Ev.bind (agGloss_ x hx ya) (Ev.ite (fun hg1 => Ev.bind (agGloss_ y hy ya) (Ev.ite (fun hg2 => ?_) (fun hg2 => ?_))) (fun hg1 => ?_))))
            · have hs1 : MEnt.same (glossB x ya, glossB y ya) q = true := by unfold MEnt.same; rw [Bool.and_eq_true, beq_iff_eq, beq_iff_eq]; exact ⟨hg1, hg2⟩
              rw [if_pos hs1, ← Int.add_assoc] at hr
              rw [hw2, wrap_in (show -9223372036854775808 ≤ e + 1 by omega) (by omega)]
              exact ih (ya + 1) (e + 1) (by omega) (by omega) (by omega) (by omega) hr
            · have hs1 : ¬ MEnt.same (glossB x ya, glossB y ya) q = true := by unfold MEnt.same; rw [Bool.and_eq_true, beq_iff_eq, beq_iff_eq]; exact fun h => hg2 h.2
              rw [if_neg hs1, Int.zero_add] at hr
              rw [hw2]
              exact ih (ya + 1) e (by omega) (by omega) he1 (by omega) hr
            · have hs1 : ¬ MEnt.same (glossB x ya, glossB y ya) q = true := by unfold MEnt.same; rw [Bool.and_eq_true, beq_iff_eq, beq_iff_eq]; exact fun h => hg1 h.1
              rw [if_neg hs1, Int.zero_add] at hr
              rw [hw2]
              exact ih (ya + 1) e (by omega) (by omega) he1 (by omega) hr
        have outer : ∀ (e1 : Nat) (xa : Int) (s : Duo × Int), xa + e1 = b → 0 ≤ xa → MEnt.best ps (impl_ConfusedGlosses.pairs (zg x y e1 xa)) s = t → Ev (fun k => spec_ConfusedGlosses.l0 k x y a b s.1.1 s.1.2 s.2 xa) (t.1.1, t.1.2, t.2, decide (t.2 > 0)) := by
          intro e1
          induction e1 with
          | zero =>
            intro xa s hx1 hx2 hp
            have e0 : s = t := hp
            subst e0
            refine Ev.step (fun _ => spec_ConfusedGlosses.l0.eq_2 ..) (Ev.neg (by omega) ?_)
            rw [conf_end hone]
            exact Ev.some rfl
          | succ e1 ih =>
            intro xa s hx1 hx2 hp
            have hw2 := wrap_step (x := xa) (by omega) (by omega)
            have hz : zg x y (e1 + 1) xa = (glossB x xa, glossB y xa) :: zg x y e1 (xa + 1) := rfl
            rw [hz] at hp
            have skip : ∀ c : Bool, c = true → impl_ConfusedGlosses.bad (glossB x xa, glossB y xa) = true → Ev (fun k => spec_ConfusedGlosses.j1 k x y a b s.1.1 s.1.2 s.2 xa (glossB x xa) (glossB y xa) c) (t.1.1, t.1.2, t.2, decide (t.2 > 0)) := by
              intro c hc hb
              rw [pairs_cons_bad hb] at hp
              refine Ev.step (fun _ => spec_ConfusedGlosses.j1.eq_2 ..) (Ev.pos hc ?_)
              rw [hw2]
              exact ih (xa + 1) s (by omega) (by omega) hp
            refine Ev.step (fun _ => spec_ConfusedGlosses.l0.eq_2 ..) (Ev.pos (by omega) (Ev.bind (agGloss_ x hx xa) (Ev.bind (agGloss_ y hy xa) (Ev.ite (fun n1 => skip true rfl (by unfold impl_ConfusedGlosses.bad; simp [n1])) (fun n1 => Ev.ite (fun n2 => skip true rfl (by unfold impl_ConfusedGlosses.bad; simp [n2])) (fun n2 => ?_))))))
            by_cases n3 : (glossB x xa).toList = (glossB y xa).toList
            · exact skip _ (by simp [n3]) (by unfold impl_ConfusedGlosses.bad; simp [n3])
            · have hok : impl_ConfusedGlosses.bad (glossB x xa, glossB y xa) = false := by unfold impl_ConfusedGlosses.bad; simp [n1, n2, n3]
              rw [pairs_cons_ok hok] at hp
              refine Ev.step (fun _ => spec_ConfusedGlosses.j1.eq_2 ..) (Ev.neg (by simp [n3]) (inner (glossB x xa, glossB y xa) s xa _ d a 0 (by omega) (by omega) (Int.le_refl _) (by omega) ?_))
              rw [hw2, Int.zero_add, ← duo_pairs _ hok, ← hps]
              exact ih (xa + 1) _ (by omega) (by omega) hp
        refine ⟨(t.1.1, t.1.2, t.2, decide (t.2 > 0)), Ev.bind (Ev.eq (r := true) hs (by simp [h1, h2, h3])) (Ev.pos rfl (outer d a MEnt.init (by omega) (by omega) (by rw [ht, hps]))), Ev.bind (Ev.eq (IsTier_ x hx) h1) (Ev.pos rfl (Ev.bind (Ev.eq (IsTier_ y hy) h2) (Ev.pos rfl (Ev.have ((isWindow_ a b).trans (congrArg some h3)) (Ev.pos rfl (Ev.bind g1 (Ev.bind g2 ?_))))))), ?_⟩
        rotate_left
        · rw [hps] at hone
          exact told_one hone
        rw [hg]
        exact Ev.some rfl
end Go.Proofs.Ytgapcmmhbegdeaa.MConfG
end
section
/- What the laws draw: every cursor's function answers, and what it answers. No condition. -/
namespace Go.Proofs.Ytgapcmmhbegdeaa.MDraw
open Go.RowKit Go.Proofs.Ytgapcmmhbegdeaa.G Go.Proofs.YtgapcmmhbegdeaaW.PrintWords Go.Proofs.YtgapcmmhbegdeaaW.PrintLast Go.Proofs.Ytgapcmmhbegdeaa.MPure

/-- The bytes that come in. -/
def Bytes (s : List Int) : Prop := ∀ a, a ∈ s → (Lit.int .u8 a).wf = true
theorem Bytes.at {s : List Int} (h : Bytes s) (i : Int) (h0 : 0 ≤ i) (h1 : i < (s.length : Int)) : 0 ≤ rd s i ∧ rd s i ≤ 255 := by
  have hm : rd s i ∈ s := by
    show s.getD i.toNat 0 ∈ s
    rw [List.getD_eq_getElem?_getD, List.getElem?_eq_getElem (show i.toNat < s.length by omega)]
    exact List.getElem_mem _
  have := h _ hm
  simp only [Lit.wf, Bool.and_eq_true, decide_eq_true_eq] at this
  exact this
theorem and_255 (x : Int) : 0 ≤ Go.bits .and .u64 x 255 ∧ Go.bits .and .u64 x 255 ≤ 255 := by
  have h : ((BitVec.ofInt IntKind.u64.bits x) &&& (BitVec.ofInt IntKind.u64.bits 255)).toNat ≤ 255 := by
    rw [BitVec.toNat_and]
    exact Nat.le_trans Nat.and_le_right (by decide)
  unfold Go.bits
  simp only
  generalize ((BitVec.ofInt IntKind.u64.bits x) &&& (BitVec.ofInt IntKind.u64.bits 255)).toNat = n at h
  have e : IntKind.u64.wrap (n : Int) = (n : Int) := by
    have h1 : (0 : Int) ≤ n := by omega
    have h2 : (n : Int) ≤ 255 := by omega
    generalize (n : Int) = z at h1 h2
    unfold IntKind.wrap
    simp [IntKind.signed, IntKind.bits]
    omega
  rw [e]
  omega
theorem next_ (s : List Int) (hs : Bytes s) (a d : Int) (h0 : 0 ≤ a) (h1 : a ≤ 1000000000000000) : ∃ v d', spec_l1Cur_next.f s a d = some (v, a + 1, d') ∧ 0 ≤ v ∧ v ≤ 255 := by
  have hw : wrap64 (a + 1) = a + 1 := wrap_in (by omega) (by omega)
  unfold spec_l1Cur_next.f
  rw [hw]
  split
  · rename_i h
    have hr := hs.at a h0 h
    have hv : wrap64 (rd s a) = rd s a := wrap_in (by omega) (by omega)
    rw [if_pos (by omega), hv]
    exact ⟨_, _, rfl, hr.1, hr.2⟩
  · split
    · exact ⟨_, _, rfl, by omega, by omega⟩
    · have hb := and_255 ((IntKind.u64.wrap ((IntKind.u64.wrap ((IntKind.u64.wrap (d * 6364136223846793005)) + 0)) + 1442695040888963407)) / 1099511627776)
      refine ⟨_, _, rfl, ?_, ?_⟩
      · rw [wrap_in (by omega) (by omega)]; exact hb.1
      · rw [wrap_in (by omega) (by omega)]; exact hb.2
theorem pick_ (s : List Int) (hs : Bytes s) (a d n : Int) (h0 : 0 ≤ a) (h1 : a ≤ 1000000000000) : ∃ v a' d', spec_l1Cur_pick.f s a d n = some (v, a', d') ∧ 0 ≤ v ∧ v ≤ 65535 ∧ (1 ≤ n → v < n) ∧ a ≤ a' ∧ a' ≤ a + 2 := by
  unfold spec_l1Cur_pick.f
  split
  · exact ⟨_, _, _, rfl, by omega, by omega, fun h => by omega, by omega, by omega⟩
  · rename_i hn
    obtain ⟨v, d1, e1, v0, v1⟩ := next_ s hs a d h0 (by omega)
    rw [e1]
    simp only [Option.bind_some]
    split
    · obtain ⟨u, d2, e2, u0, u1⟩ := next_ s hs (a + 1) d1 (by omega) (by omega)
      rw [e2]
      simp only [Option.bind_some]
      rw [if_neg (by omega), wrap_in (show -9223372036854775808 ≤ v * 256 by omega) (by omega), wrap_in (show -9223372036854775808 ≤ v * 256 + u by omega) (by omega)]
      have t0 := Int.tmod_nonneg n (show 0 ≤ v * 256 + u by omega)
      have t1 := Int.tmod_lt_of_pos (v * 256 + u) (show 0 < n by omega)
      have t2 : Int.tmod (v * 256 + u) n ≤ v * 256 + u := by
        rw [Int.tmod_eq_emod_of_nonneg (by omega)]
        have := Int.mul_ediv_add_emod (v * 256 + u) n
        have h3 : 0 ≤ (v * 256 + u) / n := Int.ediv_nonneg (by omega) (by omega)
        have h4 : 0 ≤ n * ((v * 256 + u) / n) := Int.mul_nonneg (by omega) h3
        omega
      exact ⟨_, _, _, rfl, t0, by omega, fun _ => t1, by omega, by omega⟩
    · rw [if_neg (by omega)]
      have t0 := Int.tmod_nonneg n v0
      have t1 := Int.tmod_lt_of_pos v (show 0 < n by omega)
      have t2 : Int.tmod v n ≤ v := by
        rw [Int.tmod_eq_emod_of_nonneg v0]
        have := Int.mul_ediv_add_emod v n
        have h3 : 0 ≤ v / n := Int.ediv_nonneg v0 (by omega)
        have h4 : 0 ≤ n * (v / n) := Int.mul_nonneg (by omega) h3
        omega
      exact ⟨_, _, _, rfl, t0, by omega, fun _ => t1, by omega, by omega⟩
theorem one_ (s : List Int) (hs : Bytes s) (a d n : Int) (h0 : 0 ≤ a) (h1 : a ≤ 1000000000000) : ∃ v a' d', spec_l1Cur_one.f s a d n = some (v, a', d') ∧ a ≤ a' ∧ a' ≤ a + 2 := by
  obtain ⟨v, a', d', e, _, _, _, g1, g2⟩ := pick_ s hs a d n h0 h1
  unfold spec_l1Cur_one.f
  rw [e]
  exact ⟨_, _, _, rfl, g1, g2⟩
theorem among_ (s : List Int) (hs : Bytes s) (a d : Int) (l : List Int) (hl : 0 < l.length) (h0 : 0 ≤ a) (h1 : a ≤ 1000000000000) : ∃ v a' d', spec_l1Cur_among.f s a d l = some (v, a', d') ∧ v ∈ l ∧ a ≤ a' ∧ a' ≤ a + 2 := by
  obtain ⟨v, a', d', e, v0, _, v1, g1, g2⟩ := pick_ s hs a d (l.length : Int) h0 h1
  have hv := v1 (by omega)
  unfold spec_l1Cur_among.f
  rw [e]
  simp only [Option.bind_some]
  rw [if_pos v0, if_pos hv]
  refine ⟨_, _, _, rfl, ?_, g1, g2⟩
  show l.getD v.toNat 0 ∈ l
  rw [List.getD_eq_getElem?_getD, List.getElem?_eq_getElem (show v.toNat < l.length by omega)]
  exact List.getElem_mem _
theorem of_ (s : List Int) (hs : Bytes s) (a d : Int) (l : List ByteArray) (hl : 0 < l.length) (h0 : 0 ≤ a) (h1 : a ≤ 1000000000000) : ∃ v a' d', spec_l1Cur_of.f s a d l = some (v, a', d') ∧ v ∈ l ∧ a ≤ a' ∧ a' ≤ a + 2 := by
  obtain ⟨v, a', d', e, v0, _, v1, g1, g2⟩ := pick_ s hs a d (l.length : Int) h0 h1
  have hv := v1 (by omega)
  unfold spec_l1Cur_of.f
  rw [e]
  simp only [Option.bind_some]
  rw [if_pos v0, if_pos hv]
  refine ⟨_, _, _, rfl, ?_, g1, g2⟩
  show l.getD v.toNat ByteArray.empty ∈ l
  rw [List.getD_eq_getElem?_getD, List.getElem?_eq_getElem (show v.toNat < l.length by omega)]
  exact List.getElem_mem _
/-- A number of the machine. -/
def I64 (z : Int) : Prop := -9223372036854775808 ≤ z ∧ z ≤ 9223372036854775807
theorem wrap_i64 (z : Int) : I64 (wrap64 z) := by unfold I64 wrap64; omega
end Go.Proofs.Ytgapcmmhbegdeaa.MDraw
end
section
/- The drawn tiers: every draw answers with notes that are sized. No condition. -/
namespace Go.Proofs.Ytgapcmmhbegdeaa.MDrawT
open Go.RowKit Go.Proofs.Ytgapcmmhbegdeaa.G Go.Proofs.YtgapcmmhbegdeaaW.PrintWords Go.Proofs.YtgapcmmhbegdeaaW.PrintLast Go.Proofs.Ytgapcmmhbegdeaa.MPure Go.Proofs.Ytgapcmmhbegdeaa.MWord Go.Proofs.Ytgapcmmhbegdeaa.MNote Go.Proofs.Ytgapcmmhbegdeaa.MDraw

theorem note_ (s : List Int) (hs : Bytes s) (a d f : Int) (h0 : 0 ≤ a) (h1 : a ≤ 100000000000) : ∃ x y g a' d', spec_l1Cur_note.f s a d f = some (x, y, g, a', d') ∧ g.size ≤ 100 ∧ a ≤ a' ∧ a' ≤ a + 10 := by
  obtain ⟨v1, a1, d1, e1, m1, p1, q1⟩ := among_ s hs a d [1, 5, 8, 20] (by decide) h0 (by omega)
  obtain ⟨v2, a2, d2, e2, m2, p2, q2⟩ := of_ s hs a1 d1 [(⟨#[72, 79, 85, 83, 69]⟩ : ByteArray), (⟨#[71, 79]⟩ : ByteArray), (⟨#[73]⟩ : ByteArray), (⟨#[89, 79, 85]⟩ : ByteArray), (⟨#[71, 79]⟩ : ByteArray), (⟨#[71, 73, 86, 69]⟩ : ByteArray), (⟨#[66, 79, 79, 75]⟩ : ByteArray)] (by decide) (by omega) (by omega)
  obtain ⟨v3, a3, d3, e3, _, _, _, p3, q3⟩ := pick_ s hs a2 d2 60 (by omega) (by omega)
  have hg : v2.size ≤ 100 := by
    simp only [List.mem_cons, List.not_mem_nil, or_false] at m2
    rcases m2 with rfl | rfl | rfl | rfl | rfl | rfl | rfl <;> decide
  unfold spec_l1Cur_note.f
  rw [e1]; simp only [Option.bind_some]; rw [e2]; simp only [Option.bind_some]; rw [e3]; simp only [Option.bind_some]
  split
  · obtain ⟨v4, a4, d4, e4, m4, p4, q4⟩ := among_ s hs a3 d3 [f, wrap64 (f - 1), 100000] (by simp) (by omega) (by omega)
    rw [e4]
    exact ⟨_, _, _, _, _, rfl, hg, by show a ≤ a4; omega, by show a4 ≤ a + 10; omega⟩
  · split
    · obtain ⟨v4, a4, d4, e4, m4, p4, q4⟩ := of_ s hs a3 d3 [(⟨#[]⟩ : ByteArray), (⟨#[103, 111]⟩ : ByteArray), (⟨#[78, 73, 78, 69, 76, 69, 84, 84, 82]⟩ : ByteArray)] (by decide) (by omega) (by omega)
      rw [e4]
      refine ⟨_, _, _, _, _, rfl, ?_, by show a ≤ a4; omega, by show a4 ≤ a + 10; omega⟩
      simp only [List.mem_cons, List.not_mem_nil, or_false] at m4
      show v4.size ≤ 100
      rcases m4 with rfl | rfl | rfl <;> decide
    · split
      · obtain ⟨v4, a4, d4, e4, m4, p4, q4⟩ := among_ s hs a3 d3 [(-1), (-9223372036854775808)] (by decide) (by omega) (by omega)
        rw [e4]
        exact ⟨_, _, _, _, _, rfl, hg, by show a ≤ a4; omega, by show a4 ≤ a + 10; omega⟩
      · exact ⟨_, _, _, _, _, rfl, hg, by show a ≤ a3; omega, by show a3 ≤ a + 10; omega⟩
/-- Notes with short texts. -/
def Short (l : List NI) : Prop := ∀ x, x ∈ l → x.f2.size ≤ 100
theorem Short.sized {l : List NI} (h : Short l) (hl : l.length ≤ 100) : Sized l := ⟨by omega, fun x hx => Nat.le_trans (h x hx) (by decide)⟩
theorem Short.snoc {l : List NI} (h : Short l) {x : NI} (hx : x.f2.size ≤ 100) : Short (l ++ [x]) := fun y hy => by
  rcases List.mem_append.1 hy with hy | hy
  · exact h y hy
  · obtain rfl := List.mem_singleton.1 hy; exact hx
theorem most_ (a b : Int) : ∃ v, spec_l1Most.f a b = some v := by
  unfold spec_l1Most.f
  split <;> exact ⟨_, rfl⟩
theorem least_ (a b : Int) : ∃ v, spec_l1Least.f a b = some v := by
  unfold spec_l1Least.f
  split <;> exact ⟨_, rfl⟩
theorem tier_loop (s : List Int) (hs : Bytes s) : ∀ (n : Nat) (l : List NI) (f m a d : Int), l.length + n = m.toNat → m ≤ 60 → Short l → 0 ≤ a → a + 20 * n ≤ 10000000000 → ∃ r a' d', Ev (fun k => spec_l1Cur_tier.l0 k l f m s a d) (r, a', d') ∧ r.length ≤ l.length + n ∧ Short r ∧ a ≤ a' ∧ a' ≤ a + 20 * n := by
  intro n
  induction n with
  | zero =>
    intro l f m a d hl hm hS h0 h1
    exact ⟨l, a, d, Ev.step (fun _ => spec_l1Cur_tier.l0.eq_2 ..) (Ev.neg (by omega) (Ev.some rfl)), by omega, hS, by omega, by omega⟩
  | succ n ih =>
    intro l f m a d hl hm hS h0 h1
    obtain ⟨x, y, g, a1, d1, e1, hg, p1, q1⟩ := note_ s hs a d f h0 (by omega)
    have step : ∀ (b : Bool) (a2 d2 : Int), a1 ≤ a2 → a2 ≤ a1 + 2 → (b = true → 0 < l.length) → ∃ r a' d', Ev (fun k => spec_l1Cur_tier.j2 k l m (l.length : Int) b s a2 d2 x y g) (r, a', d') ∧ r.length ≤ l.length + (n + 1) ∧ Short r ∧ a ≤ a' ∧ a' ≤ a + 20 * ((n + 1 : Nat) : Int) := by
      intro b a2 d2 pa qa hb
      obtain ⟨v5, e5⟩ := most_ 0 y
      obtain ⟨v6, e6⟩ := least_ 90000 v5
      obtain ⟨v7, a7, d7, e7, _, p7, q7⟩ := among_ s hs a2 d2 [0, 0, 2, 5] (by decide) (by omega) (by omega)
      cases b with
      | true =>
        have hpos := hb rfl
        have hp := wrap_pred (i := l.length) hpos (by omega)
        have hmem : rd_T58 l ((l.length - 1 : Nat) : Int) ∈ l := by
          show l.getD (l.length - 1) z58 ∈ l
          rw [List.getD_eq_getElem?_getD, List.getElem?_eq_getElem (show l.length - 1 < l.length by omega)]
          exact List.getElem_mem _
        have hsm := hS _ hmem
        obtain ⟨r, a', d', er, hr, hSr, pr, qr⟩ := ih (l ++ [⟨x, y, (rd_T58 l ((l.length - 1 : Nat) : Int)).f2⟩]) (wrap64 (v6 + v7)) m a7 d7 (by rw [List.length_append]; show l.length + 1 + n = _; omega) hm (hS.snoc hsm) (by omega) (by omega)
        refine ⟨r, a', d', Ev.step (fun _ => spec_l1Cur_tier.j2.eq_2 ..) (Ev.pos rfl ?_), by rw [List.length_append] at hr; show r.length ≤ _; have : ([⟨x, y, (rd_T58 l ((l.length - 1 : Nat) : Int)).f2⟩] : List NI).length = 1 := rfl; omega, hSr, by omega, by omega⟩
        rw [hp]
        exact Ev.pos (by omega) (Ev.pos (by omega) (Ev.pos (by omega) (Ev.have e5 (Ev.have e6 (Ev.have e7 er)))))
      | false =>
        obtain ⟨r, a', d', er, hr, hSr, pr, qr⟩ := ih (l ++ [⟨x, y, g⟩]) (wrap64 (v6 + v7)) m a7 d7 (by rw [List.length_append]; show l.length + 1 + n = _; omega) hm (hS.snoc hg) (by omega) (by omega)
        refine ⟨r, a', d', Ev.step (fun _ => spec_l1Cur_tier.j2.eq_2 ..) (Ev.neg (by decide) ?_), by rw [List.length_append] at hr; have : ([⟨x, y, g⟩] : List NI).length = 1 := rfl; omega, hSr, by omega, by omega⟩
        exact Ev.pos (by omega) (Ev.have e5 (Ev.have e6 (Ev.have e7 er)))
    by_cases hpos : 0 < l.length
    · obtain ⟨b, a2, d2, e2, p2, q2⟩ := one_ s hs a1 d1 4 (by omega) (by omega)
      obtain ⟨r, a', d', er, hr, hSr, pr, qr⟩ := step b a2 d2 p2 q2 (fun _ => hpos)
      exact ⟨r, a', d', Ev.step (fun _ => spec_l1Cur_tier.l0.eq_2 ..) (Ev.pos (by omega) (Ev.have e1 (Ev.pos (by omega) (Ev.have e2 er)))), hr, hSr, pr, qr⟩
    · obtain ⟨r, a', d', er, hr, hSr, pr, qr⟩ := step false a1 d1 (by omega) (by omega) (fun h => (nomatch h))
      exact ⟨r, a', d', Ev.step (fun _ => spec_l1Cur_tier.l0.eq_2 ..) (Ev.pos (by omega) (Ev.have e1 (Ev.neg (by omega) er))), hr, hSr, pr, qr⟩
/-- A drawn tier: at most 41 notes with short texts. -/
theorem tier_ (s : List Int) (hs : Bytes s) (a d : Int) (h0 : 0 ≤ a) (h1 : a ≤ 1000000000) : ∃ r a' d', Ev (fun k => spec_l1Cur_tier.f k s a d) (r, a', d') ∧ r.length ≤ 60 ∧ Short r ∧ a ≤ a' ∧ a' ≤ a + 2000 := by
  obtain ⟨v1, a1, d1, e1, _, _, _, p1, q1⟩ := pick_ s hs a d 10 h0 (by omega)
  obtain ⟨v2, a2, d2, e2, v20, _, v21, p2, q2⟩ := pick_ s hs a1 d1 8 (by omega) (by omega)
  obtain ⟨b, a3, d3, e3, p3, q3⟩ := one_ s hs a2 d2 12 (by omega) (by omega)
  have hv2 := v21 (by omega)
  have go : ∀ (m a4 d4 : Int), 0 ≤ m → m ≤ 60 → a ≤ a4 → a4 ≤ a + 10 → ∃ r a' d', Ev (fun k => spec_l1Cur_tier.j0 k [] v1 m s a4 d4) (r, a', d') ∧ r.length ≤ 60 ∧ Short r ∧ a ≤ a' ∧ a' ≤ a + 2000 := by
    intro m a4 d4 hm0 hm pa qa
    obtain ⟨r, a', d', er, hr, hSr, pr, qr⟩ := tier_loop s hs m.toNat [] v1 m a4 d4 (by simp) hm (fun x hx => (nomatch hx)) (by omega) (by omega)
    exact ⟨r, a', d', Ev.step (fun _ => spec_l1Cur_tier.j0.eq_2 ..) er, by have : ([] : List NI).length = 0 := rfl; omega, hSr, by omega, by omega⟩
  cases b with
  | true =>
    obtain ⟨v4, a4, d4, e4, v40, _, v41, p4, q4⟩ := pick_ s hs a3 d3 2 (by omega) (by omega)
    have hv4 := v41 (by omega)
    obtain ⟨r, a', d', er, hr, hSr, pr, qr⟩ := go (wrap64 (40 + v4)) a4 d4 (by rw [wrap_in (by omega) (by omega)]; omega) (by rw [wrap_in (by omega) (by omega)]; omega) (by omega) (by omega)
    refine ⟨r, a', d', ?_, hr, hSr, pr, qr⟩
    unfold spec_l1Cur_tier.f
    exact Ev.have e1 (Ev.have e2 (Ev.have e3 (Ev.pos rfl (Ev.have e4 er))))
  | false =>
    obtain ⟨r, a', d', er, hr, hSr, pr, qr⟩ := go v2 a3 d3 v20 (by omega) (by omega) (by omega)
    refine ⟨r, a', d', ?_, hr, hSr, pr, qr⟩
    unfold spec_l1Cur_tier.f
    exact Ev.have e1 (Ev.have e2 (Ev.have e3 (Ev.neg (show ¬ false = true by decide) er)))
end Go.Proofs.Ytgapcmmhbegdeaa.MDrawT
end
section
/- Drawn windows and pairs of tiers: every draw answers with notes that are sized. No condition. -/
namespace Go.Proofs.Ytgapcmmhbegdeaa.MDrawW
open Go.RowKit Go.Proofs.Ytgapcmmhbegdeaa.G Go.Proofs.YtgapcmmhbegdeaaW.PrintWords Go.Proofs.YtgapcmmhbegdeaaW.PrintLast Go.Proofs.Ytgapcmmhbegdeaa.MPure Go.Proofs.Ytgapcmmhbegdeaa.MWord Go.Proofs.Ytgapcmmhbegdeaa.MNote Go.Proofs.Ytgapcmmhbegdeaa.MDraw Go.Proofs.Ytgapcmmhbegdeaa.MDrawT

theorem window_ (s : List Int) (hs : Bytes s) (a d : Int) (h0 : 0 ≤ a) (h1 : a ≤ 100000000000) : ∃ x y a' d', spec_l1Cur_window.f s a d = some (x, y, a', d') ∧ a ≤ a' ∧ a' ≤ a + 10 := by
  obtain ⟨v1, a1, d1, e1, -, -, -, p1, q1⟩ := pick_ s hs a d 40 h0 (by omega)
  obtain ⟨v2, a2, d2, e2, -, p2, q2⟩ := among_ s hs a1 d1 [0, 0, 5, 10, v1] (by simp) (by omega) (by omega)
  obtain ⟨v3, a3, d3, e3, -, p3, q3⟩ := among_ s hs a2 d2 [10, 20, 40, 1, 60] (by simp) (by omega) (by omega)
  obtain ⟨v4, a4, d4, e4, -, -, -, p4, q4⟩ := pick_ s hs a3 d3 24 (by omega) (by omega)
  obtain ⟨u1, b1, c1, f1, -, r1, t1⟩ := among_ s hs a4 d4 [200, 201, 0, (-1)] (by simp) (by omega) (by omega)
  obtain ⟨u2, b2, c2, f2, -, r2, t2⟩ := among_ s hs a4 d4 [(-1), 99998, (-9223372036854775808)] (by simp) (by omega) (by omega)
  obtain ⟨u3, b3, c3, f3, -, r3, t3⟩ := among_ s hs a4 d4 [99999, 100000, 9223372036854775807] (by simp) (by omega) (by omega)
  unfold spec_l1Cur_window.f
  rw [e1]; simp only [Option.bind_some]; rw [e2]; simp only [Option.bind_some]; rw [e3]; simp only [Option.bind_some]; rw [e4]; simp only [Option.bind_some]; rw [f1, f2, f3]; simp only [Option.bind_some]
  split
  · exact ⟨_, _, _, _, rfl, by show a ≤ b1; omega, by show b1 ≤ a + 10; omega⟩
  · split
    · exact ⟨_, _, _, _, rfl, by show a ≤ b2; omega, by show b2 ≤ a + 10; omega⟩
    · split
      · exact ⟨_, _, _, _, rfl, by show a ≤ b3; omega, by show b3 ≤ a + 10; omega⟩
      · exact ⟨_, _, _, _, rfl, by show a ≤ a4; omega, by show a4 ≤ a + 10; omega⟩
theorem gloss_ (s : List Int) (hs : Bytes s) (a d : Int) (h0 : 0 ≤ a) (h1 : a ≤ 100000000000) : ∃ g a' d', spec_l1Cur_gloss.f s a d = some (g, a', d') ∧ g.size ≤ 100 ∧ a ≤ a' ∧ a' ≤ a + 2 := by
  obtain ⟨v1, a1, d1, e1, m1, p1, q1⟩ := of_ s hs a d [(⟨#[83, 85, 78]⟩ : ByteArray), (⟨#[72, 79, 85, 83, 69]⟩ : ByteArray), (⟨#[84, 82, 69, 69]⟩ : ByteArray), (⟨#[82, 65, 73, 78]⟩ : ByteArray), (⟨#[66, 79, 79, 75]⟩ : ByteArray), (⟨#[69, 73, 71, 72, 84, 76, 69, 84]⟩ : ByteArray)] (by decide) h0 (by omega)
  have hg : v1.size ≤ 100 := by
    simp only [List.mem_cons, List.not_mem_nil, or_false] at m1
    rcases m1 with rfl | rfl | rfl | rfl | rfl | rfl <;> decide
  unfold spec_l1Cur_gloss.f
  rw [e1]
  exact ⟨_, _, _, rfl, hg, p1, q1⟩
theorem Short.set {l : List NI} (h : Short l) (i : Nat) {x : NI} (hx : x.f2.size ≤ 100) : Short (l.set i x) := fun y hy => by
  rcases List.mem_or_eq_of_mem_set hy with hy | rfl
  · exact h y hy
  · exact hx
theorem rd_mem (s : List NI) (n : Int) (h0 : 0 ≤ n) (h : n < (s.length : Int)) : rd_T58 s n ∈ s := by
  show s.getD n.toNat z58 ∈ s
  rw [List.getD_eq_getElem?_getD, List.getElem?_eq_getElem (show n.toNat < s.length by omega)]
  exact List.getElem_mem _
theorem two_loop (s : List Int) (hs : Bytes s) (x : List NI) (L : Nat) (hL : L ≤ 60) : ∀ (n i : Nat) (y : List NI) (a d : Int), i + n = L → y.length = L → Short y → 0 ≤ a → a + 20 * n ≤ 10000000000 → ∃ r a' d', Ev (fun k => spec_l1Cur_twoTiers.l0 k x y (L : Int) (i : Int) s a d) (x, r, a', d') ∧ r.length ≤ 60 ∧ Short r ∧ a ≤ a' ∧ a' ≤ a + 20 * n + 10 := by
  intro n
  induction n with
  | zero =>
    intro i y a d hi hl hS h0 h1
    by_cases hp : (y.length : Int) > 0
    · obtain ⟨b, a1, d1, e1, p1, q1⟩ := one_ s hs a d 4 h0 (by omega)
      cases b with
      | true => exact ⟨y.drop 1, a1, d1, Ev.step (fun _ => spec_l1Cur_twoTiers.l0.eq_2 ..) (Ev.neg (by omega) (Ev.pos hp (Ev.have e1 (Ev.pos rfl (Ev.pos (by omega) (Ev.some rfl)))))), by rw [List.length_drop]; omega, fun z hz => hS z (List.mem_of_mem_drop hz), by omega, by omega⟩
      | false => exact ⟨y, a1, d1, Ev.step (fun _ => spec_l1Cur_twoTiers.l0.eq_2 ..) (Ev.neg (by omega) (Ev.pos hp (Ev.have e1 (Ev.neg (show ¬ false = true by decide) (Ev.some rfl))))), by omega, hS, by omega, by omega⟩
    · exact ⟨y, a, d, Ev.step (fun _ => spec_l1Cur_twoTiers.l0.eq_2 ..) (Ev.neg (by omega) (Ev.neg hp (Ev.some rfl))), by omega, hS, by omega, by omega⟩
  | succ n ih =>
    intro i y a d hi hl hS h0 h1
    have hw : wrap64 ((i : Int) + 1) = ((i + 1 : Nat) : Int) := wrap_succ (by omega)
    have hm := hS _ (rd_mem y (i : Int) (by omega) (by omega))
    obtain ⟨v, a1, d1, e1, -, -, -, p1, q1⟩ := pick_ s hs a d 5 h0 (by omega)
    have next : ∀ (z : NI) (a2 d2 : Int), z.f2.size ≤ 100 → a1 ≤ a2 → a2 ≤ a1 + 4 → ∃ r a' d', Ev (fun k => spec_l1Cur_twoTiers.l0 k x (y.set (i : Int).toNat z) (L : Int) (wrap64 ((i : Int) + 1)) s a2 d2) (x, r, a', d') ∧ r.length ≤ 60 ∧ Short r ∧ a ≤ a' ∧ a' ≤ a + 20 * ((n + 1 : Nat) : Int) + 10 := by
      intro z a2 d2 hz pa qa
      obtain ⟨r, a', d', er, hr, hSr, pr, qr⟩ := ih (i + 1) (y.set (i : Int).toNat z) a2 d2 (by omega) (by rw [List.length_set]; exact hl) (Short.set hS _ hz) (by omega) (by omega)
      rw [hw]
      exact ⟨r, a', d', er, hr, hSr, by omega, by omega⟩
    have lead : ∀ {r a' d'}, Ev (fun k => if v = 0 then ((spec_l1Cur_gloss.f s a1 d1).bind fun bt131 => (spec_l1Cur_twoTiers.l0 k x (y.set (i : Int).toNat (⟨(rd_T58 y (i : Int)).f0, (rd_T58 y (i : Int)).f1, bt131.1⟩ : NI)) (L : Int) (wrap64 ((i : Int) + 1)) s bt131.2.1 bt131.2.2)) else (if v = 1 then ((spec_l1Cur_pick.f s a1 d1 3).bind fun bt135 => ((spec_l1Most.f (wrap64 (((rd_T58 y (i : Int)).f0) + 1)) (wrap64 (((rd_T58 y (i : Int)).f1) - bt135.1))).bind fun t138 => (spec_l1Cur_twoTiers.l0 k x (y.set (i : Int).toNat (⟨(rd_T58 y (i : Int)).f0, t138, (rd_T58 y (i : Int)).f2⟩ : NI)) (L : Int) (wrap64 ((i : Int) + 1)) s bt135.2.1 bt135.2.2))) else (if v = 2 then ((spec_l1Cur_pick.f s a1 d1 3).bind fun bt140 => ((spec_l1Least.f (wrap64 (((rd_T58 y (i : Int)).f1) - 1)) (wrap64 (((rd_T58 y (i : Int)).f0) + bt140.1))).bind fun t143 => (spec_l1Cur_twoTiers.l0 k x (y.set (i : Int).toNat (⟨t143, (rd_T58 y (i : Int)).f1, (rd_T58 y (i : Int)).f2⟩ : NI)) (L : Int) (wrap64 ((i : Int) + 1)) s bt140.2.1 bt140.2.2))) else (spec_l1Cur_twoTiers.l0 k x (y.set (i : Int).toNat (⟨(rd_T58 y (i : Int)).f0, (rd_T58 y (i : Int)).f1, (rd_T58 y (i : Int)).f2⟩ : NI)) (L : Int) (wrap64 ((i : Int) + 1)) s a1 d1)))) (x, r, a', d') → Ev (fun k => spec_l1Cur_twoTiers.l0 k x y (L : Int) (i : Int) s a d) (x, r, a', d') := fun h => Ev.step (fun _ => spec_l1Cur_twoTiers.l0.eq_2 ..) (Ev.pos (by omega) (Ev.pos (by omega) (Ev.pos (by omega) (Ev.have e1 h))))
    by_cases c0 : v = 0
    · obtain ⟨g, a2, d2, e2, hg, p2, q2⟩ := gloss_ s hs a1 d1 (by omega) (by omega)
      obtain ⟨r, a', d', er, hr, hSr, pr, qr⟩ := next ⟨(rd_T58 y (i : Int)).f0, (rd_T58 y (i : Int)).f1, g⟩ a2 d2 hg p2 (by omega)
      exact ⟨r, a', d', lead (Ev.pos c0 (Ev.have e2 er)), hr, hSr, pr, qr⟩
    · obtain ⟨u, a2, d2, e2, -, -, -, p2, q2⟩ := pick_ s hs a1 d1 3 (by omega) (by omega)
      by_cases c1 : v = 1
      · obtain ⟨t, et⟩ := most_ (wrap64 (((rd_T58 y (i : Int)).f0) + 1)) (wrap64 (((rd_T58 y (i : Int)).f1) - u))
        obtain ⟨r, a', d', er, hr, hSr, pr, qr⟩ := next ⟨(rd_T58 y (i : Int)).f0, t, (rd_T58 y (i : Int)).f2⟩ a2 d2 hm p2 (by omega)
        exact ⟨r, a', d', lead (Ev.neg c0 (Ev.pos c1 (Ev.have e2 (Ev.have et er)))), hr, hSr, pr, qr⟩
      · by_cases c2 : v = 2
        · obtain ⟨t, et⟩ := least_ (wrap64 (((rd_T58 y (i : Int)).f1) - 1)) (wrap64 (((rd_T58 y (i : Int)).f0) + u))
          obtain ⟨r, a', d', er, hr, hSr, pr, qr⟩ := next ⟨t, (rd_T58 y (i : Int)).f1, (rd_T58 y (i : Int)).f2⟩ a2 d2 hm p2 (by omega)
          exact ⟨r, a', d', lead (Ev.neg c0 (Ev.neg c1 (Ev.pos c2 (Ev.have e2 (Ev.have et er))))), hr, hSr, pr, qr⟩
        · obtain ⟨r, a', d', er, hr, hSr, pr, qr⟩ := next ⟨(rd_T58 y (i : Int)).f0, (rd_T58 y (i : Int)).f1, (rd_T58 y (i : Int)).f2⟩ a1 d1 hm (by omega) (by omega)
          exact ⟨r, a', d', lead (Ev.neg c0 (Ev.neg c1 (Ev.neg c2 er))), hr, hSr, pr, qr⟩
theorem twoTiers_ (s : List Int) (hs : Bytes s) (a d : Int) (h0 : 0 ≤ a) (h1 : a ≤ 1000000) : ∃ x y a' d', Ev (fun k => spec_l1Cur_twoTiers.f k s a d) (x, y, a', d') ∧ x.length ≤ 60 ∧ Short x ∧ y.length ≤ 60 ∧ Short y ∧ a ≤ a' ∧ a' ≤ a + 10000 := by
  obtain ⟨x, a1, d1, e1, hl, hS, p1, q1⟩ := tier_ s hs a d h0 (by omega)
  obtain ⟨b, a2, d2, e2, p2, q2⟩ := one_ s hs a1 d1 3 (by omega) (by omega)
  unfold spec_l1Cur_twoTiers.f
  cases b with
  | true =>
    obtain ⟨y, a3, d3, e3, hl3, hS3, p3, q3⟩ := tier_ s hs a2 d2 (by omega) (by omega)
    exact ⟨x, y, a3, d3, Ev.bind e1 (Ev.have e2 (Ev.pos rfl (Ev.bind e3 (Ev.some rfl)))), hl, hS, hl3, hS3, by omega, by omega⟩
  | false =>
    obtain ⟨y, a3, d3, e3, hl3, hS3, p3, q3⟩ := two_loop s hs x x.length hl x.length 0 x a2 d2 (by omega) rfl hS (by omega) (by omega)
    refine ⟨x, y, a3, d3, Ev.bind e1 (Ev.have e2 (Ev.neg (show ¬ false = true by decide) (Ev.have rfl (Ev.pos ?_ (Ev.have rfl ?_))))), hl, hS, hl3, hS3, by omega, by omega⟩
    · show ([] : List NI).length + x.length < 4398046511104
      simp; omega
    · rw [List.nil_append]
      exact e3
end Go.Proofs.Ytgapcmmhbegdeaa.MDrawW
end
section
/- What DisagreedSpans answers, of the reference and of the program, and what is known of it. No condition. -/
namespace Go.Proofs.Ytgapcmmhbegdeaa.MSpans
open Go.RowKit Go.Proofs.Ytgapcmmhbegdeaa.G Go.Proofs.YtgapcmmhbegdeaaW.PrintWords Go.Proofs.YtgapcmmhbegdeaaW.PrintLast Go.Proofs.Ytgapcmmhbegdeaa.MPure Go.Proofs.Ytgapcmmhbegdeaa.MWord Go.Proofs.Ytgapcmmhbegdeaa.MNote Go.Proofs.Ytgapcmmhbegdeaa.MCut Go.Proofs.Ytgapcmmhbegdeaa.MWin Go.Proofs.Ytgapcmmhbegdeaa.MAt0 Go.Proofs.Ytgapcmmhbegdeaa.MGloss Go.Proofs.Ytgapcmmhbegdeaa.MSame

abbrev DI := S96
/-- What ties the reference's flag to the program's last span. -/
def rowI (s : List DI) (row : Bool) (a : Int) : Prop := (s.length = 0 → row = false) ∧ (0 < s.length → (rd_T96 s ((s.length - 1 : Nat) : Int)).f1 ≤ a ∧ (row = true ↔ (rd_T96 s ((s.length - 1 : Nat) : Int)).f1 = a))
theorem rd_end (s : List DI) (v : DI) : rd_T96 (s ++ [v]) (((s ++ [v]).length - 1 : Nat) : Int) = v := by
  have e : (s ++ [v]).length - 1 = s.length := by simp
  rw [e]
  show (s ++ [v]).getD s.length z96 = v
  rw [List.getD_eq_getElem?_getD, List.getElem?_append_right (Nat.le_refl _), Nat.sub_self]
  rfl
/-- The frames in the spans. -/
def tot : List DI → Int
  | [] => 0
  | v :: s => (v.f1 - v.f0) + tot s
theorem tot_snoc (v : DI) : ∀ s : List DI, tot (s ++ [v]) = tot s + (v.f1 - v.f0)
  | [] => by show (v.f1 - v.f0) + 0 = 0 + (v.f1 - v.f0); omega
  | u :: s => by show (u.f1 - u.f0) + tot (s ++ [v]) = (u.f1 - u.f0) + tot s + (v.f1 - v.f0); rw [tot_snoc v s]; omega
def spAt (s : List DI) (i : Nat) : DI := rd_T96 s (i : Int)
theorem spAt_lt {s : List DI} {v : DI} {i : Nat} (h : i < s.length) : spAt (s ++ [v]) i = spAt s i := by
  show (s ++ [v]).getD i z96 = s.getD i z96
  rw [List.getD_eq_getElem?_getD, List.getD_eq_getElem?_getD, List.getElem?_append_left h]
theorem spAt_end (s : List DI) (v : DI) : spAt (s ++ [v]) s.length = v := by
  show (s ++ [v]).getD s.length z96 = v
  rw [List.getD_eq_getElem?_getD, List.getElem?_append_right (Nat.le_refl _), Nat.sub_self]
  rfl
/-- In order, apart from each other, none behind frame a. -/
def Fine (s : List DI) (a : Int) : Prop := ∀ i, i < s.length → 0 ≤ (spAt s i).f0 ∧ (spAt s i).f0 < (spAt s i).f1 ∧ (spAt s i).f1 ≤ a ∧ (0 < i → (spAt s (i - 1)).f1 < (spAt s i).f0)
theorem Fine.mono {s : List DI} {a b : Int} (h : Fine s a) (hab : a ≤ b) : Fine s b := fun i hi => by
  obtain ⟨h1, h2, h3, h4⟩ := h i hi
  exact ⟨h1, h2, by omega, h4⟩
theorem Fine.snoc {s : List DI} {a : Int} (h : Fine s a) {v : DI} (h0 : 0 ≤ v.f0) (h1 : v.f0 < v.f1) (h2 : v.f1 ≤ a + 1) (hl : 0 < s.length → (spAt s (s.length - 1)).f1 < v.f0) : Fine (s ++ [v]) (a + 1) := fun i hi => by
  rw [List.length_append, List.length_singleton] at hi
  by_cases hlt : i < s.length
  · rw [spAt_lt hlt, spAt_lt (show i - 1 < s.length by omega)]
    exact (h.mono (by omega)) i hlt
  · obtain rfl : i = s.length := by omega
    rw [spAt_end]
    refine ⟨h0, h1, h2, fun hp => ?_⟩
    rw [spAt_lt (by omega)]
    exact hl hp
theorem Fine.front {s : List DI} {a : Int} {v : DI} (h : Fine (s ++ [v]) a) : Fine s a ∧ 0 ≤ v.f0 ∧ v.f0 < v.f1 ∧ v.f1 ≤ a ∧ (0 < s.length → (spAt s (s.length - 1)).f1 < v.f0) := by
  refine ⟨fun i hi => ?_, ?_⟩
  · have := h i (by rw [List.length_append]; omega)
    rw [spAt_lt hi, spAt_lt (show i - 1 < s.length by omega)] at this
    exact this
  · have := h s.length (by rw [List.length_append, List.length_singleton]; omega)
    rw [spAt_end] at this
    obtain ⟨h1, h2, h3, h4⟩ := this
    refine ⟨h1, h2, h3, fun hp => ?_⟩
    have h5 := h4 hp
    rw [spAt_lt (by omega)] at h5
    exact h5
theorem snoc_of {s : List DI} (h : 0 < s.length) : ∃ p v, s = p ++ [v] := ⟨s.dropLast, s.getLast (by intro e; rw [e] at h; exact absurd h (by decide)), (List.dropLast_concat_getLast _).symm⟩
theorem set_end (p : List DI) (v u : DI) : (p ++ [v]).set ((p ++ [v]).length - 1) u = p ++ [u] := by
  rw [List.length_append, List.length_singleton, Nat.add_sub_cancel, List.set_append_right _ _ (Nat.le_refl _), Nat.sub_self]
  rfl
theorem rd_setD (xs : List DI) (i : Nat) (v : DI) (h : i < xs.length) : rd_T96 (xs.set i v) (i : Int) = v := by
  show (xs.set i v).getD i z96 = v
  rw [List.getD_eq_getElem?_getD, List.getElem?_set_self h]
  rfl
theorem row_loops (x y : List NI) (hx : Sized x) (hy : Sized y) (tx : tierB x = true) (ty : tierB y = true) (b : Int) (hb : b ≤ 99999) : ∀ (d : Nat) (a : Int) (s : List DI) (row : Bool), a + d = b → 0 ≤ a → s.length + d ≤ 200 → rowI s row a → Fine s a → ∃ r : List DI, r.length ≤ 200 ∧ Fine r b ∧ tot r + sameN x y d a = tot s + d ∧ Ev (fun k => spec_DisagreedSpans.l0 k x y b s row a) (r, true) ∧ Ev (fun k => impl_DisagreedSpans.l0 k x y b s a) (r, true) := by
  intro d
  induction d with
  | zero =>
    intro a s row hd ha hs _ hF
    have e0 : sameN x y 0 a = 0 := rfl
    exact ⟨s, by omega, hF.mono (by omega), by rw [e0]; omega, Ev.step (fun _ => spec_DisagreedSpans.l0.eq_2 ..) (Ev.neg (by omega) (Ev.some rfl)), Ev.step (fun _ => impl_DisagreedSpans.l0.eq_2 ..) (Ev.neg (by omega) (Ev.some rfl))⟩
  | succ d ih =>
    intro a s row hd ha hs hi hF
    have hw := wrap_step (x := a) (by omega) (by omega)
    have es : sameN x y (d + 1) a = (if (glossB x a).toList = (glossB y a).toList then 1 else 0) + sameN x y d (a + 1) := rfl
    by_cases he : (glossB x a).toList = (glossB y a).toList
    · have hb : ((glossB x a).toList != (glossB y a).toList) = false := by rw [he]; simp
      obtain ⟨r, hr, hr1, hr2, h1, h2⟩ := ih (a + 1) s false (by omega) (by omega) (by omega) ⟨fun _ => rfl, fun h => by
        have := (hi.2 h).1
        refine ⟨by omega, ⟨(nomatch ·), fun _ => by omega⟩⟩⟩ (hF.mono (by omega))
      rw [if_pos he] at es
      rw [← hw] at h1 h2
      refine ⟨r, hr, hr1, by rw [es]; omega, Ev.step (fun _ => spec_DisagreedSpans.l0.eq_2 ..) (Ev.pos (by omega) (Ev.bind (agGloss_ x hx a) (Ev.bind (agGloss_ y hy a) (Ev.pos he ?_)))), Ev.step (fun _ => impl_DisagreedSpans.l0.eq_2 ..) (Ev.pos (by omega) (Ev.have (glossAt_ x tx a) (Ev.have (glossAt_ y ty a) (Ev.pos he h2))))⟩
      rw [hb]
      exact Ev.step (fun _ => spec_DisagreedSpans.j1.eq_2 ..) (Ev.neg (by decide) (Ev.neg (by decide) h1))
    · have hb : ((glossB x a).toList != (glossB y a).toList) = true := by simpa using he
      rw [if_neg he] at es
      cases row with
      | true =>
        have hpos : 0 < s.length := Nat.pos_of_ne_zero (fun h => nomatch hi.1 h)
        have hl := (hi.2 hpos).2.1 rfl
        have hp := wrap_pred (i := s.length) hpos (by omega)
        have hn : ((s.length - 1 : Nat) : Int).toNat = s.length - 1 := rfl
        have hrd := rd_setD s (s.length - 1) ⟨(rd_T96 s ((s.length - 1 : Nat) : Int)).f0, a + 1⟩ (by omega)
        have hF2 : Fine (s.set (s.length - 1) ⟨(rd_T96 s ((s.length - 1 : Nat) : Int)).f0, a + 1⟩) (a + 1) ∧ tot (s.set (s.length - 1) ⟨(rd_T96 s ((s.length - 1 : Nat) : Int)).f0, a + 1⟩) = tot s + 1 := by
          obtain ⟨p, v, rfl⟩ := snoc_of hpos
          obtain ⟨f1, f2, f3, f4, f5⟩ := hF.front
          have e1 : rd_T96 (p ++ [v]) (((p ++ [v]).length - 1 : Nat) : Int) = v := rd_end p v
          rw [e1] at hl
          rw [e1, set_end, tot_snoc, tot_snoc]
          refine ⟨f1.snoc f2 (by show v.f0 < a + 1; omega) (Int.le_refl _) f5, ?_⟩
          show tot p + (a + 1 - v.f0) = tot p + (v.f1 - v.f0) + 1
          omega
        obtain ⟨r, hr, hr1, hr2, h1, h2⟩ := ih (a + 1) (s.set (s.length - 1) ⟨(rd_T96 s ((s.length - 1 : Nat) : Int)).f0, a + 1⟩) true (by omega) (by omega) (by rw [List.length_set]; omega) ⟨fun h => by rw [List.length_set] at h; omega, fun _ => by
          rw [List.length_set, hrd]
          exact ⟨Int.le_refl _, ⟨fun _ => rfl, fun _ => rfl⟩⟩⟩ hF2.1
        have hF3 := hF2.2
        refine ⟨r, hr, hr1, by rw [es]; omega, Ev.step (fun _ => spec_DisagreedSpans.l0.eq_2 ..) (Ev.pos (by omega) (Ev.bind (agGloss_ x hx a) (Ev.bind (agGloss_ y hy a) (Ev.neg he ?_)))), Ev.step (fun _ => impl_DisagreedSpans.l0.eq_2 ..) (Ev.pos (by omega) (Ev.have (glossAt_ x tx a) (Ev.have (glossAt_ y ty a) (Ev.neg he ?_))))⟩
        · rw [hb]
          refine Ev.step (fun _ => spec_DisagreedSpans.j1.eq_2 ..) (Ev.pos rfl ?_)
          rw [hp, hn, hw]
          exact Ev.pos (by omega) (Ev.pos (by omega) h1)
        · rw [hp, hn, hl, hw]
          exact Ev.pos (by omega) (Ev.pos (by omega) (Ev.pos (by omega) (Ev.pos rfl h2)))
      | false =>
        have hF2 : Fine (s ++ [⟨a, a + 1⟩]) (a + 1) := hF.snoc ha (by show a < a + 1; omega) (Int.le_refl _) (fun hp => by
          have h3 := hi.2 hp
          have h4 : ¬ (rd_T96 s ((s.length - 1 : Nat) : Int)).f1 = a := fun e => nomatch h3.2.2 e
          show (rd_T96 s ((s.length - 1 : Nat) : Int)).f1 < a
          omega)
        have hF3 : tot (s ++ [⟨a, a + 1⟩]) = tot s + 1 := by
          rw [tot_snoc]
          show tot s + (a + 1 - a) = tot s + 1
          omega
        obtain ⟨r, hr, hr1, hr2, h1, h2⟩ := ih (a + 1) (s ++ [⟨a, a + 1⟩]) true (by omega) (by omega) (by simp; omega) ⟨fun h => by simp at h, fun _ => by
          rw [rd_end]
          exact ⟨Int.le_refl _, ⟨fun _ => rfl, fun _ => rfl⟩⟩⟩ hF2
        refine ⟨r, hr, hr1, by rw [es]; omega, Ev.step (fun _ => spec_DisagreedSpans.l0.eq_2 ..) (Ev.pos (by omega) (Ev.bind (agGloss_ x hx a) (Ev.bind (agGloss_ y hy a) (Ev.neg he ?_)))), Ev.step (fun _ => impl_DisagreedSpans.l0.eq_2 ..) (Ev.pos (by omega) (Ev.have (glossAt_ x tx a) (Ev.have (glossAt_ y ty a) (Ev.neg he ?_))))⟩
        · rw [hb]
          exact Ev.step (fun _ => spec_DisagreedSpans.j1.eq_2 ..) (Ev.neg (by decide) (Ev.pos rfl (Ev.pos (by omega) (by rw [hw]; exact h1))))
        · rw [hw]
          by_cases hpos : 0 < s.length
          · have hp := wrap_pred (i := s.length) hpos (by omega)
            rw [hp]
            refine Ev.pos (by omega) (Ev.pos (by omega) (Ev.pos (by omega) (Ev.neg ?_ (Ev.pos (by omega) h2))))
            exact fun h => nomatch (hi.2 hpos).2.2 h
          · have : s.length = 0 := by omega
            rw [this]
            exact Ev.neg (by unfold wrap64; omega) (Ev.pos (by omega) h2)
theorem Disagreed_both (x y : List NI) (hx : Sized x) (hy : Sized y) (a b : Int) : ∃ r : List DI × Bool, r.1.length ≤ 200 ∧ Ev (fun k => spec_DisagreedSpans.f k x y a b) r ∧ Ev (fun k => impl_DisagreedSpans.f k x y a b) r ∧ r.2 = (tierB x && tierB y && windowB a b) ∧ ((tierB x && tierB y && windowB a b) = true → Fine r.1 b ∧ tot r.1 + sameN x y (b - a).toNat a = ((b - a).toNat : Int)) := by
  unfold spec_DisagreedSpans.f impl_DisagreedSpans.f
  have hs := agAsked_ x y hx hy a b
  cases h1 : tierB x with
  | false => exact ⟨([], false), Nat.zero_le _, Ev.bind (Ev.eq (r := false) hs (by simp [h1])) (Ev.neg (by decide) (Ev.some rfl)), Ev.bind (Ev.eq (IsTier_ x hx) h1) (Ev.neg (by decide) (Ev.step (fun _ => impl_DisagreedSpans.j0.eq_2 ..) (Ev.pos rfl (Ev.some rfl)))), rfl, (nomatch ·)⟩
  | true =>
    cases h2 : tierB y with
    | false => exact ⟨([], false), Nat.zero_le _, Ev.bind (Ev.eq (r := false) hs (by simp [h2])) (Ev.neg (by decide) (Ev.some rfl)), Ev.bind (Ev.eq (IsTier_ x hx) h1) (Ev.pos rfl (Ev.bind (Ev.eq (IsTier_ y hy) h2) (Ev.neg (by decide) (Ev.step (fun _ => impl_DisagreedSpans.j0.eq_2 ..) (Ev.pos rfl (Ev.some rfl)))))), rfl, (nomatch ·)⟩
    | true =>
      cases h3 : windowB a b with
      | false => exact ⟨([], false), Nat.zero_le _, Ev.bind (Ev.eq (r := false) hs (by simp [h3])) (Ev.neg (by decide) (Ev.some rfl)), Ev.bind (Ev.eq (IsTier_ x hx) h1) (Ev.pos rfl (Ev.bind (Ev.eq (IsTier_ y hy) h2) (Ev.pos rfl (Ev.have ((isWindow_ a b).trans (congrArg some h3)) (Ev.step (fun _ => impl_DisagreedSpans.j0.eq_2 ..) (Ev.pos rfl (Ev.some rfl))))))), rfl, (nomatch ·)⟩
      | true =>
        have hw := windowB_in h3
        obtain ⟨r, hl, hf, ht, hr, hq⟩ := row_loops x y hx hy h1 h2 b (by omega) (b - a).toNat a [] false (by omega) (by omega) (by simp; omega) ⟨fun _ => rfl, fun h => absurd h (by simp)⟩ (fun i hi => absurd hi (by simp))
        exact ⟨(r, true), hl, Ev.bind (Ev.eq (r := true) hs (by simp [h1, h2, h3])) (Ev.pos rfl hr), Ev.bind (Ev.eq (IsTier_ x hx) h1) (Ev.pos rfl (Ev.bind (Ev.eq (IsTier_ y hy) h2) (Ev.pos rfl (Ev.have ((isWindow_ a b).trans (congrArg some h3)) (Ev.step (fun _ => impl_DisagreedSpans.j0.eq_2 ..) (Ev.neg (by decide) hq)))))), rfl, fun _ => ⟨hf, by rw [ht]; show (0 : Int) + _ = _; omega⟩⟩
end Go.Proofs.Ytgapcmmhbegdeaa.MSpans
end
