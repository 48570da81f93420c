/- Plain laws of the functions that the claim's functions call: what they compute, with no program in sight. No condition. -/
import Derived.Test.YtgapcmmhbegdeaaWAll
import Derived.Lib.Bytealg
import Derived.Test.YtgapcmmhbegdeaaG1
import Derived.Test.YtgapcmmhbegdeaaG7
import Derived.Test.YtgapcmmhbegdeaaG0
import Derived.Test.YtgapcmmhbegdeaaG3
import Derived.Test.YtgapcmmhbegdeaaG4
import Derived.Test.YtgapcmmhbegdeaaG6
import Derived.Test.YtgapcmmhbegdeaaG8
import Derived.Test.YtgapcmmhbegdeaaG32
import Derived.Test.YtgapcmmhbegdeaaG34
import Derived.Test.YtgapcmmhbegdeaaMBase
import Derived.Test.YtgapcmmhbegdeaaG10
import Derived.Test.YtgapcmmhbegdeaaG81
import Derived.Test.YtgapcmmhbegdeaaG43
import Derived.Test.YtgapcmmhbegdeaaG44
import Derived.Test.YtgapcmmhbegdeaaG45
import Derived.Test.YtgapcmmhbegdeaaG77
import Derived.Test.YtgapcmmhbegdeaaG78
import Derived.Test.YtgapcmmhbegdeaaG79
import Derived.Test.YtgapcmmhbegdeaaG76
import Derived.Test.YtgapcmmhbegdeaaG73
import Derived.Test.YtgapcmmhbegdeaaG74
import Derived.Test.YtgapcmmhbegdeaaG75
import Derived.Test.YtgapcmmhbegdeaaG13
import Derived.Test.YtgapcmmhbegdeaaG14
section
/- Plain lemmas on rounds, lists and numbers, for the laws' pure statements: no program in sight. -/
namespace Go.Proofs.Ytgapcmmhbegdeaa.MPure
open Go.RowKit Go.Proofs.YtgapcmmhbegdeaaW.PrintWords Go.Proofs.YtgapcmmhbegdeaaW.PrintLast

theorem Ev.pos {α : Type} {c : Prop} [Decidable c] {f g : Nat → Option α} {r : α} (h : c) (k : Ev f r) : Ev (fun n => if c then f n else g n) r := by
  simpa only [if_pos h] using k
theorem Ev.neg {α : Type} {c : Prop} [Decidable c] {f g : Nat → Option α} {r : α} (h : ¬ c) (k : Ev g r) : Ev (fun n => if c then f n else g n) r := by
  simpa only [if_neg h] using k
theorem Ev.some {α : Type} {a r : α} (h : a = r) : Ev (fun _ => Option.some a) r := h ▸ Ev.now a
theorem Ev.have {α β : Type} {a : Option α} {x : α} {f : Nat → α → Option β} {r : β} (h : a = .some x) (k : Ev (fun n => f n x) r) : Ev (fun n => a.bind (f n)) r := by
  subst h
  exact k
theorem Ev.ite {α : Type} {c : Prop} [Decidable c] {f g : Nat → Option α} {r : α} (h : c → Ev f r) (k : ¬ c → Ev g r) : Ev (fun n => if c then f n else g n) r := by
  by_cases hc : c
  · exact Ev.pos hc (h hc)
  · exact Ev.neg hc (k hc)
theorem Ev.eq {α : Type} {g : Nat → Option α} {a r : α} (k : Ev g a) (h : a = r) : Ev g r := h ▸ k
theorem wrap_in {n : Int} (h : -9223372036854775808 ≤ n) (h' : n ≤ 9223372036854775807) : wrap64 n = n := by unfold wrap64; omega
theorem wrap_succ {i : Nat} (h : i ≤ 9223372036854775806) : wrap64 ((i : Int) + 1) = ((i + 1 : Nat) : Int) := by unfold wrap64; omega
theorem wrap_pred {i : Nat} (h0 : 0 < i) (h : i ≤ 9223372036854775806) : wrap64 ((i : Int) - 1) = ((i - 1 : Nat) : Int) := by unfold wrap64; omega
/-- A loop that stops with 'false' at the first place at which p does not hold, and answers e behind the last one. -/
theorem loop_all {L : Nat → Int → Option Bool} (n : Nat) (p : Nat → Bool) (e : Bool) (hend : Ev (fun k => L k (n : Int)) e)
    (hyes : ∀ i : Nat, i < n → p i = true → ∀ r, Ev (fun k => L k ((i + 1 : Nat) : Int)) r → Ev (fun k => L k (i : Int)) r) (hno : ∀ i : Nat, i < n → p i = false → Ev (fun k => L k (i : Int)) false) :
    ∀ d i : Nat, i + d = n → Ev (fun k => L k (i : Int)) ((List.range' i d).all p && e)
  | 0, i, h => by
    have : i = n := by omega
    subst this
    simpa using hend
  | d + 1, i, h => by
    have hi : i < n := by omega
    cases hp : p i with
    | true =>
      have ih := loop_all n p e hend hyes hno d (i + 1) (by omega)
      have := hyes i hi hp _ ih
      simpa [List.range'_succ, hp] using this
    | false =>
      have := hno i hi hp
      simpa [List.range'_succ, hp] using this
/-- The same from its begin. -/
theorem loop_all0 {L : Nat → Int → Option Bool} (n : Nat) (p : Nat → Bool) (e : Bool) (hend : Ev (fun k => L k (n : Int)) e)
    (hyes : ∀ i : Nat, i < n → p i = true → ∀ r, Ev (fun k => L k ((i + 1 : Nat) : Int)) r → Ev (fun k => L k (i : Int)) r) (hno : ∀ i : Nat, i < n → p i = false → Ev (fun k => L k (i : Int)) false) :
    Ev (fun k => L k 0) ((List.range n).all p && e) := by
  have h := loop_all n p e hend hyes hno n 0 (by omega)
  rw [← List.range_eq_range'] at h
  exact h

theorem all_congr {n : Nat} {p q : Nat → Bool} (h : ∀ i, i < n → p i = q i) : (List.range n).all p = (List.range n).all q := by
  rw [Bool.eq_iff_iff]
  simp only [List.all_eq_true, List.mem_range]
  constructor
  · exact fun H i hi => by rw [← h i hi]; exact H i hi
  · exact fun H i hi => by rw [h i hi]; exact H i hi

end Go.Proofs.Ytgapcmmhbegdeaa.MPure
end
section
/- Words: what the printed functions on texts of some letters come to. -/
namespace Go.Proofs.Ytgapcmmhbegdeaa.MWord
open Go.RowKit Go.Proofs.Ytgapcmmhbegdeaa.G Go.Proofs.YtgapcmmhbegdeaaW.PrintWords Go.Proofs.YtgapcmmhbegdeaaW.PrintLast Go.Proofs.Ytgapcmmhbegdeaa.MPure

/-- 1 to 8 bytes, of each of which p holds. -/
def wordB (p : Int → Bool) (s : ByteArray) : Bool := (List.range s.size).all (fun i => p (bt s (i : Int))) && decide (1 ≤ (s.size : Int) ∧ (s.size : Int) ≤ 8)
def capB (c : Int) : Bool := decide (65 ≤ c ∧ c ≤ 90)
theorem l1In_ (a b c : Int) : spec_l1In.f a b c = some (decide (b ≤ a ∧ a ≤ c)) := by
  unfold spec_l1In.f
  by_cases h : a ≥ b
  · rw [if_pos h]; simp [show b ≤ a from h]
  · rw [if_neg h]; simp [show ¬ b ≤ a from h]
theorem within_ (a b c : Int) : impl_within.f a b c = some (decide (b ≤ a ∧ a ≤ c)) := by
  unfold impl_within.f
  by_cases h : a ≥ b
  · rw [if_pos h]; simp [show b ≤ a from h]
  · rw [if_neg h]; simp [show ¬ b ≤ a from h]

/-- Which bytes are among some letters. -/
def amongB (ls : ByteArray) (c : Int) : Bool := decide (0 ≤ Lib.indexByte ls.data.toList c.toNat.toUInt8)
theorem hasOnly_ (s ls : ByteArray) (hs : s.size ≤ 140737488351232) : Ev (fun k => impl_hasOnly.f k s ls) ((List.range s.size).all (fun i => amongB ls (bt s (i : Int)))) := by
  refine Ev.eq (loop_all0 (L := fun k i => impl_hasOnly.l0 k s ls (s.size : Int) i) s.size (fun i => amongB ls (bt s (i : Int))) true ?_ ?_ ?_) (Bool.and_true _)
  · refine Ev.step (f := fun _ => _) (fun k => ?_) (Ev.some rfl)
    simp only [impl_hasOnly.l0]
    rw [if_neg (by omega)]
  · intro i hi hp r hr
    refine Ev.step (f := fun k => impl_hasOnly.l0 k s ls (s.size : Int) ((i + 1 : Nat) : Int)) (fun k => ?_) hr
    simp only [amongB, decide_eq_true_eq] at hp
    simp only [impl_hasOnly.l0, strings_IndexByte.f, Option.bind_some]
    rw [if_pos (by omega), if_pos (by omega), if_pos (by omega), if_neg (by omega), wrap_succ (by omega)]
  · intro i hi hp
    refine Ev.step (f := fun k => some false) (fun k => ?_) (Ev.some rfl)
    simp only [amongB, decide_eq_false_iff_not] at hp
    simp only [impl_hasOnly.l0, strings_IndexByte.f, Option.bind_some]
    rw [if_pos (by omega), if_pos (by omega), if_pos (by omega), if_pos (by omega)]
theorem isWordOf_ (s ls : ByteArray) (hs : s.size ≤ 140737488351232) : Ev (fun k => impl_isWordOf.f k s ls) (wordB (amongB ls) s) := by
  unfold impl_isWordOf.f
  refine Ev.have (within_ _ _ _) (Ev.ite (fun h => ?_) (fun h => ?_))
  · refine Ev.bind (hasOnly_ s ls hs) (Ev.some ?_)
    simp only [wordB]
    rw [h, Bool.and_true]
  · refine Ev.some ?_
    simp only [wordB]
    rw [Bool.eq_false_iff.2 h, Bool.and_false]
/-- The capital letters, as the program has them. -/
theorem caps (c : Int) (h0 : 0 ≤ c) (h1 : c ≤ 255) : amongB (⟨#[65, 66, 67, 68, 69, 70, 71, 72, 73, 74, 75, 76, 77, 78, 79, 80, 81, 82, 83, 84, 85, 86, 87, 88, 89, 90]⟩ : ByteArray) c = capB c := by
  have key : ∀ n : Nat, n < 256 → amongB (⟨#[65, 66, 67, 68, 69, 70, 71, 72, 73, 74, 75, 76, 77, 78, 79, 80, 81, 82, 83, 84, 85, 86, 87, 88, 89, 90]⟩ : ByteArray) (n : Int) = capB (n : Int) := by decide +kernel
  obtain ⟨n, rfl⟩ := Int.eq_ofNat_of_zero_le h0
  exact key n (by omega)
theorem wordB_congr {p q : Int → Bool} (h : ∀ c, 0 ≤ c → c ≤ 255 → p c = q c) (s : ByteArray) : wordB p s = wordB q s := by
  unfold wordB
  rw [all_congr (fun i _ => h _ (bt_range s _).1 (bt_range s _).2)]
theorem isWord_ (s : ByteArray) (hs : s.size ≤ 140737488351232) : Ev (fun k => impl_isWordOf.f k s (⟨#[65, 66, 67, 68, 69, 70, 71, 72, 73, 74, 75, 76, 77, 78, 79, 80, 81, 82, 83, 84, 85, 86, 87, 88, 89, 90]⟩ : ByteArray)) (wordB capB s) :=
  Ev.eq (isWordOf_ s _ hs) (wordB_congr caps s)

end Go.Proofs.Ytgapcmmhbegdeaa.MWord
end
section
/- What the printed functions on notes and tiers come to, by numbers and lists alone: words, notes, tiers, the copies and the comparison that the exact laws use. -/
namespace Go.Proofs.Ytgapcmmhbegdeaa.MNote
open Go.RowKit Go.Proofs.Ytgapcmmhbegdeaa.G Go.Proofs.YtgapcmmhbegdeaaW.PrintWords Go.Proofs.YtgapcmmhbegdeaaW.PrintLast Go.Proofs.Ytgapcmmhbegdeaa.MPure Go.Proofs.Ytgapcmmhbegdeaa.MWord

theorem fsWord_ (s : ByteArray) (hs : s.size ≤ 140737488351232) : Ev (fun k => spec_fsWord.f k s) (wordB capB s) := by
  refine loop_all0 (L := fun k i => spec_fsWord.l0 k s i) s.size (fun i => capB (bt s (i : Int))) _ ?_ ?_ ?_
  · refine Ev.step (f := fun _ => _) (fun k => ?_) (Ev.some rfl)
    simp only [spec_fsWord.l0]
    rw [if_neg (by omega), l1In_]
    rfl
  · intro i hi hp r hr
    refine Ev.step (f := fun k => spec_fsWord.l0 k s ((i + 1 : Nat) : Int)) (fun k => ?_) hr
    simp only [capB, decide_eq_true_eq] at hp
    simp only [spec_fsWord.l0]
    rw [if_pos (by omega), if_pos (by omega), if_neg (by omega), if_neg (by omega), wrap_succ (by omega)]
  · intro i hi hp
    simp only [capB, decide_eq_false_iff_not] at hp
    by_cases h : bt s (i : Int) < 65
    · refine Ev.step (f := fun k => some false) (fun k => ?_) (Ev.some rfl)
      simp only [spec_fsWord.l0]
      rw [if_pos (by omega), if_pos (by omega), if_pos h]
    · refine Ev.step (f := fun k => some false) (fun k => ?_) (Ev.some rfl)
      simp only [spec_fsWord.l0]
      rw [if_pos (by omega), if_pos (by omega), if_neg h, if_pos (by omega)]

/-! ### notes -/
def frameB (n : Int) : Bool := decide (0 ≤ n ∧ n ≤ 99999)
def noteB (f t : Int) (g : ByteArray) : Bool := frameB f && frameB t && decide (f < t) && wordB capB g
theorem tiFrame_ (a : Int) : spec_tiFrame.f a = some (frameB a) := by
  unfold spec_tiFrame.f
  rw [l1In_]
  rfl
theorem isFrame_ (a : Int) : impl_isFrame.f a = some (frameB a) := by
  unfold impl_isFrame.f
  rw [within_]
  rfl
theorem tiNote_ (f t : Int) (g : ByteArray) (hg : g.size ≤ 140737488351232) : Ev (fun k => spec_tiNote.f k f t g) (noteB f t g) := by
  unfold spec_tiNote.f noteB
  refine Ev.have (tiFrame_ _) (Ev.ite (fun h => ?_) (fun h => Ev.some (by rw [Bool.eq_false_iff.2 h]; rfl)))
  refine Ev.have (tiFrame_ _) (Ev.ite (fun h2 => ?_) (fun h2 => Ev.some (by rw [Bool.eq_false_iff.2 h2]; simp)))
  refine Ev.ite (fun h3 => ?_) (fun h3 => Ev.some (by simp [h3]))
  exact Ev.bind (fsWord_ g hg) (Ev.some (by simp [h, h2, h3]))
theorem IsNote_ (f t : Int) (g : ByteArray) (hg : g.size ≤ 140737488351232) : Ev (fun k => impl_IsNote.f k f t g) (noteB f t g) := by
  unfold impl_IsNote.f noteB
  refine Ev.have (isFrame_ _) (Ev.ite (fun h => ?_) (fun h => Ev.some (by rw [Bool.eq_false_iff.2 h]; rfl)))
  refine Ev.have (isFrame_ _) (Ev.ite (fun h2 => ?_) (fun h2 => Ev.some (by rw [Bool.eq_false_iff.2 h2]; simp)))
  refine Ev.ite (fun h3 => ?_) (fun h3 => Ev.some (by simp [h3]))
  exact Ev.bind (isWord_ g hg) (Ev.some (by simp [h, h2, h3]))
/-! ### tiers -/
abbrev NI := S58
abbrev NL := S127
def atN (l : List NI) (i : Nat) : NI := l.getD i z58
theorem atN_mem {l : List NI} {i : Nat} (h : i < l.length) : atN l i ∈ l := by
  unfold atN
  rw [List.getD_eq_getElem?_getD, List.getElem?_eq_getElem h]
  exact List.getElem_mem h
/-- What the notes' texts bear. -/
def Sized (l : List NI) : Prop := l.length ≤ 140737488351232 ∧ ∀ x, x ∈ l → x.f2.size ≤ 140737488351232
def tierP (l : List NI) (i : Nat) : Bool := noteB (atN l i).f0 (atN l i).f1 (atN l i).f2 && (decide (i = 0) || decide ((atN l (i - 1)).f1 ≤ (atN l i).f0))
def tierB (l : List NI) : Bool := (List.range l.length).all (tierP l) && decide ((l.length : Int) ≤ 40)

theorem tiGood_ (l : List NI) (hl : Sized l) : Ev (fun k => spec_tiGood.f k l) (tierB l) := by
  obtain ⟨hn, hs⟩ := hl
  refine loop_all0 (L := fun k i => spec_tiGood.l0 k l l (l.length : Int) i) l.length (tierP l) _ ?_ ?_ ?_
  · exact Ev.step (fun _ => spec_tiGood.l0.eq_2 ..) (Ev.neg (by omega) (Ev.some rfl))
  · intro i hi hp r hr
    simp only [tierP, Bool.and_eq_true] at hp
    refine Ev.step (fun _ => spec_tiGood.l0.eq_2 ..) (Ev.pos (by omega) (Ev.pos (by omega) (Ev.pos (by omega) (Ev.bind (tiNote_ _ _ _ (hs _ (atN_mem hi))) (Ev.pos hp.1 (Ev.ite (fun h0 => ?_) (fun h0 => ?_)))))))
    · rw [wrap_pred (by omega) (by omega)]
      refine Ev.pos (by omega) (Ev.pos (by omega) (Ev.neg ?_ ?_))
      · have := hp.2
        simp only [Bool.or_eq_true, decide_eq_true_eq] at this
        have h : (atN l (i - 1)).f1 ≤ (atN l i).f0 := by
          rcases this with h | h
          · omega
          · exact h
        exact Int.not_lt.2 h
      · rw [wrap_succ (by omega)]
        exact hr
    · rw [wrap_succ (by omega)]
      exact hr
  · intro i hi hp
    refine Ev.step (fun _ => spec_tiGood.l0.eq_2 ..) (Ev.pos (by omega) (Ev.pos (by omega) (Ev.pos (by omega) (Ev.bind (tiNote_ _ _ _ (hs _ (atN_mem hi))) (Ev.ite (fun h1 => ?_) (fun _ => Ev.some rfl))))))
    simp only [tierP, Bool.and_eq_false_iff, Bool.or_eq_false_iff, decide_eq_false_iff_not] at hp
    rcases hp with hp | ⟨hp, hq⟩
    · exact absurd (h1.symm.trans hp) (by decide)
    · refine Ev.pos (by omega) ?_
      rw [wrap_pred (by omega) (by omega)]
      exact Ev.pos (by omega) (Ev.pos (by omega) (Ev.pos (Int.not_le.1 hq) (Ev.some rfl)))
theorem IsTier_ (l : List NI) (hl : Sized l) : Ev (fun k => impl_IsTier.f k l) (tierB l) := by
  obtain ⟨hn, hs⟩ := hl
  refine loop_all0 (L := fun k i => impl_IsTier.l0 k l l (l.length : Int) i) l.length (tierP l) _ ?_ ?_ ?_
  · exact Ev.step (fun _ => impl_IsTier.l0.eq_2 ..) (Ev.neg (by omega) (Ev.some rfl))
  · intro i hi hp r hr
    simp only [tierP, Bool.and_eq_true] at hp
    refine Ev.step (fun _ => impl_IsTier.l0.eq_2 ..) (Ev.pos (by omega) (Ev.pos (by omega) (Ev.pos (by omega) (Ev.bind (IsNote_ _ _ _ (hs _ (atN_mem hi))) (Ev.pos hp.1 (Ev.ite (fun h0 => ?_) (fun h0 => ?_)))))))
    · rw [wrap_pred (by omega) (by omega)]
      refine Ev.pos (by omega) (Ev.pos (by omega) (Ev.neg ?_ ?_))
      · have := hp.2
        simp only [Bool.or_eq_true, decide_eq_true_eq] at this
        have h : (atN l (i - 1)).f1 ≤ (atN l i).f0 := by
          rcases this with h | h
          · omega
          · exact h
        exact Int.not_lt.2 h
      · rw [wrap_succ (by omega)]
        exact hr
    · rw [wrap_succ (by omega)]
      exact hr
  · intro i hi hp
    refine Ev.step (fun _ => impl_IsTier.l0.eq_2 ..) (Ev.pos (by omega) (Ev.pos (by omega) (Ev.pos (by omega) (Ev.bind (IsNote_ _ _ _ (hs _ (atN_mem hi))) (Ev.ite (fun h1 => ?_) (fun _ => Ev.some rfl))))))
    simp only [tierP, Bool.and_eq_false_iff, Bool.or_eq_false_iff, decide_eq_false_iff_not] at hp
    rcases hp with hp | ⟨hp, hq⟩
    · exact absurd (h1.symm.trans hp) (by decide)
    · refine Ev.pos (by omega) ?_
      rw [wrap_pred (by omega) (by omega)]
      exact Ev.pos (by omega) (Ev.pos (by omega) (Ev.pos (Int.not_le.1 hq) (Ev.some rfl)))

/-! ### what the exact laws do with notes: sizes, copies, comparison -/
def conv (x : NL) : NI := ⟨x.f0, x.f1, x.f2⟩
/-- What a law's notes bear, as the row tells it. -/
def Given (l : List NL) : Prop := (∀ a_, a_ ∈ l → gT127 a_) ∧ l.length * 32 ≤ 140737488351232
theorem Given.sized {l : List NL} (h : Given l) : Sized (l.map conv) := by
  obtain ⟨h1, h2⟩ := h
  refine ⟨by rw [List.length_map]; omega, fun x hx => ?_⟩
  obtain ⟨y, hy, rfl⟩ := List.mem_map.1 hx
  exact (h1 y hy).2.2
end Go.Proofs.Ytgapcmmhbegdeaa.MNote
end
section
/- Loops that search, by lists alone. -/
namespace Go.Proofs.Ytgapcmmhbegdeaa.MAt0
open Go.RowKit Go.Proofs.YtgapcmmhbegdeaaW.PrintWords Go.Proofs.YtgapcmmhbegdeaaW.PrintLast Go.Proofs.Ytgapcmmhbegdeaa.MPure

/-- A loop that answers the first place at which p holds, or -1. -/
theorem loop_find {α : Type} {L : Nat → Int → Option Int} (l : List α) (z : α) (p : α → Bool) (hend : Ev (fun k => L k (l.length : Int)) (-1))
    (hyes : ∀ i : Nat, i < l.length → p (l.getD i z) = true → Ev (fun k => L k (i : Int)) (i : Int)) (hno : ∀ i : Nat, i < l.length → p (l.getD i z) = false → ∀ r, Ev (fun k => L k ((i + 1 : Nat) : Int)) r → Ev (fun k => L k (i : Int)) r) :
    Ev (fun k => L k 0) (idxOf p l) := by
  have key : ∀ d i : Nat, i + d = l.length → (∀ j, j < i → p (l.getD j z) = false) → Ev (fun k => L k (i : Int)) (idxOf p l) := by
    intro d
    induction d with
    | zero =>
      intro i hi hb
      obtain rfl : i = l.length := by omega
      rw [idxOf_miss z hb]
      exact hend
    | succ d ih =>
      intro i hi hb
      cases hp : p (l.getD i z) with
      | true =>
        rw [idxOf_hit z (by omega) hp hb]
        exact hyes i (by omega) hp
      | false =>
        refine hno i (by omega) hp _ (ih (i + 1) (by omega) (fun j hj => ?_))
        by_cases e : j = i
        · subst e; exact hp
        · exact hb j (by omega)
  exact key l.length 0 (by omega) (fun j hj => absurd hj (Nat.not_lt_zero _))
theorem idxOf_range {α : Type} (p : α → Bool) (l : List α) : -1 ≤ idxOf p l ∧ idxOf p l < (l.length : Int) := by
  unfold idxOf
  cases h : l.findIdx? p with
  | none => exact ⟨by decide, by show (-1 : Int) < _; omega⟩
  | some i =>
    have := (List.findIdx?_eq_some_iff_getElem.1 h).1
    exact ⟨by show (-1 : Int) ≤ (i : Int); omega, by show (i : Int) < _; omega⟩

end Go.Proofs.Ytgapcmmhbegdeaa.MAt0
end
section
/- In which note a frame lies: the reference's search and the program's, by lists alone. -/
namespace Go.Proofs.Ytgapcmmhbegdeaa.MAt
open Go.RowKit Go.Proofs.Ytgapcmmhbegdeaa.G Go.Proofs.YtgapcmmhbegdeaaW.PrintWords Go.Proofs.YtgapcmmhbegdeaaW.PrintLast Go.Proofs.Ytgapcmmhbegdeaa.MPure Go.Proofs.Ytgapcmmhbegdeaa.MWord Go.Proofs.Ytgapcmmhbegdeaa.MNote Go.Proofs.Ytgapcmmhbegdeaa.MAt0

theorem tiAt_ (l : List NI) (hl : Sized l) (a : Int) : Ev (fun k => spec_tiAt.f k l a) (idxOf (impl_noteAt.p a) l) := by
  obtain ⟨hn, _⟩ := hl
  refine loop_find (L := fun k i => spec_tiAt.l0 k a l (l.length : Int) i) l z58 (impl_noteAt.p a) ?_ ?_ ?_
  · exact Ev.step (fun _ => spec_tiAt.l0.eq_2 ..) (Ev.neg (by omega) (Ev.some rfl))
  · intro i hi hp
    refine Ev.step (fun _ => spec_tiAt.l0.eq_2 ..) (Ev.pos (by omega) (Ev.pos (by omega) (Ev.pos (by omega) (Ev.have (l1In_ _ _ _) (Ev.pos hp (Ev.some rfl))))))
  · intro i hi hp r hr
    refine Ev.step (fun _ => spec_tiAt.l0.eq_2 ..) (Ev.pos (by omega) (Ev.pos (by omega) (Ev.pos (by omega) (Ev.have (l1In_ _ _ _) (Ev.neg (Bool.eq_false_iff.1 hp) ?_)))))
    rw [wrap_succ (by omega)]
    exact hr
end Go.Proofs.Ytgapcmmhbegdeaa.MAt
end
section
/- The law's marks as texts: what markText comes to (that it comes to some text, and always to the same). -/
namespace Go.Proofs.Ytgapcmmhbegdeaa.MText
open Go.RowKit Go.Proofs.Ytgapcmmhbegdeaa.G Go.Proofs.YtgapcmmhbegdeaaW.PrintWords Go.Proofs.YtgapcmmhbegdeaaW.PrintLast Go.Proofs.Ytgapcmmhbegdeaa.MPure

end Go.Proofs.Ytgapcmmhbegdeaa.MText
end
section
/- The laws' marks on notes: what is written into a list of notes, and that it is found again. -/
namespace Go.Proofs.Ytgapcmmhbegdeaa.MMarkN
open Go.RowKit Go.Proofs.Ytgapcmmhbegdeaa.G Go.Proofs.YtgapcmmhbegdeaaW.PrintWords Go.Proofs.YtgapcmmhbegdeaaW.PrintLast Go.Proofs.Ytgapcmmhbegdeaa.MPure Go.Proofs.Ytgapcmmhbegdeaa.MNote Go.Proofs.Ytgapcmmhbegdeaa.MText

end Go.Proofs.Ytgapcmmhbegdeaa.MMarkN
end
section
/- JoinNotes: what the reference and the program answer, in plain words (out of the pure text of the exact law). No condition. -/
namespace Go.Proofs.Ytgapcmmhbegdeaa.MCJoinNotes
open Go.RowKit Go.Proofs.Ytgapcmmhbegdeaa.G Go.Proofs.YtgapcmmhbegdeaaW.PrintWords Go.Proofs.YtgapcmmhbegdeaaW.PrintLast Go.Proofs.Ytgapcmmhbegdeaa.MPure Go.Proofs.Ytgapcmmhbegdeaa.MWord Go.Proofs.Ytgapcmmhbegdeaa.MNote Go.Proofs.Ytgapcmmhbegdeaa.MMarkN

theorem tier_length {l : List NI} (h : tierB l = true) : l.length ≤ 40 := by
  unfold tierB at h
  simp only [Bool.and_eq_true, decide_eq_true_eq] at h
  omega
theorem set_mid {α : Type} (a x : α) (q : List α) : ∀ p : List α, (p ++ a :: q).set p.length x = p ++ x :: q
  | [] => rfl
  | y :: p => by
    show y :: (p ++ a :: q).set p.length x = _
    rw [set_mid a x q p]
    rfl
theorem get_mid {α : Type} (a z : α) (q : List α) : ∀ p : List α, (p ++ a :: q).getD p.length z = a
  | [] => rfl
  | _ :: p => get_mid a z q p
theorem split_at (l : List NI) (n : Nat) (h : n + 1 < l.length) : l.take (n + 1) ++ l.drop (n + 1 + 1) = l.take n ++ l.getD n z58 :: l.drop (n + 2) := by
  rw [List.take_succ_eq_append_getElem (by omega), List.append_assoc, List.singleton_append, List.getD_eq_getElem?_getD, List.getElem?_eq_getElem (by omega)]
  rfl
def joiOk (l : List NI) (i : Int) : Prop := tierB l = true ∧ (0 ≤ i ∧ i ≤ wrap64 ((l.length : Int) - 2)) ∧ (rd_T58 l i).f1 = (rd_T58 l (i + 1)).f0 ∧ (rd_T58 l i).f2.toList = (rd_T58 l (i + 1)).f2.toList
noncomputable def joiR (l : List NI) (i : Int) : List NI × Bool := open Classical in if joiOk l i then (l.take i.toNat ++ (⟨(rd_T58 l i).f0, (rd_T58 l (i + 1)).f1, (rd_T58 l i).f2⟩ : NI) :: l.drop (i.toNat + 2), true) else ([], false)
theorem Join_s (l : List NI) (hl : Sized l) (i : Int) : Ev (fun k => spec_JoinNotes.f k l i) (joiR l i) := by
  unfold spec_JoinNotes.f joiR
  refine Ev.bind (tiGood_ l hl) (Ev.ite (fun h1 => ?_) (fun h1 => Ev.some (by rw [if_neg (fun h => h1 h.1)])))
  have hn := tier_length h1
  refine Ev.have (l1In_ i 0 (wrap64 ((l.length : Int) - 2))) (Ev.ite (fun h2 => ?_) (fun h2 => Ev.some (by rw [if_neg (fun h => h2 (decide_eq_true h.2.1))])))
  have h2' := of_decide_eq_true h2
  have hi : i + 1 < (l.length : Int) := by have := h2'.2; unfold wrap64 at this; omega
  have hw1 : wrap64 (i + 1) = i + 1 := by unfold wrap64; omega
  have hw2 : wrap64 (i + 2) = i + 2 := by unfold wrap64; omega
  rw [hw1, hw2]
  refine Ev.pos h2'.1 (Ev.pos (by omega) (Ev.pos (by omega) (Ev.pos hi (Ev.ite (fun h3 => Ev.ite (fun h4 => ?_) (fun h4 => Ev.some (by rw [if_neg (fun h => h4 h.2.2.2)]))) (fun h3 => Ev.some (by rw [if_neg (fun h => h3 h.2.2.1)]))))))
  rw [if_pos ⟨h1, h2', h3, h4⟩]
  simp only [Option.bind_some, List.nil_append, List.length_nil, List.length_append, List.length_cons, List.length_take, List.length_drop]
  refine Ev.pos (by omega) (Ev.pos (by omega) (Ev.pos (by omega) (Ev.pos (by omega) (Ev.pos (by omega) (Ev.pos (by omega) (Ev.some ?_))))))
  rw [show (i + 2).toNat = i.toNat + 2 by omega, List.append_assoc, List.singleton_append]
theorem Join_i (l : List NI) (hl : Sized l) (i : Int) : Ev (fun k => impl_JoinNotes.f k l i) (joiR l i) := by
  have hj : Ev (fun k => impl_JoinNotes.j0 k l i true) ([], false) := Ev.step (fun _ => impl_JoinNotes.j0.eq_2 ..) (Ev.pos rfl (Ev.some rfl))
  unfold impl_JoinNotes.f joiR
  refine Ev.bind (IsTier_ l hl) (Ev.ite (fun h1 => ?_) (fun h1 => by rw [if_neg (fun h => h1 h.1)]; exact hj))
  have hn := tier_length h1
  refine Ev.have (within_ i 0 (wrap64 ((l.length : Int) - 2))) (Ev.ite (fun h2 => ?_) (fun h2 => by rw [if_neg (fun h => h2 (decide_eq_true h.2.1))]; exact hj))
  have h2' := of_decide_eq_true h2
  have hi : i + 1 < (l.length : Int) := by have := h2'.2; unfold wrap64 at this; omega
  have hw1 : wrap64 (i + 1) = i + 1 := by unfold wrap64; omega
  have hw2 : wrap64 (i + 2) = i + 2 := by unfold wrap64; omega
  rw [hw1]
  refine Ev.pos h2'.1 (Ev.pos (by omega) (Ev.pos (by omega) (Ev.pos hi (Ev.ite (fun h3 => ?_) (fun h3 => by rw [if_neg (fun h => h3 h.2.2.1)]; exact hj)))))
  by_cases h4 : (rd_T58 l i).f2.toList = (rd_T58 l (i + 1)).f2.toList
  case neg =>
    rw [if_neg (fun h => h4 h.2.2.2), show ((rd_T58 l i).f2.toList != (rd_T58 l (i + 1)).f2.toList) = true by simp [h4]]
    exact hj
  rw [if_pos ⟨h1, h2', h3, h4⟩, show ((rd_T58 l i).f2.toList != (rd_T58 l (i + 1)).f2.toList) = false by simp [h4]]
  have hc : slices_Clone_Note.f l = some l := by
    unfold slices_Clone_Note.f
    rw [if_pos (by omega)]
  have ht : (l.take i.toNat).length = i.toNat := by rw [List.length_take]; omega
  have hd : slices_Delete_Note.f l (i + 1) (i + 2) = some (l.take i.toNat ++ rd_T58 l i :: l.drop (i.toNat + 2)) := by
    unfold slices_Delete_Note.f
    rw [if_pos ⟨by omega, hi, by omega⟩, show (i + 1).toNat = i.toNat + 1 by omega, split_at l i.toNat (by omega)]
    rfl
  have hg : rd_T58 (l.take i.toNat ++ rd_T58 l i :: l.drop (i.toNat + 2)) i = rd_T58 l i := by
    have h := get_mid (rd_T58 l i) z58 (l.drop (i.toNat + 2)) (l.take i.toNat)
    rw [ht] at h
    exact h
  have hs := set_mid (rd_T58 l i) (⟨(rd_T58 l i).f0, (rd_T58 l (i + 1)).f1, (rd_T58 l i).f2⟩ : NI) (l.drop (i.toNat + 2)) (l.take i.toNat)
  rw [ht] at hs
  refine Ev.step (fun _ => impl_JoinNotes.j0.eq_2 ..) (Ev.neg (by simp) ?_)
  rw [hw1, hw2]
  refine Ev.have hc (Ev.have hd (Ev.pos (by omega) (Ev.pos hi (Ev.pos h2'.1 (Ev.pos ?_ (Ev.some ?_))))))
  · rw [List.length_append, List.length_cons, ht]; omega
  · rw [hg, hs]
theorem joiR_length (l : List NI) (i : Int) : (joiR l i).1.length ≤ l.length + 1 := by
  unfold joiR
  split
  · show (l.take i.toNat ++ _ :: l.drop (i.toNat + 2)).length ≤ _
    rw [List.length_append, List.length_cons, List.length_take, List.length_drop]; omega
  · exact Nat.zero_le _
end Go.Proofs.Ytgapcmmhbegdeaa.MCJoinNotes
end
section
/- MoveTier: what the reference and the program answer, in plain words (out of the pure text of the exact law). No condition. -/
namespace Go.Proofs.Ytgapcmmhbegdeaa.MCMoveTier
open Go.RowKit Go.Proofs.Ytgapcmmhbegdeaa.G Go.Proofs.YtgapcmmhbegdeaaW.PrintWords Go.Proofs.YtgapcmmhbegdeaaW.PrintLast Go.Proofs.Ytgapcmmhbegdeaa.MPure Go.Proofs.Ytgapcmmhbegdeaa.MWord Go.Proofs.Ytgapcmmhbegdeaa.MNote Go.Proofs.Ytgapcmmhbegdeaa.MMarkN

def mv1 (a : Int) (x : NI) : NI := ⟨wrap64 (x.f0 + a), wrap64 (x.f1 + a), x.f2⟩
def mvL (a : Int) (l : List NI) : List NI := l.map (mv1 a)
def mvEnd (l : List NI) : List NI × Bool := if tierB l = true then (l, true) else ([], false)
def mvR (l : List NI) (a : Int) : List NI × Bool := if tierB l = true ∧ (-99999 ≤ a ∧ a ≤ 99999) then mvEnd (mvL a l) else ([], false)
theorem mvL_take (a : Int) (l : List NI) (i : Nat) (h : i < l.length) : mvL a (l.take (i + 1)) = mvL a (l.take i) ++ [mv1 a (atN l i)] := by
  have e : atN l i = l[i] := by
    unfold atN
    rw [List.getD_eq_getElem?_getD, List.getElem?_eq_getElem h]
    rfl
  unfold mvL
  rw [e, List.take_succ_eq_append_getElem h, List.map_append]
  rfl
theorem mvL_sized (a : Int) (l : List NI) (h : Sized l) : Sized (mvL a l) := by
  refine ⟨by unfold mvL; rw [List.length_map]; exact h.1, fun x hx => ?_⟩
  obtain ⟨y, hy, rfl⟩ := List.mem_map.1 hx
  exact h.2 y hy
theorem tiIf_ (l : List NI) (hl : Sized l) : Ev (fun k => spec_tiIf.f k l) (mvEnd l) := by
  unfold spec_tiIf.f mvEnd
  exact Ev.bind (tiGood_ l hl) (Ev.ite (fun h => Ev.some (by rw [if_pos h])) (fun h => Ev.some (by rw [if_neg h])))
theorem mv_i (l : List NI) (hl : Sized l) (hl2 : l.length ≤ 4398046511104) (a : Int) : Ev (fun k => impl_MoveTier.l0 k a [] l (l.length : Int) 0) (mvEnd (mvL a l)) := by
  have key : ∀ d i : Nat, i + d = l.length → Ev (fun k => impl_MoveTier.l0 k a (mvL a (l.take i)) l (l.length : Int) (i : Int)) (mvEnd (mvL a l)) := by
    intro d
    induction d with
    | zero =>
      intro i hi
      rw [List.take_of_length_le (by omega)]
      refine Ev.step (fun _ => impl_MoveTier.l0.eq_2 ..) (Ev.neg (by omega) (Ev.bind (IsTier_ _ (mvL_sized a l hl)) ?_))
      unfold mvEnd
      exact Ev.ite (fun h => Ev.some (by rw [if_pos h])) (fun h => Ev.some (by rw [if_neg h]))
    | succ d ih =>
      intro i hi
      have h := ih (i + 1) (by omega)
      have hti : (mvL a (l.take i)).length = i := by unfold mvL; rw [List.length_map, List.length_take]; omega
      rw [mvL_take a l i (by omega), ← wrap_succ (by omega)] at h
      exact Ev.step (fun _ => impl_MoveTier.l0.eq_2 ..) (Ev.pos (by omega) (Ev.pos (by omega) (Ev.pos (by omega) (Ev.pos (by omega) h))))
  exact key l.length 0 (by omega)
theorem mv_s (l : List NI) (hl : Sized l) (hl2 : l.length ≤ 4398046511104) (a : Int) : Ev (fun k => spec_MoveTier.l0 k a [] l (l.length : Int) 0) (mvEnd (mvL a l)) := by
  have key : ∀ d i : Nat, i + d = l.length → Ev (fun k => spec_MoveTier.l0 k a (mvL a (l.take i)) l (l.length : Int) (i : Int)) (mvEnd (mvL a l)) := by
    intro d
    induction d with
    | zero =>
      intro i hi
      rw [List.take_of_length_le (by omega)]
      exact Ev.step (fun _ => spec_MoveTier.l0.eq_2 ..) (Ev.neg (by omega) (Ev.bind (tiIf_ _ (mvL_sized a l hl)) (Ev.some rfl)))
    | succ d ih =>
      intro i hi
      have h := ih (i + 1) (by omega)
      have hti : (mvL a (l.take i)).length = i := by unfold mvL; rw [List.length_map, List.length_take]; omega
      rw [mvL_take a l i (by omega), ← wrap_succ (by omega)] at h
      exact Ev.step (fun _ => spec_MoveTier.l0.eq_2 ..) (Ev.pos (by omega) (Ev.pos (by omega) (Ev.pos (by omega) (Ev.pos (by omega) h))))
  exact key l.length 0 (by omega)
theorem MoveTier_s (l : List NI) (hl : Sized l) (hl2 : l.length ≤ 4398046511104) (a : Int) : Ev (fun k => spec_MoveTier.f k l a) (mvR l a) := by
  unfold spec_MoveTier.f mvR
  refine Ev.bind (tiGood_ l hl) (Ev.ite (fun h1 => Ev.have (l1In_ _ _ _) (Ev.step (fun _ => spec_MoveTier.j0.eq_2 ..) (Ev.ite (fun h2 => Ev.some ?_) (fun h2 => Ev.eq (mv_s l hl hl2 a) ?_)))) (fun h1 => Ev.step (fun _ => spec_MoveTier.j0.eq_2 ..) (Ev.pos rfl (Ev.some ?_))))
  · rw [if_neg]
    simp only [Bool.not_eq_true', decide_eq_false_iff_not] at h2
    exact fun h => h2 h.2
  · rw [if_pos]
    simp only [Bool.not_eq_true', decide_eq_false_iff_not, Classical.not_not] at h2
    exact ⟨h1, h2⟩
  · rw [if_neg (fun h => h1 h.1)]
theorem MoveTier_i (l : List NI) (hl : Sized l) (hl2 : l.length ≤ 4398046511104) (a : Int) : Ev (fun k => impl_MoveTier.f k l a) (mvR l a) := by
  unfold impl_MoveTier.f mvR
  refine Ev.bind (IsTier_ l hl) (Ev.ite (fun h1 => Ev.have (within_ _ _ _) (Ev.step (fun _ => impl_MoveTier.j0.eq_2 ..) (Ev.ite (fun h2 => Ev.some ?_) (fun h2 => Ev.eq (mv_i l hl hl2 a) ?_)))) (fun h1 => Ev.step (fun _ => impl_MoveTier.j0.eq_2 ..) (Ev.pos rfl (Ev.some ?_))))
  · rw [if_neg]
    simp only [Bool.not_eq_true', decide_eq_false_iff_not] at h2
    exact fun h => h2 h.2
  · rw [if_pos]
    simp only [Bool.not_eq_true', decide_eq_false_iff_not, Classical.not_not] at h2
    exact ⟨h1, h2⟩
  · rw [if_neg (fun h => h1 h.1)]
theorem mvR_length (l : List NI) (a : Int) : (mvR l a).1.length ≤ l.length := by
  unfold mvR mvEnd mvL
  split
  · split
    · simp
    · exact Nat.zero_le _
  · exact Nat.zero_le _
end Go.Proofs.Ytgapcmmhbegdeaa.MCMoveTier
end
section
/- NoteAt: what the reference and the program answer, in plain words (out of the pure text of the exact law). No condition. -/
namespace Go.Proofs.Ytgapcmmhbegdeaa.MCNoteAt
open Go.RowKit Go.Proofs.Ytgapcmmhbegdeaa.G Go.Proofs.YtgapcmmhbegdeaaW.PrintWords Go.Proofs.YtgapcmmhbegdeaaW.PrintLast Go.Proofs.Ytgapcmmhbegdeaa.MPure Go.Proofs.Ytgapcmmhbegdeaa.MWord Go.Proofs.Ytgapcmmhbegdeaa.MNote Go.Proofs.Ytgapcmmhbegdeaa.MAt Go.Proofs.Ytgapcmmhbegdeaa.MAt0

/-- What both come to. -/
def noteAtR (l : List NI) (a : Int) : Int × Bool := if tierB l = true ∧ frameB a = true ∧ 0 ≤ idxOf (impl_noteAt.p a) l then (idxOf (impl_noteAt.p a) l, true) else (0, false)
theorem NoteAt_s (l : List NI) (hl : Sized l) (a : Int) : Ev (fun k => spec_NoteAt.f k l a) (noteAtR l a) := by
  unfold spec_NoteAt.f noteAtR
  refine Ev.bind (tiGood_ l hl) (Ev.ite (fun h1 => ?_) (fun h1 => Ev.some (by simp [h1])))
  refine Ev.have (tiFrame_ a) (Ev.ite (fun h2 => ?_) (fun h2 => Ev.some (by simp [h2])))
  refine Ev.bind (tiAt_ l hl a) (Ev.ite (fun h3 => Ev.some ?_) (fun h3 => Ev.bind (tiAt_ l hl a) (Ev.some ?_)))
  · rw [if_neg (by omega)]
  · rw [if_pos ⟨h1, h2, by omega⟩]
theorem NoteAt_i (l : List NI) (hl : Sized l) (a : Int) : Ev (fun k => impl_NoteAt.f k l a) (noteAtR l a) := by
  unfold impl_NoteAt.f noteAtR
  refine Ev.bind (IsTier_ l hl) (Ev.ite (fun h1 => ?_) (fun h1 => Ev.step (fun _ => impl_NoteAt.j0.eq_2 ..) (Ev.pos rfl (Ev.some (by simp [h1])))))
  refine Ev.have (isFrame_ a) (Ev.step (fun _ => impl_NoteAt.j0.eq_2 ..) (Ev.ite (fun h2 => Ev.some ?_) (fun h2 => ?_)))
  · simp only [Bool.not_eq_true'] at h2
    simp [h2]
  · simp only [Bool.not_eq_true', Bool.not_eq_false] at h2
    refine Ev.have rfl (Ev.ite (fun h3 => Ev.some ?_) (fun h3 => Ev.some ?_))
    · rw [if_neg (by omega)]
    · rw [if_pos ⟨h1, h2, by omega⟩]
end Go.Proofs.Ytgapcmmhbegdeaa.MCNoteAt
end
section
/- SplitNote: what the reference and the program answer, in plain words (out of the pure text of the exact law). No condition. -/
namespace Go.Proofs.Ytgapcmmhbegdeaa.MCSplitNote
open Go.RowKit Go.Proofs.Ytgapcmmhbegdeaa.G Go.Proofs.YtgapcmmhbegdeaaW.PrintWords Go.Proofs.YtgapcmmhbegdeaaW.PrintLast Go.Proofs.Ytgapcmmhbegdeaa.MPure Go.Proofs.Ytgapcmmhbegdeaa.MWord Go.Proofs.Ytgapcmmhbegdeaa.MNote Go.Proofs.Ytgapcmmhbegdeaa.MMarkN

theorem tier_length {l : List NI} (h : tierB l = true) : l.length ≤ 40 := by
  unfold tierB at h
  simp only [Bool.and_eq_true, decide_eq_true_eq] at h
  omega
theorem tier_at {l : List NI} (h : tierB l = true) {i : Nat} (hi : i < l.length) : noteB (atN l i).f0 (atN l i).f1 (atN l i).f2 = true ∧ (i = 0 ∨ (atN l (i - 1)).f1 ≤ (atN l i).f0) := by
  unfold tierB at h
  simp only [Bool.and_eq_true, List.all_eq_true, List.mem_range] at h
  have := h.1 i hi
  unfold tierP at this
  simp only [Bool.and_eq_true, Bool.or_eq_true, decide_eq_true_eq] at this
  exact this
theorem tier_of {l : List NI} (h : ∀ i, i < l.length → noteB (atN l i).f0 (atN l i).f1 (atN l i).f2 = true ∧ (i = 0 ∨ (atN l (i - 1)).f1 ≤ (atN l i).f0)) (hl : l.length ≤ 40) : tierB l = true := by
  unfold tierB
  simp only [Bool.and_eq_true, List.all_eq_true, List.mem_range, decide_eq_true_eq]
  refine ⟨fun i hi => ?_, by omega⟩
  unfold tierP
  simp only [Bool.and_eq_true, Bool.or_eq_true, decide_eq_true_eq]
  exact h i hi
theorem note_cut {f t m : Int} {g : ByteArray} (h : noteB f t g = true) (h1 : f < m) (h2 : m < t) : noteB f m g = true ∧ noteB m t g = true := by
  unfold noteB frameB at h ⊢
  simp only [Bool.and_eq_true, decide_eq_true_eq] at h ⊢
  exact ⟨⟨⟨⟨h.1.1.1, by omega⟩, h1⟩, h.2⟩, ⟨⟨⟨by omega, h.1.1.2⟩, h2⟩, h.2⟩⟩
theorem note_in {f t : Int} {g : ByteArray} (h : noteB f t g = true) : 0 ≤ f ∧ f < t ∧ t ≤ 99999 := by
  unfold noteB frameB at h
  simp only [Bool.and_eq_true, decide_eq_true_eq] at h
  omega
/-- The notes with one split at a frame. -/
def spl (l : List NI) (n : Nat) (m : Int) : List NI := l.take n ++ [(⟨(atN l n).f0, m, (atN l n).f2⟩ : NI), (⟨m, (atN l n).f1, (atN l n).f2⟩ : NI)] ++ l.drop (n + 1)
theorem spl_length (l : List NI) (n : Nat) (m : Int) (h : n < l.length) : (spl l n m).length = l.length + 1 := by
  unfold spl
  rw [List.length_append, List.length_append, List.length_take, List.length_drop]
  show min n l.length + 2 + _ = _
  omega
theorem spl_at (l : List NI) (n : Nat) (m : Int) (h : n < l.length) (i : Nat) : atN (spl l n m) i = if i < n then atN l i else if i = n then (⟨(atN l n).f0, m, (atN l n).f2⟩ : NI) else if i = n + 1 then (⟨m, (atN l n).f1, (atN l n).f2⟩ : NI) else atN l (i - 1) := by
  have ht : (l.take n).length = n := by rw [List.length_take]; omega
  have e : spl l n m = l.take n ++ ((⟨(atN l n).f0, m, (atN l n).f2⟩ : NI) :: (⟨m, (atN l n).f1, (atN l n).f2⟩ : NI) :: l.drop (n + 1)) := by
    unfold spl
    rw [List.append_assoc]
    rfl
  rw [e]
  generalize (⟨(atN l n).f0, m, (atN l n).f2⟩ : NI) = a
  generalize (⟨m, (atN l n).f1, (atN l n).f2⟩ : NI) = b
  unfold atN
  rw [List.getD_eq_getElem?_getD]
  by_cases c : i < n
  · rw [if_pos c, List.getElem?_append_left (by omega), List.getElem?_take, if_pos c, ← List.getD_eq_getElem?_getD]
  · rw [if_neg c, List.getElem?_append_right (by omega), ht]
    by_cases c2 : i = n
    · rw [if_pos c2, c2, Nat.sub_self]; rfl
    · rw [if_neg c2]
      by_cases c3 : i = n + 1
      · rw [if_pos c3, c3, show n + 1 - n = 1 by omega]; rfl
      · rw [if_neg c3, show i - n = (i - n - 2) + 1 + 1 by omega, List.getElem?_cons_succ, List.getElem?_cons_succ, List.getElem?_drop, List.getD_eq_getElem?_getD, show n + 1 + (i - n - 2) = i - 1 by omega]
theorem spl_tier (l : List NI) (n : Nat) (m : Int) (h : tierB l = true) (hn : n < l.length) (h1 : (atN l n).f0 < m) (h2 : m < (atN l n).f1) (hl : l.length < 40) : tierB (spl l n m) = true := by
  have hlen := spl_length l n m hn
  have hx := tier_at h hn
  have hc := note_cut hx.1 h1 h2
  refine tier_of (fun i hi => ?_) (by omega)
  rw [spl_at l n m hn i, spl_at l n m hn (i - 1)]
  by_cases c : i < n
  · rw [if_pos c, if_pos (show i - 1 < n by omega)]
    exact tier_at h (by omega)
  · rw [if_neg c]
    by_cases c2 : i = n
    · rw [if_pos c2]
      refine ⟨hc.1, ?_⟩
      by_cases c0 : i = 0
      · exact Or.inl c0
      · rw [if_pos (show i - 1 < n by omega)]
        have := hx.2
        rw [c2]
        exact this
    · rw [if_neg c2]
      by_cases c3 : i = n + 1
      · rw [if_pos c3, if_neg (show ¬ i - 1 < n by omega), if_pos (show i - 1 = n by omega)]
        exact ⟨hc.2, Or.inr (Int.le_refl _)⟩
      · rw [if_neg c3, if_neg (show ¬ i - 1 < n by omega), if_neg (show ¬ i - 1 = n by omega)]
        have ht := tier_at h (show i - 1 < l.length by omega)
        refine ⟨ht.1, Or.inr ?_⟩
        have h3 : (atN l (i - 1 - 1)).f1 ≤ (atN l (i - 1)).f0 := by
          rcases ht.2 with h0 | h0
          · omega
          · exact h0
        by_cases c4 : i - 1 = n + 1
        · rw [if_pos c4]
          rw [c4] at h3 ⊢
          exact h3
        · rw [if_neg c4]
          exact h3
def splOk (l : List NI) (i m : Int) : Bool := tierB l && decide (0 ≤ i ∧ i < (l.length : Int)) && decide ((atN l i.toNat).f0 < m ∧ m < (atN l i.toNat).f1) && decide (l.length < 40)
def splR (l : List NI) (i m : Int) : List NI × Bool := if splOk l i m = true then (spl l i.toNat m, true) else ([], false)
theorem wr {z : Int} (h0 : -3000000000 ≤ z) (h1 : z ≤ 3000000000) : wrap64 z = z := wrap_in (by omega) (by omega)
theorem in1 (n : Nat) (hn : n ≤ 40) (i : Int) : decide (0 ≤ i ∧ i ≤ wrap64 ((n : Int) - 1)) = decide (0 ≤ i ∧ i < (n : Int)) := by
  rw [wr (by omega) (by omega), decide_eq_decide]
  omega
theorem in2 {f t : Int} (h0 : 0 ≤ f) (h1 : f < t) (h2 : t ≤ 99999) (m : Int) : decide (wrap64 (f + 1) ≤ m ∧ m ≤ wrap64 (t - 1)) = decide (f < m ∧ m < t) := by
  rw [wr (by omega) (by omega), wr (by omega) (by omega), decide_eq_decide]
  omega
theorem spl_sized (l : List NI) (hl : Sized l) (n : Nat) (m : Int) (h : n < l.length) (h40 : l.length ≤ 40) : Sized (spl l n m) := by
  refine ⟨by rw [spl_length l n m h]; omega, fun x hx => ?_⟩
  have hm := hl.2 _ (atN_mem h)
  unfold spl at hx
  rcases List.mem_append.1 hx with hx | hx
  · rcases List.mem_append.1 hx with hx | hx
    · exact hl.2 x (List.mem_of_mem_take hx)
    · simp only [List.mem_cons, List.not_mem_nil, or_false] at hx
      rcases hx with rfl | rfl
      · exact hm
      · exact hm
  · exact hl.2 x (List.mem_of_mem_drop hx)
theorem Split_s (l : List NI) (hl : Sized l) (i m : Int) : Ev (fun k => spec_SplitNote.f k l i m) (splR l i m) := by
  unfold spec_SplitNote.f splR splOk
  refine Ev.bind (tiGood_ l hl) (Ev.ite (fun h1 => ?_) (fun h1 => Ev.some (by rw [Bool.eq_false_iff.2 h1]; rfl)))
  have hn := tier_length h1
  rw [h1]
  refine Ev.have (l1In_ i 0 (wrap64 ((l.length : Int) - 1))) ?_
  rw [in1 _ hn]
  refine Ev.ite (fun h2 => ?_) (fun h2 => Ev.some (by rw [Bool.eq_false_iff.2 h2]; rfl))
  rw [h2]
  have h2' := of_decide_eq_true h2
  obtain ⟨n, rfl⟩ : ∃ n : Nat, i = (n : Int) := ⟨i.toNat, by omega⟩
  have hlt : n < l.length := by omega
  have hb := note_in (tier_at h1 hlt).1
  have er : rd_T58 l (n : Int) = atN l n := rfl
  rw [er, Int.toNat_natCast]
  refine Ev.pos (by omega) (Ev.pos (by omega) (Ev.have (l1In_ _ _ _) ?_))
  rw [in2 hb.1 hb.2.1 hb.2.2]
  refine Ev.ite (fun h3 => ?_) (fun h3 => Ev.some (by rw [Bool.eq_false_iff.2 h3]; rfl))
  have h3' := of_decide_eq_true h3
  have hw : wrap64 ((n : Int) + 1) = ((n + 1 : Nat) : Int) := wrap_succ (by omega)
  have ht : (l.take n).length = n := by rw [List.length_take]; omega
  have hd : (l.drop (n + 1)).length = l.length - (n + 1) := by rw [List.length_drop]
  rw [hw]
  refine Ev.have rfl (Ev.pos (by omega) (Ev.have rfl (Ev.pos (by simp only [List.length_nil]; omega) (Ev.have rfl (Ev.have rfl (Ev.pos (by simp only [List.nil_append, List.length_cons, List.length_nil]; omega) (Ev.have rfl (Ev.pos (by omega) (Ev.pos (by omega) (Ev.have rfl (Ev.pos (by simp only [List.nil_append, List.length_append, List.length_cons, List.length_nil, Int.toNat_natCast]; omega) ?_)))))))))))
  have e : ([] ++ l.take n ++ [(⟨(atN l n).f0, m, (atN l n).f2⟩ : NI), (⟨m, (atN l n).f1, (atN l n).f2⟩ : NI)] ++ l.drop (((n + 1 : Nat) : Int)).toNat) = spl l n m := by
    rw [List.nil_append]; rfl
  rw [e]
  refine Ev.bind (a := if decide (l.length < 40) = true then (spl l n m, true) else ([], false)) ?_ (Ev.some (by rw [h3]; cases decide (l.length < 40) <;> rfl))
  unfold spec_tiIf.f
  refine Ev.bind (tiGood_ _ (spl_sized l hl n m hlt hn)) ?_
  by_cases h4 : l.length < 40
  · rw [spl_tier l n m h1 hlt h3'.1 h3'.2 h4, if_pos (decide_eq_true h4)]
    exact Ev.pos rfl (Ev.some rfl)
  · have : tierB (spl l n m) = false := by
      rw [Bool.eq_false_iff]
      intro h
      have := tier_length h
      rw [spl_length l n m hlt] at this
      omega
    rw [this, if_neg (fun h => h4 (of_decide_eq_true h))]
    exact Ev.neg Bool.false_ne_true (Ev.some rfl)
theorem Split_i (l : List NI) (hl : Sized l) (i m : Int) : Ev (fun k => impl_SplitNote.f k l i m) (splR l i m) := by
  have hj : ∀ z, z = ([], false) → Ev (fun k => impl_SplitNote.j0 k l i m true) z := fun z hz => Ev.step (fun _ => impl_SplitNote.j0.eq_2 ..) (Ev.pos rfl (Ev.some hz.symm))
  unfold impl_SplitNote.f splR splOk
  refine Ev.bind (IsTier_ l hl) (Ev.ite (fun h1 => ?_) (fun h1 => hj _ (by rw [Bool.eq_false_iff.2 h1]; rfl)))
  have hn := tier_length h1
  rw [h1]
  refine Ev.have (within_ i 0 (wrap64 ((l.length : Int) - 1))) ?_
  rw [in1 _ hn]
  refine Ev.ite (fun h2 => ?_) (fun h2 => hj _ (by rw [Bool.eq_false_iff.2 h2]; rfl))
  rw [h2]
  have h2' := of_decide_eq_true h2
  obtain ⟨n, rfl⟩ : ∃ n : Nat, i = (n : Int) := ⟨i.toNat, by omega⟩
  have hlt : n < l.length := by omega
  have hb := note_in (tier_at h1 hlt).1
  have er : rd_T58 l (n : Int) = atN l n := rfl
  rw [er, Int.toNat_natCast]
  refine Ev.pos (by omega) (Ev.pos (by omega) (Ev.have (within_ _ _ _) ?_))
  rw [in2 hb.1 hb.2.1 hb.2.2]
  refine Ev.ite (fun h3 => ?_) (fun h3 => hj _ (by rw [Bool.eq_false_iff.2 h3]; rfl))
  rw [h3]
  by_cases h4 : l.length < 40
  · have hq : ((l.length : Int) == 40) = false := by simp; omega
    have hc : slices_Clone_Note.f l = some l := by
      unfold slices_Clone_Note.f
      rw [if_pos (by omega)]
    have hw : wrap64 ((n : Int) + 1) = ((n + 1 : Nat) : Int) := wrap_succ (by omega)
    have hins : slices_Insert_Note.f l ((n + 1 : Nat) : Int) [(⟨m, (atN l n).f1, (atN l n).f2⟩ : NI)] = some (l.take (n + 1) ++ [(⟨m, (atN l n).f1, (atN l n).f2⟩ : NI)] ++ l.drop (n + 1)) := by
      unfold slices_Insert_Note.f
      rw [if_pos ⟨by omega, by omega, rfl, by omega⟩]
      rfl
    have hx : atN l n = l[n] := by
      unfold atN
      rw [List.getD_eq_getElem?_getD, List.getElem?_eq_getElem hlt]
      rfl
    have ht : (l.take n).length = n := by rw [List.length_take]; omega
    have eI : l.take (n + 1) ++ [(⟨m, (atN l n).f1, (atN l n).f2⟩ : NI)] ++ l.drop (n + 1) = l.take n ++ (atN l n :: (⟨m, (atN l n).f1, (atN l n).f2⟩ : NI) :: l.drop (n + 1)) := by
      rw [List.take_succ_eq_append_getElem hlt, ← hx, List.append_assoc, List.append_assoc]
      rfl
    have hg : rd_T58 (l.take n ++ (atN l n :: (⟨m, (atN l n).f1, (atN l n).f2⟩ : NI) :: l.drop (n + 1))) (n : Int) = atN l n := by
      show (l.take n ++ (atN l n :: (⟨m, (atN l n).f1, (atN l n).f2⟩ : NI) :: l.drop (n + 1))).getD n z58 = atN l n
      rw [List.getD_eq_getElem?_getD, List.getElem?_append_right (by omega), ht, Nat.sub_self]
      rfl
    have hset : (l.take n ++ (atN l n :: (⟨m, (atN l n).f1, (atN l n).f2⟩ : NI) :: l.drop (n + 1))).set n (⟨(atN l n).f0, m, (atN l n).f2⟩ : NI) = spl l n m := by
      rw [List.set_append_right _ _ (by omega), ht, Nat.sub_self]
      unfold spl
      rw [List.append_assoc]
      rfl
    refine Ev.step (fun _ => impl_SplitNote.j0.eq_2 ..) (Ev.neg (by rw [hq]; simp) (Ev.have hc (Ev.pos (by omega) (Ev.pos (by omega) ?_))))
    rw [hw, er]
    refine Ev.have (hins.trans (congrArg some eI)) (Ev.pos (by rw [List.length_append, ht]; simp only [List.length_cons]; omega) (Ev.some ?_))
    rw [hg, Int.toNat_natCast, hset, decide_eq_true h4]
    rfl
  · have hq : ((l.length : Int) == 40) = true := by simp; omega
    rw [hq]
    exact hj _ (by rw [decide_eq_false h4]; rfl)
theorem splR_length (l : List NI) (i m : Int) : (splR l i m).1.length ≤ l.length + 1 := by
  unfold splR
  split
  · rename_i h
    unfold splOk at h
    simp only [Bool.and_eq_true, decide_eq_true_eq] at h
    show (spl l i.toNat m).length ≤ _
    rw [spl_length l _ m (by omega)]
    exact Nat.le_refl _
  · exact Nat.zero_le _
end Go.Proofs.Ytgapcmmhbegdeaa.MCSplitNote
end
section
/- What the laws draw: every cursor's function answers, and what it answers. No condition. -/
namespace Go.Proofs.Ytgapcmmhbegdeaa.MDraw
open Go.RowKit Go.Proofs.Ytgapcmmhbegdeaa.G Go.Proofs.YtgapcmmhbegdeaaW.PrintWords Go.Proofs.YtgapcmmhbegdeaaW.PrintLast Go.Proofs.Ytgapcmmhbegdeaa.MPure

/-- The bytes that come in. -/
def Bytes (s : List Int) : Prop := ∀ a, a ∈ s → (Lit.int .u8 a).wf = true
theorem Bytes.at {s : List Int} (h : Bytes s) (i : Int) (h0 : 0 ≤ i) (h1 : i < (s.length : Int)) : 0 ≤ rd s i ∧ rd s i ≤ 255 := by
  have hm : rd s i ∈ s := by
    show s.getD i.toNat 0 ∈ s
    rw [List.getD_eq_getElem?_getD, List.getElem?_eq_getElem (show i.toNat < s.length by omega)]
    exact List.getElem_mem _
  have := h _ hm
  simp only [Lit.wf, Bool.and_eq_true, decide_eq_true_eq] at this
  exact this
theorem and_255 (x : Int) : 0 ≤ Go.bits .and .u64 x 255 ∧ Go.bits .and .u64 x 255 ≤ 255 := by
  have h : ((BitVec.ofInt IntKind.u64.bits x) &&& (BitVec.ofInt IntKind.u64.bits 255)).toNat ≤ 255 := by
    rw [BitVec.toNat_and]
    exact Nat.le_trans Nat.and_le_right (by decide)
  unfold Go.bits
  simp only
  generalize ((BitVec.ofInt IntKind.u64.bits x) &&& (BitVec.ofInt IntKind.u64.bits 255)).toNat = n at h
  have e : IntKind.u64.wrap (n : Int) = (n : Int) := by
    have h1 : (0 : Int) ≤ n := by omega
    have h2 : (n : Int) ≤ 255 := by omega
    generalize (n : Int) = z at h1 h2
    unfold IntKind.wrap
    simp [IntKind.signed, IntKind.bits]
    omega
  rw [e]
  omega
theorem next_ (s : List Int) (hs : Bytes s) (a d : Int) (h0 : 0 ≤ a) (h1 : a ≤ 1000000000000000) : ∃ v d', spec_l1Cur_next.f s a d = some (v, a + 1, d') ∧ 0 ≤ v ∧ v ≤ 255 := by
  have hw : wrap64 (a + 1) = a + 1 := wrap_in (by omega) (by omega)
  unfold spec_l1Cur_next.f
  rw [hw]
  split
  · rename_i h
    have hr := hs.at a h0 h
    have hv : wrap64 (rd s a) = rd s a := wrap_in (by omega) (by omega)
    rw [if_pos (by omega), hv]
    exact ⟨_, _, rfl, hr.1, hr.2⟩
  · split
    · exact ⟨_, _, rfl, by omega, by omega⟩
    · have hb := and_255 ((IntKind.u64.wrap ((IntKind.u64.wrap ((IntKind.u64.wrap (d * 6364136223846793005)) + 0)) + 1442695040888963407)) / 1099511627776)
      refine ⟨_, _, rfl, ?_, ?_⟩
      · rw [wrap_in (by omega) (by omega)]; exact hb.1
      · rw [wrap_in (by omega) (by omega)]; exact hb.2
theorem pick_ (s : List Int) (hs : Bytes s) (a d n : Int) (h0 : 0 ≤ a) (h1 : a ≤ 1000000000000) : ∃ v a' d', spec_l1Cur_pick.f s a d n = some (v, a', d') ∧ 0 ≤ v ∧ v ≤ 65535 ∧ (1 ≤ n → v < n) ∧ a ≤ a' ∧ a' ≤ a + 2 := by
  unfold spec_l1Cur_pick.f
  split
  · exact ⟨_, _, _, rfl, by omega, by omega, fun h => by omega, by omega, by omega⟩
  · rename_i hn
    obtain ⟨v, d1, e1, v0, v1⟩ := next_ s hs a d h0 (by omega)
    rw [e1]
    simp only [Option.bind_some]
    split
    · obtain ⟨u, d2, e2, u0, u1⟩ := next_ s hs (a + 1) d1 (by omega) (by omega)
      rw [e2]
      simp only [Option.bind_some]
      rw [if_neg (by omega), wrap_in (show -9223372036854775808 ≤ v * 256 by omega) (by omega), wrap_in (show -9223372036854775808 ≤ v * 256 + u by omega) (by omega)]
      have t0 := Int.tmod_nonneg n (show 0 ≤ v * 256 + u by omega)
      have t1 := Int.tmod_lt_of_pos (v * 256 + u) (show 0 < n by omega)
      have t2 : Int.tmod (v * 256 + u) n ≤ v * 256 + u := by
        rw [Int.tmod_eq_emod_of_nonneg (by omega)]
        have := Int.mul_ediv_add_emod (v * 256 + u) n
        have h3 : 0 ≤ (v * 256 + u) / n := Int.ediv_nonneg (by omega) (by omega)
        have h4 : 0 ≤ n * ((v * 256 + u) / n) := Int.mul_nonneg (by omega) h3
        omega
      exact ⟨_, _, _, rfl, t0, by omega, fun _ => t1, by omega, by omega⟩
    · rw [if_neg (by omega)]
      have t0 := Int.tmod_nonneg n v0
      have t1 := Int.tmod_lt_of_pos v (show 0 < n by omega)
      have t2 : Int.tmod v n ≤ v := by
        rw [Int.tmod_eq_emod_of_nonneg v0]
        have := Int.mul_ediv_add_emod v n
        have h3 : 0 ≤ v / n := Int.ediv_nonneg v0 (by omega)
        have h4 : 0 ≤ n * (v / n) := Int.mul_nonneg (by omega) h3
        omega
      exact ⟨_, _, _, rfl, t0, by omega, fun _ => t1, by omega, by omega⟩
theorem one_ (s : List Int) (hs : Bytes s) (a d n : Int) (h0 : 0 ≤ a) (h1 : a ≤ 1000000000000) : ∃ v a' d', spec_l1Cur_one.f s a d n = some (v, a', d') ∧ a ≤ a' ∧ a' ≤ a + 2 := by
  obtain ⟨v, a', d', e, _, _, _, g1, g2⟩ := pick_ s hs a d n h0 h1
  unfold spec_l1Cur_one.f
  rw [e]
  exact ⟨_, _, _, rfl, g1, g2⟩
theorem among_ (s : List Int) (hs : Bytes s) (a d : Int) (l : List Int) (hl : 0 < l.length) (h0 : 0 ≤ a) (h1 : a ≤ 1000000000000) : ∃ v a' d', spec_l1Cur_among.f s a d l = some (v, a', d') ∧ v ∈ l ∧ a ≤ a' ∧ a' ≤ a + 2 := by
  obtain ⟨v, a', d', e, v0, _, v1, g1, g2⟩ := pick_ s hs a d (l.length : Int) h0 h1
  have hv := v1 (by omega)
  unfold spec_l1Cur_among.f
  rw [e]
  simp only [Option.bind_some]
  rw [if_pos v0, if_pos hv]
  refine ⟨_, _, _, rfl, ?_, g1, g2⟩
  show l.getD v.toNat 0 ∈ l
  rw [List.getD_eq_getElem?_getD, List.getElem?_eq_getElem (show v.toNat < l.length by omega)]
  exact List.getElem_mem _
theorem of_ (s : List Int) (hs : Bytes s) (a d : Int) (l : List ByteArray) (hl : 0 < l.length) (h0 : 0 ≤ a) (h1 : a ≤ 1000000000000) : ∃ v a' d', spec_l1Cur_of.f s a d l = some (v, a', d') ∧ v ∈ l ∧ a ≤ a' ∧ a' ≤ a + 2 := by
  obtain ⟨v, a', d', e, v0, _, v1, g1, g2⟩ := pick_ s hs a d (l.length : Int) h0 h1
  have hv := v1 (by omega)
  unfold spec_l1Cur_of.f
  rw [e]
  simp only [Option.bind_some]
  rw [if_pos v0, if_pos hv]
  refine ⟨_, _, _, rfl, ?_, g1, g2⟩
  show l.getD v.toNat ByteArray.empty ∈ l
  rw [List.getD_eq_getElem?_getD, List.getElem?_eq_getElem (show v.toNat < l.length by omega)]
  exact List.getElem_mem _
/-- A number of the machine. -/
def I64 (z : Int) : Prop := -9223372036854775808 ≤ z ∧ z ≤ 9223372036854775807
theorem wrap_i64 (z : Int) : I64 (wrap64 z) := by unfold I64 wrap64; omega
end Go.Proofs.Ytgapcmmhbegdeaa.MDraw
end
section
/- The drawn tiers: every draw answers with notes that are sized. No condition. -/
namespace Go.Proofs.Ytgapcmmhbegdeaa.MDrawT
open Go.RowKit Go.Proofs.Ytgapcmmhbegdeaa.G Go.Proofs.YtgapcmmhbegdeaaW.PrintWords Go.Proofs.YtgapcmmhbegdeaaW.PrintLast Go.Proofs.Ytgapcmmhbegdeaa.MPure Go.Proofs.Ytgapcmmhbegdeaa.MWord Go.Proofs.Ytgapcmmhbegdeaa.MNote Go.Proofs.Ytgapcmmhbegdeaa.MDraw

theorem note_ (s : List Int) (hs : Bytes s) (a d f : Int) (h0 : 0 ≤ a) (h1 : a ≤ 100000000000) : ∃ x y g a' d', spec_l1Cur_note.f s a d f = some (x, y, g, a', d') ∧ g.size ≤ 100 ∧ a ≤ a' ∧ a' ≤ a + 10 := by
  obtain ⟨v1, a1, d1, e1, m1, p1, q1⟩ := among_ s hs a d [1, 5, 8, 20] (by decide) h0 (by omega)
  obtain ⟨v2, a2, d2, e2, m2, p2, q2⟩ := of_ s hs a1 d1 [(⟨#[72, 79, 85, 83, 69]⟩ : ByteArray), (⟨#[71, 79]⟩ : ByteArray), (⟨#[73]⟩ : ByteArray), (⟨#[89, 79, 85]⟩ : ByteArray), (⟨#[71, 79]⟩ : ByteArray), (⟨#[71, 73, 86, 69]⟩ : ByteArray), (⟨#[66, 79, 79, 75]⟩ : ByteArray)] (by decide) (by omega) (by omega)
  obtain ⟨v3, a3, d3, e3, _, _, _, p3, q3⟩ := pick_ s hs a2 d2 60 (by omega) (by omega)
  have hg : v2.size ≤ 100 := by
    simp only [List.mem_cons, List.not_mem_nil, or_false] at m2
    rcases m2 with rfl | rfl | rfl | rfl | rfl | rfl | rfl <;> decide
  unfold spec_l1Cur_note.f
  rw [e1]; simp only [Option.bind_some]; rw [e2]; simp only [Option.bind_some]; rw [e3]; simp only [Option.bind_some]
  split
  · obtain ⟨v4, a4, d4, e4, m4, p4, q4⟩ := among_ s hs a3 d3 [f, wrap64 (f - 1), 100000] (by simp) (by omega) (by omega)
    rw [e4]
    exact ⟨_, _, _, _, _, rfl, hg, by show a ≤ a4; omega, by show a4 ≤ a + 10; omega⟩
  · split
    · obtain ⟨v4, a4, d4, e4, m4, p4, q4⟩ := of_ s hs a3 d3 [(⟨#[]⟩ : ByteArray), (⟨#[103, 111]⟩ : ByteArray), (⟨#[78, 73, 78, 69, 76, 69, 84, 84, 82]⟩ : ByteArray)] (by decide) (by omega) (by omega)
      rw [e4]
      refine ⟨_, _, _, _, _, rfl, ?_, by show a ≤ a4; omega, by show a4 ≤ a + 10; omega⟩
      simp only [List.mem_cons, List.not_mem_nil, or_false] at m4
      show v4.size ≤ 100
      rcases m4 with rfl | rfl | rfl <;> decide
    · split
      · obtain ⟨v4, a4, d4, e4, m4, p4, q4⟩ := among_ s hs a3 d3 [(-1), (-9223372036854775808)] (by decide) (by omega) (by omega)
        rw [e4]
        exact ⟨_, _, _, _, _, rfl, hg, by show a ≤ a4; omega, by show a4 ≤ a + 10; omega⟩
      · exact ⟨_, _, _, _, _, rfl, hg, by show a ≤ a3; omega, by show a3 ≤ a + 10; omega⟩
/-- Notes with short texts. -/
def Short (l : List NI) : Prop := ∀ x, x ∈ l → x.f2.size ≤ 100
theorem Short.sized {l : List NI} (h : Short l) (hl : l.length ≤ 100) : Sized l := ⟨by omega, fun x hx => Nat.le_trans (h x hx) (by decide)⟩
theorem Short.snoc {l : List NI} (h : Short l) {x : NI} (hx : x.f2.size ≤ 100) : Short (l ++ [x]) := fun y hy => by
  rcases List.mem_append.1 hy with hy | hy
  · exact h y hy
  · obtain rfl := List.mem_singleton.1 hy; exact hx
theorem most_ (a b : Int) : ∃ v, spec_l1Most.f a b = some v := by
  unfold spec_l1Most.f
  split <;> exact ⟨_, rfl⟩
theorem least_ (a b : Int) : ∃ v, spec_l1Least.f a b = some v := by
  unfold spec_l1Least.f
  split <;> exact ⟨_, rfl⟩
theorem tier_loop (s : List Int) (hs : Bytes s) : ∀ (n : Nat) (l : List NI) (f m a d : Int), l.length + n = m.toNat → m ≤ 60 → Short l → 0 ≤ a → a + 20 * n ≤ 10000000000 → ∃ r a' d', Ev (fun k => spec_l1Cur_tier.l0 k l f m s a d) (r, a', d') ∧ r.length ≤ l.length + n ∧ Short r ∧ a ≤ a' ∧ a' ≤ a + 20 * n := by
  intro n
  induction n with
  | zero =>
    intro l f m a d hl hm hS h0 h1
    exact ⟨l, a, d, Ev.step (fun _ => spec_l1Cur_tier.l0.eq_2 ..) (Ev.neg (by omega) (Ev.some rfl)), by omega, hS, by omega, by omega⟩
  | succ n ih =>
    intro l f m a d hl hm hS h0 h1
    obtain ⟨x, y, g, a1, d1, e1, hg, p1, q1⟩ := note_ s hs a d f h0 (by omega)
    have step : ∀ (b : Bool) (a2 d2 : Int), a1 ≤ a2 → a2 ≤ a1 + 2 → (b = true → 0 < l.length) → ∃ r a' d', Ev (fun k => spec_l1Cur_tier.j2 k l m (l.length : Int) b s a2 d2 x y g) (r, a', d') ∧ r.length ≤ l.length + (n + 1) ∧ Short r ∧ a ≤ a' ∧ a' ≤ a + 20 * ((n + 1 : Nat) : Int) := by
      intro b a2 d2 pa qa hb
      obtain ⟨v5, e5⟩ := most_ 0 y
      obtain ⟨v6, e6⟩ := least_ 90000 v5
      obtain ⟨v7, a7, d7, e7, _, p7, q7⟩ := among_ s hs a2 d2 [0, 0, 2, 5] (by decide) (by omega) (by omega)
      cases b with
      | true =>
        have hpos := hb rfl
        have hp := wrap_pred (i := l.length) hpos (by omega)
        have hmem : rd_T58 l ((l.length - 1 : Nat) : Int) ∈ l := by
          show l.getD (l.length - 1) z58 ∈ l
          rw [List.getD_eq_getElem?_getD, List.getElem?_eq_getElem (show l.length - 1 < l.length by omega)]
          exact List.getElem_mem _
        have hsm := hS _ hmem
        obtain ⟨r, a', d', er, hr, hSr, pr, qr⟩ := ih (l ++ [⟨x, y, (rd_T58 l ((l.length - 1 : Nat) : Int)).f2⟩]) (wrap64 (v6 + v7)) m a7 d7 (by rw [List.length_append]; show l.length + 1 + n = _; omega) hm (hS.snoc hsm) (by omega) (by omega)
        refine ⟨r, a', d', Ev.step (fun _ => spec_l1Cur_tier.j2.eq_2 ..) (Ev.pos rfl ?_), by rw [List.length_append] at hr; show r.length ≤ _; have : ([⟨x, y, (rd_T58 l ((l.length - 1 : Nat) : Int)).f2⟩] : List NI).length = 1 := rfl; omega, hSr, by omega, by omega⟩
        rw [hp]
        exact Ev.pos (by omega) (Ev.pos (by omega) (Ev.pos (by omega) (Ev.have e5 (Ev.have e6 (Ev.have e7 er)))))
      | false =>
        obtain ⟨r, a', d', er, hr, hSr, pr, qr⟩ := ih (l ++ [⟨x, y, g⟩]) (wrap64 (v6 + v7)) m a7 d7 (by rw [List.length_append]; show l.length + 1 + n = _; omega) hm (hS.snoc hg) (by omega) (by omega)
        refine ⟨r, a', d', Ev.step (fun _ => spec_l1Cur_tier.j2.eq_2 ..) (Ev.neg (by decide) ?_), by rw [List.length_append] at hr; have : ([⟨x, y, g⟩] : List NI).length = 1 := rfl; omega, hSr, by omega, by omega⟩
        exact Ev.pos (by omega) (Ev.have e5 (Ev.have e6 (Ev.have e7 er)))
    by_cases hpos : 0 < l.length
    · obtain ⟨b, a2, d2, e2, p2, q2⟩ := one_ s hs a1 d1 4 (by omega) (by omega)
      obtain ⟨r, a', d', er, hr, hSr, pr, qr⟩ := step b a2 d2 p2 q2 (fun _ => hpos)
      exact ⟨r, a', d', Ev.step (fun _ => spec_l1Cur_tier.l0.eq_2 ..) (Ev.pos (by omega) (Ev.have e1 (Ev.pos (by omega) (Ev.have e2 er)))), hr, hSr, pr, qr⟩
    · obtain ⟨r, a', d', er, hr, hSr, pr, qr⟩ := step false a1 d1 (by omega) (by omega) (fun h => (nomatch h))
      exact ⟨r, a', d', Ev.step (fun _ => spec_l1Cur_tier.l0.eq_2 ..) (Ev.pos (by omega) (Ev.have e1 (Ev.neg (by omega) er))), hr, hSr, pr, qr⟩
/-- A drawn tier: at most 41 notes with short texts. -/
theorem tier_ (s : List Int) (hs : Bytes s) (a d : Int) (h0 : 0 ≤ a) (h1 : a ≤ 1000000000) : ∃ r a' d', Ev (fun k => spec_l1Cur_tier.f k s a d) (r, a', d') ∧ r.length ≤ 60 ∧ Short r ∧ a ≤ a' ∧ a' ≤ a + 2000 := by
  obtain ⟨v1, a1, d1, e1, _, _, _, p1, q1⟩ := pick_ s hs a d 10 h0 (by omega)
  obtain ⟨v2, a2, d2, e2, v20, _, v21, p2, q2⟩ := pick_ s hs a1 d1 8 (by omega) (by omega)
  obtain ⟨b, a3, d3, e3, p3, q3⟩ := one_ s hs a2 d2 12 (by omega) (by omega)
  have hv2 := v21 (by omega)
  have go : ∀ (m a4 d4 : Int), 0 ≤ m → m ≤ 60 → a ≤ a4 → a4 ≤ a + 10 → ∃ r a' d', Ev (fun k => spec_l1Cur_tier.j0 k [] v1 m s a4 d4) (r, a', d') ∧ r.length ≤ 60 ∧ Short r ∧ a ≤ a' ∧ a' ≤ a + 2000 := by
    intro m a4 d4 hm0 hm pa qa
    obtain ⟨r, a', d', er, hr, hSr, pr, qr⟩ := tier_loop s hs m.toNat [] v1 m a4 d4 (by simp) hm (fun x hx => (nomatch hx)) (by omega) (by omega)
    exact ⟨r, a', d', Ev.step (fun _ => spec_l1Cur_tier.j0.eq_2 ..) er, by have : ([] : List NI).length = 0 := rfl; omega, hSr, by omega, by omega⟩
  cases b with
  | true =>
    obtain ⟨v4, a4, d4, e4, v40, _, v41, p4, q4⟩ := pick_ s hs a3 d3 2 (by omega) (by omega)
    have hv4 := v41 (by omega)
    obtain ⟨r, a', d', er, hr, hSr, pr, qr⟩ := go (wrap64 (40 + v4)) a4 d4 (by rw [wrap_in (by omega) (by omega)]; omega) (by rw [wrap_in (by omega) (by omega)]; omega) (by omega) (by omega)
    refine ⟨r, a', d', ?_, hr, hSr, pr, qr⟩
    unfold spec_l1Cur_tier.f
    exact Ev.have e1 (Ev.have e2 (Ev.have e3 (Ev.pos rfl (Ev.have e4 er))))
  | false =>
    obtain ⟨r, a', d', er, hr, hSr, pr, qr⟩ := go v2 a3 d3 v20 (by omega) (by omega) (by omega)
    refine ⟨r, a', d', ?_, hr, hSr, pr, qr⟩
    unfold spec_l1Cur_tier.f
    exact Ev.have e1 (Ev.have e2 (Ev.have e3 (Ev.neg (show ¬ false = true by decide) er)))
end Go.Proofs.Ytgapcmmhbegdeaa.MDrawT
end
section
/- The laws' comparison of notes: a list is like itself. No condition. -/
namespace Go.Proofs.Ytgapcmmhbegdeaa.MQNotes
open Go.RowKit Go.Proofs.Ytgapcmmhbegdeaa.G Go.Proofs.YtgapcmmhbegdeaaW.PrintWords Go.Proofs.YtgapcmmhbegdeaaW.PrintLast Go.Proofs.Ytgapcmmhbegdeaa.MPure Go.Proofs.Ytgapcmmhbegdeaa.MWord Go.Proofs.Ytgapcmmhbegdeaa.MNote

theorem qNotes_ (l : List NI) (hl : l.length ≤ 140737488351232) : Ev (fun k => laws_qNotes.f k l l) true := by
  unfold laws_qNotes.f
  refine Ev.pos rfl ?_
  have h := loop_all0 (L := fun k i => laws_qNotes.l0 k l l (l.length : Int) i) l.length (fun _ => true) true (Ev.step (fun _ => laws_qNotes.l0.eq_2 ..) (Ev.neg (by omega) (Ev.some rfl)))
    (fun i hi _ r ih => by
      rw [← wrap_succ (by omega)] at ih
      exact Ev.step (fun _ => laws_qNotes.l0.eq_2 ..) (Ev.pos (by omega) (Ev.pos (by omega) (Ev.pos (by omega) (Ev.pos (by omega) (Ev.neg (by simp) ih))))))
    (fun _ _ h => by cases h)
  exact Ev.eq h (by simp)
end Go.Proofs.Ytgapcmmhbegdeaa.MQNotes
end
