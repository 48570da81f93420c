/- Plain laws of the functions that the claim's functions call: what they compute, with no program in sight. No condition. -/
import Derived.Test.YtgapcmmhbegdeaaWAll
import Derived.Lib.Bytealg
import Derived.Test.YtgapcmmhbegdeaaG2
import Derived.Test.YtgapcmmhbegdeaaG6
import Derived.Test.YtgapcmmhbegdeaaG0
import Derived.Test.YtgapcmmhbegdeaaG1
import Derived.Test.YtgapcmmhbegdeaaG4
import Derived.Test.YtgapcmmhbegdeaaG5
import Derived.Test.YtgapcmmhbegdeaaG7
import Derived.Test.YtgapcmmhbegdeaaMBase
import Derived.Test.YtgapcmmhbegdeaaG8
import Derived.Test.YtgapcmmhbegdeaaG25
import Derived.Test.YtgapcmmhbegdeaaG17
import Derived.Test.YtgapcmmhbegdeaaG29
import Derived.Test.YtgapcmmhbegdeaaG30
import Derived.Test.YtgapcmmhbegdeaaG31
import Derived.Test.YtgapcmmhbegdeaaG32
import Derived.Test.YtgapcmmhbegdeaaG33
import Derived.Test.YtgapcmmhbegdeaaG34
import Derived.Test.YtgapcmmhbegdeaaG35
import Derived.Test.YtgapcmmhbegdeaaG36
import Derived.Test.YtgapcmmhbegdeaaG37
import Derived.Test.YtgapcmmhbegdeaaG38
import Derived.Test.YtgapcmmhbegdeaaG39
import Derived.Test.YtgapcmmhbegdeaaG40
import Derived.Test.YtgapcmmhbegdeaaG41
import Derived.Test.YtgapcmmhbegdeaaG27
import Derived.Test.YtgapcmmhbegdeaaG18
import Derived.Test.YtgapcmmhbegdeaaG28
import Derived.Test.YtgapcmmhbegdeaaG26
section
/- Plain lemmas on rounds, lists and numbers, for the laws' pure statements: no program in sight. -/
namespace Go.Proofs.Ytgapcmmhbegdeaa.MPure
open Go.RowKit Go.Proofs.YtgapcmmhbegdeaaW.PrintWords Go.Proofs.YtgapcmmhbegdeaaW.PrintLast

theorem Ev.pos {α : Type} {c : Prop} [Decidable c] {f g : Nat → Option α} {r : α} (h : c) (k : Ev f r) : Ev (fun n => if c then f n else g n) r := by
  simpa only [if_pos h] using k
theorem Ev.neg {α : Type} {c : Prop} [Decidable c] {f g : Nat → Option α} {r : α} (h : ¬ c) (k : Ev g r) : Ev (fun n => if c then f n else g n) r := by
  simpa only [if_neg h] using k
theorem Ev.some {α : Type} {a r : α} (h : a = r) : Ev (fun _ => Option.some a) r := h ▸ Ev.now a
theorem Ev.have {α β : Type} {a : Option α} {x : α} {f : Nat → α → Option β} {r : β} (h : a = .some x) (k : Ev (fun n => f n x) r) : Ev (fun n => a.bind (f n)) r := by
  subst h
  exact k
theorem Ev.ite {α : Type} {c : Prop} [Decidable c] {f g : Nat → Option α} {r : α} (h : c → Ev f r) (k : ¬ c → Ev g r) : Ev (fun n => if c then f n else g n) r := by
  by_cases hc : c
  · exact Ev.pos hc (h hc)
  · exact Ev.neg hc (k hc)
theorem Ev.eq {α : Type} {g : Nat → Option α} {a r : α} (k : Ev g a) (h : a = r) : Ev g r := h ▸ k
theorem wrap_in {n : Int} (h : -9223372036854775808 ≤ n) (h' : n ≤ 9223372036854775807) : wrap64 n = n := by unfold wrap64; omega
theorem wrap_succ {i : Nat} (h : i ≤ 9223372036854775806) : wrap64 ((i : Int) + 1) = ((i + 1 : Nat) : Int) := by unfold wrap64; omega
theorem wrap_pred {i : Nat} (h0 : 0 < i) (h : i ≤ 9223372036854775806) : wrap64 ((i : Int) - 1) = ((i - 1 : Nat) : Int) := by unfold wrap64; omega
/-- A loop that stops with 'false' at the first place at which p does not hold, and answers e behind the last one. -/
theorem loop_all {L : Nat → Int → Option Bool} (n : Nat) (p : Nat → Bool) (e : Bool) (hend : Ev (fun k => L k (n : Int)) e)
    (hyes : ∀ i : Nat, i < n → p i = true → ∀ r, Ev (fun k => L k ((i + 1 : Nat) : Int)) r → Ev (fun k => L k (i : Int)) r) (hno : ∀ i : Nat, i < n → p i = false → Ev (fun k => L k (i : Int)) false) :
    ∀ d i : Nat, i + d = n → Ev (fun k => L k (i : Int)) ((List.range' i d).all p && e)
  | 0, i, h => by
    have : i = n := by omega
    subst this
    simpa using hend
  | d + 1, i, h => by
    have hi : i < n := by omega
    cases hp : p i with
    | true =>
      have ih := loop_all n p e hend hyes hno d (i + 1) (by omega)
      have := hyes i hi hp _ ih
      simpa [List.range'_succ, hp] using this
    | false =>
      have := hno i hi hp
      simpa [List.range'_succ, hp] using this
/-- The same from its begin. -/
theorem loop_all0 {L : Nat → Int → Option Bool} (n : Nat) (p : Nat → Bool) (e : Bool) (hend : Ev (fun k => L k (n : Int)) e)
    (hyes : ∀ i : Nat, i < n → p i = true → ∀ r, Ev (fun k => L k ((i + 1 : Nat) : Int)) r → Ev (fun k => L k (i : Int)) r) (hno : ∀ i : Nat, i < n → p i = false → Ev (fun k => L k (i : Int)) false) :
    Ev (fun k => L k 0) ((List.range n).all p && e) := by
  have h := loop_all n p e hend hyes hno n 0 (by omega)
  rw [← List.range_eq_range'] at h
  exact h

theorem all_congr {n : Nat} {p q : Nat → Bool} (h : ∀ i, i < n → p i = q i) : (List.range n).all p = (List.range n).all q := by
  rw [Bool.eq_iff_iff]
  simp only [List.all_eq_true, List.mem_range]
  constructor
  · exact fun H i hi => by rw [← h i hi]; exact H i hi
  · exact fun H i hi => by rw [h i hi]; exact H i hi

end Go.Proofs.Ytgapcmmhbegdeaa.MPure
end
section
/- Words: what the printed functions on texts of some letters come to. -/
namespace Go.Proofs.Ytgapcmmhbegdeaa.MWord
open Go.RowKit Go.Proofs.Ytgapcmmhbegdeaa.G Go.Proofs.YtgapcmmhbegdeaaW.PrintWords Go.Proofs.YtgapcmmhbegdeaaW.PrintLast Go.Proofs.Ytgapcmmhbegdeaa.MPure

/-- 1 to 8 bytes, of each of which p holds. -/
def wordB (p : Int → Bool) (s : ByteArray) : Bool := (List.range s.size).all (fun i => p (bt s (i : Int))) && decide (1 ≤ (s.size : Int) ∧ (s.size : Int) ≤ 8)
def capB (c : Int) : Bool := decide (65 ≤ c ∧ c ≤ 90)
theorem l1In_ (a b c : Int) : yBK.f a b c = some (decide (b ≤ a ∧ a ≤ c)) := by
  unfold yBK.f
  by_cases h : a ≥ b
  · rw [if_pos h]; simp [show b ≤ a from h]
  · rw [if_neg h]; simp [show ¬ b ≤ a from h]
theorem within_ (a b c : Int) : yBE.f a b c = some (decide (b ≤ a ∧ a ≤ c)) := by
  unfold yBE.f
  by_cases h : a ≥ b
  · rw [if_pos h]; simp [show b ≤ a from h]
  · rw [if_neg h]; simp [show ¬ b ≤ a from h]

/-- Which bytes are among some letters. -/
def amongB (ls : ByteArray) (c : Int) : Bool := decide (0 ≤ Lib.indexByte ls.data.toList c.toNat.toUInt8)
theorem hasOnly_ (s ls : ByteArray) (hs : s.size ≤ 140737488351232) : Ev (fun k => yAz.f k s ls) ((List.range s.size).all (fun i => amongB ls (bt s (i : Int)))) := by
  refine Ev.eq (loop_all0 (L := fun k i => yAz.l0 k s ls (s.size : Int) i) s.size (fun i => amongB ls (bt s (i : Int))) true ?_ ?_ ?_) (Bool.and_true _)
  · refine Ev.step (f := fun _ => _) (fun k => ?_) (Ev.some rfl)
    simp only [yAz.l0]
    rw [if_neg (by omega)]
  · intro i hi hp r hr
    refine Ev.step (f := fun k => yAz.l0 k s ls (s.size : Int) ((i + 1 : Nat) : Int)) (fun k => ?_) hr
    simp only [amongB, decide_eq_true_eq] at hp
    simp only [yAz.l0, yBC.f, Option.bind_some]
    rw [if_pos (by omega), if_pos (by omega), if_pos (by omega), if_neg (by omega), wrap_succ (by omega)]
  · intro i hi hp
    refine Ev.step (f := fun k => some false) (fun k => ?_) (Ev.some rfl)
    simp only [amongB, decide_eq_false_iff_not] at hp
    simp only [yAz.l0, yBC.f, Option.bind_some]
    rw [if_pos (by omega), if_pos (by omega), if_pos (by omega), if_pos (by omega)]
theorem isWordOf_ (s ls : ByteArray) (hs : s.size ≤ 140737488351232) : Ev (fun k => yBJ.f k s ls) (wordB (amongB ls) s) := by
  unfold yBJ.f
  refine Ev.have (within_ _ _ _) (Ev.ite (fun h => ?_) (fun h => ?_))
  · refine Ev.bind (hasOnly_ s ls hs) (Ev.some ?_)
    simp only [wordB]
    rw [h, Bool.and_true]
  · refine Ev.some ?_
    simp only [wordB]
    rw [Bool.eq_false_iff.2 h, Bool.and_false]
/-- The capital letters, as the program has them. -/
theorem caps (c : Int) (h0 : 0 ≤ c) (h1 : c ≤ 255) : amongB (⟨#[65, 66, 67, 68, 69, 70, 71, 72, 73, 74, 75, 76, 77, 78, 79, 80, 81, 82, 83, 84, 85, 86, 87, 88, 89, 90]⟩ : ByteArray) c = capB c := by
  have key : ∀ n : Nat, n < 256 → amongB (⟨#[65, 66, 67, 68, 69, 70, 71, 72, 73, 74, 75, 76, 77, 78, 79, 80, 81, 82, 83, 84, 85, 86, 87, 88, 89, 90]⟩ : ByteArray) (n : Int) = capB (n : Int) := by decide +kernel
  obtain ⟨n, rfl⟩ := Int.eq_ofNat_of_zero_le h0
  exact key n (by omega)
theorem wordB_congr {p q : Int → Bool} (h : ∀ c, 0 ≤ c → c ≤ 255 → p c = q c) (s : ByteArray) : wordB p s = wordB q s := by
  unfold wordB
  rw [all_congr (fun i _ => h _ (bt_range s _).1 (bt_range s _).2)]
theorem isWord_ (s : ByteArray) (hs : s.size ≤ 140737488351232) : Ev (fun k => yBJ.f k s (⟨#[65, 66, 67, 68, 69, 70, 71, 72, 73, 74, 75, 76, 77, 78, 79, 80, 81, 82, 83, 84, 85, 86, 87, 88, 89, 90]⟩ : ByteArray)) (wordB capB s) :=
  Ev.eq (isWordOf_ s _ hs) (wordB_congr caps s)

end Go.Proofs.Ytgapcmmhbegdeaa.MWord
end
section
/- What the printed functions on notes and tiers come to, by numbers and lists alone: words, notes, tiers, the copies and the comparison that the exact laws use. -/
namespace Go.Proofs.Ytgapcmmhbegdeaa.MNote
open Go.RowKit Go.Proofs.Ytgapcmmhbegdeaa.G Go.Proofs.YtgapcmmhbegdeaaW.PrintWords Go.Proofs.YtgapcmmhbegdeaaW.PrintLast Go.Proofs.Ytgapcmmhbegdeaa.MPure Go.Proofs.Ytgapcmmhbegdeaa.MWord

theorem fsWord_ (s : ByteArray) (hs : s.size ≤ 140737488351232) : Ev (fun k => yA1.f k s) (wordB capB s) := by
  refine loop_all0 (L := fun k i => yA1.l0 k s i) s.size (fun i => capB (bt s (i : Int))) _ ?_ ?_ ?_
  · refine Ev.step (f := fun _ => _) (fun k => ?_) (Ev.some rfl)
    simp only [yA1.l0]
    rw [if_neg (by omega), l1In_]
    rfl
  · intro i hi hp r hr
    refine Ev.step (f := fun k => yA1.l0 k s ((i + 1 : Nat) : Int)) (fun k => ?_) hr
    simp only [capB, decide_eq_true_eq] at hp
    simp only [yA1.l0]
    rw [if_pos (by omega), if_pos (by omega), if_neg (by omega), if_neg (by omega), wrap_succ (by omega)]
  · intro i hi hp
    simp only [capB, decide_eq_false_iff_not] at hp
    by_cases h : bt s (i : Int) < 65
    · refine Ev.step (f := fun k => some false) (fun k => ?_) (Ev.some rfl)
      simp only [yA1.l0]
      rw [if_pos (by omega), if_pos (by omega), if_pos h]
    · refine Ev.step (f := fun k => some false) (fun k => ?_) (Ev.some rfl)
      simp only [yA1.l0]
      rw [if_pos (by omega), if_pos (by omega), if_neg h, if_pos (by omega)]

/-! ### notes -/
def frameB (n : Int) : Bool := decide (0 ≤ n ∧ n ≤ 99999)
def noteB (f t : Int) (g : ByteArray) : Bool := frameB f && frameB t && decide (f < t) && wordB capB g
theorem tiFrame_ (a : Int) : yAs.f a = some (frameB a) := by
  unfold yAs.f
  rw [l1In_]
  rfl
theorem isFrame_ (a : Int) : yAy.f a = some (frameB a) := by
  unfold yAy.f
  rw [within_]
  rfl
theorem tiNote_ (f t : Int) (g : ByteArray) (hg : g.size ≤ 140737488351232) : Ev (fun k => yBN.f k f t g) (noteB f t g) := by
  unfold yBN.f noteB
  refine Ev.have (tiFrame_ _) (Ev.ite (fun h => ?_) (fun h => Ev.some (by rw [Bool.eq_false_iff.2 h]; rfl)))
  refine Ev.have (tiFrame_ _) (Ev.ite (fun h2 => ?_) (fun h2 => Ev.some (by rw [Bool.eq_false_iff.2 h2]; simp)))
  refine Ev.ite (fun h3 => ?_) (fun h3 => Ev.some (by simp [h3]))
  exact Ev.bind (fsWord_ g hg) (Ev.some (by simp [h, h2, h3]))
theorem IsNote_ (f t : Int) (g : ByteArray) (hg : g.size ≤ 140737488351232) : Ev (fun k => yBM.f k f t g) (noteB f t g) := by
  unfold yBM.f noteB
  refine Ev.have (isFrame_ _) (Ev.ite (fun h => ?_) (fun h => Ev.some (by rw [Bool.eq_false_iff.2 h]; rfl)))
  refine Ev.have (isFrame_ _) (Ev.ite (fun h2 => ?_) (fun h2 => Ev.some (by rw [Bool.eq_false_iff.2 h2]; simp)))
  refine Ev.ite (fun h3 => ?_) (fun h3 => Ev.some (by simp [h3]))
  exact Ev.bind (isWord_ g hg) (Ev.some (by simp [h, h2, h3]))
/-! ### tiers -/
abbrev NI := S58
abbrev NL := S127
def atN (l : List NI) (i : Nat) : NI := l.getD i z58
theorem atN_mem {l : List NI} {i : Nat} (h : i < l.length) : atN l i ∈ l := by
  unfold atN
  rw [List.getD_eq_getElem?_getD, List.getElem?_eq_getElem h]
  exact List.getElem_mem h
/-- What the notes' texts bear. -/
def Sized (l : List NI) : Prop := l.length ≤ 140737488351232 ∧ ∀ x, x ∈ l → x.f2.size ≤ 140737488351232
def tierP (l : List NI) (i : Nat) : Bool := noteB (atN l i).f0 (atN l i).f1 (atN l i).f2 && (decide (i = 0) || decide ((atN l (i - 1)).f1 ≤ (atN l i).f0))
def tierB (l : List NI) : Bool := (List.range l.length).all (tierP l) && decide ((l.length : Int) ≤ 40)

theorem tiGood_ (l : List NI) (hl : Sized l) : Ev (fun k => yAL.f k l) (tierB l) := by
  obtain ⟨hn, hs⟩ := hl
  refine loop_all0 (L := fun k i => yAL.l0 k l l (l.length : Int) i) l.length (tierP l) _ ?_ ?_ ?_
  · exact Ev.step (fun _ => yAL.l0.eq_2 ..) (Ev.neg (by omega) (Ev.some rfl))
  · intro i hi hp r hr
    simp only [tierP, Bool.and_eq_true] at hp
    refine Ev.step (fun _ => yAL.l0.eq_2 ..) (Ev.pos (by omega) (Ev.pos (by omega) (Ev.pos (by omega) (Ev.bind (tiNote_ _ _ _ (hs _ (atN_mem hi))) (Ev.pos hp.1 (Ev.ite (fun h0 => ?_) (fun h0 => ?_)))))))
    · rw [wrap_pred (by omega) (by omega)]
      refine Ev.pos (by omega) (Ev.pos (by omega) (Ev.neg ?_ ?_))
      · have := hp.2
        simp only [Bool.or_eq_true, decide_eq_true_eq] at this
        have h : (atN l (i - 1)).f1 ≤ (atN l i).f0 := by
          rcases this with h | h
          · omega
          · exact h
        exact Int.not_lt.2 h
      · rw [wrap_succ (by omega)]
        exact hr
    · rw [wrap_succ (by omega)]
      exact hr
  · intro i hi hp
    refine Ev.step (fun _ => yAL.l0.eq_2 ..) (Ev.pos (by omega) (Ev.pos (by omega) (Ev.pos (by omega) (Ev.bind (tiNote_ _ _ _ (hs _ (atN_mem hi))) (Ev.ite (fun h1 => ?_) (fun _ => Ev.some rfl))))))
    simp only [tierP, Bool.and_eq_false_iff, Bool.or_eq_false_iff, decide_eq_false_iff_not] at hp
    rcases hp with hp | ⟨hp, hq⟩
    · exact absurd (h1.symm.trans hp) (by decide)
    · refine Ev.pos (by omega) ?_
      rw [wrap_pred (by omega) (by omega)]
      exact Ev.pos (by omega) (Ev.pos (by omega) (Ev.pos (Int.not_le.1 hq) (Ev.some rfl)))
theorem IsTier_ (l : List NI) (hl : Sized l) : Ev (fun k => yAJ.f k l) (tierB l) := by
  obtain ⟨hn, hs⟩ := hl
  refine loop_all0 (L := fun k i => yAJ.l0 k l l (l.length : Int) i) l.length (tierP l) _ ?_ ?_ ?_
  · exact Ev.step (fun _ => yAJ.l0.eq_2 ..) (Ev.neg (by omega) (Ev.some rfl))
  · intro i hi hp r hr
    simp only [tierP, Bool.and_eq_true] at hp
    refine Ev.step (fun _ => yAJ.l0.eq_2 ..) (Ev.pos (by omega) (Ev.pos (by omega) (Ev.pos (by omega) (Ev.bind (IsNote_ _ _ _ (hs _ (atN_mem hi))) (Ev.pos hp.1 (Ev.ite (fun h0 => ?_) (fun h0 => ?_)))))))
    · rw [wrap_pred (by omega) (by omega)]
      refine Ev.pos (by omega) (Ev.pos (by omega) (Ev.neg ?_ ?_))
      · have := hp.2
        simp only [Bool.or_eq_true, decide_eq_true_eq] at this
        have h : (atN l (i - 1)).f1 ≤ (atN l i).f0 := by
          rcases this with h | h
          · omega
          · exact h
        exact Int.not_lt.2 h
      · rw [wrap_succ (by omega)]
        exact hr
    · rw [wrap_succ (by omega)]
      exact hr
  · intro i hi hp
    refine Ev.step (fun _ => yAJ.l0.eq_2 ..) (Ev.pos (by omega) (Ev.pos (by omega) (Ev.pos (by omega) (Ev.bind (IsNote_ _ _ _ (hs _ (atN_mem hi))) (Ev.ite (fun h1 => ?_) (fun _ => Ev.some rfl))))))
    simp only [tierP, Bool.and_eq_false_iff, Bool.or_eq_false_iff, decide_eq_false_iff_not] at hp
    rcases hp with hp | ⟨hp, hq⟩
    · exact absurd (h1.symm.trans hp) (by decide)
    · refine Ev.pos (by omega) ?_
      rw [wrap_pred (by omega) (by omega)]
      exact Ev.pos (by omega) (Ev.pos (by omega) (Ev.pos (Int.not_le.1 hq) (Ev.some rfl)))

/-! ### what the exact laws do with notes: sizes, copies, comparison -/
def conv (x : NL) : NI := ⟨x.f0, x.f1, x.f2⟩
/-- What a law's notes bear, as the row tells it. -/
def Given (l : List NL) : Prop := (∀ a_, a_ ∈ l → gT127 a_) ∧ l.length * 32 ≤ 140737488351232
theorem Given.sized {l : List NL} (h : Given l) : Sized (l.map conv) := by
  obtain ⟨h1, h2⟩ := h
  refine ⟨by rw [List.length_map]; omega, fun x hx => ?_⟩
  obtain ⟨y, hy, rfl⟩ := List.mem_map.1 hx
  exact (h1 y hy).2.2
end Go.Proofs.Ytgapcmmhbegdeaa.MNote
end
section
/- Loops that search, by lists alone. -/
namespace Go.Proofs.Ytgapcmmhbegdeaa.MAt0
open Go.RowKit Go.Proofs.YtgapcmmhbegdeaaW.PrintWords Go.Proofs.YtgapcmmhbegdeaaW.PrintLast Go.Proofs.Ytgapcmmhbegdeaa.MPure

/-- A loop that answers the first place at which p holds, or -1. -/
theorem loop_find {α : Type} {L : Nat → Int → Option Int} (l : List α) (z : α) (p : α → Bool) (hend : Ev (fun k => L k (l.length : Int)) (-1))
    (hyes : ∀ i : Nat, i < l.length → p (l.getD i z) = true → Ev (fun k => L k (i : Int)) (i : Int)) (hno : ∀ i : Nat, i < l.length → p (l.getD i z) = false → ∀ r, Ev (fun k => L k ((i + 1 : Nat) : Int)) r → Ev (fun k => L k (i : Int)) r) :
    Ev (fun k => L k 0) (idxOf p l) := by
  have key : ∀ d i : Nat, i + d = l.length → (∀ j, j < i → p (l.getD j z) = false) → Ev (fun k => L k (i : Int)) (idxOf p l) := by
    intro d
    induction d with
    | zero =>
      intro i hi hb
      obtain rfl : i = l.length := by omega
      rw [idxOf_miss z hb]
      exact hend
    | succ d ih =>
      intro i hi hb
      cases hp : p (l.getD i z) with
      | true =>
        rw [idxOf_hit z (by omega) hp hb]
        exact hyes i (by omega) hp
      | false =>
        refine hno i (by omega) hp _ (ih (i + 1) (by omega) (fun j hj => ?_))
        by_cases e : j = i
        · subst e; exact hp
        · exact hb j (by omega)
  exact key l.length 0 (by omega) (fun j hj => absurd hj (Nat.not_lt_zero _))
end Go.Proofs.Ytgapcmmhbegdeaa.MAt0
end
section
/- In which note a frame lies: the reference's search and the program's, by lists alone. -/
namespace Go.Proofs.Ytgapcmmhbegdeaa.MAt
open Go.RowKit Go.Proofs.Ytgapcmmhbegdeaa.G Go.Proofs.YtgapcmmhbegdeaaW.PrintWords Go.Proofs.YtgapcmmhbegdeaaW.PrintLast Go.Proofs.Ytgapcmmhbegdeaa.MPure Go.Proofs.Ytgapcmmhbegdeaa.MWord Go.Proofs.Ytgapcmmhbegdeaa.MNote Go.Proofs.Ytgapcmmhbegdeaa.MAt0

theorem tiAt_ (l : List NI) (hl : Sized l) (a : Int) : Ev (fun k => yA5.f k l a) (idxOf (yAm.p a) l) := by
  obtain ⟨hn, _⟩ := hl
  refine loop_find (L := fun k i => yA5.l0 k a l (l.length : Int) i) l z58 (yAm.p a) ?_ ?_ ?_
  · exact Ev.step (fun _ => yA5.l0.eq_2 ..) (Ev.neg (by omega) (Ev.some rfl))
  · intro i hi hp
    refine Ev.step (fun _ => yA5.l0.eq_2 ..) (Ev.pos (by omega) (Ev.pos (by omega) (Ev.pos (by omega) (Ev.have (l1In_ _ _ _) (Ev.pos hp (Ev.some rfl))))))
  · intro i hi hp r hr
    refine Ev.step (fun _ => yA5.l0.eq_2 ..) (Ev.pos (by omega) (Ev.pos (by omega) (Ev.pos (by omega) (Ev.have (l1In_ _ _ _) (Ev.neg (Bool.eq_false_iff.1 hp) ?_)))))
    rw [wrap_succ (by omega)]
    exact hr
end Go.Proofs.Ytgapcmmhbegdeaa.MAt
end
section
/- What a tier's notes bear. -/

namespace Go.Proofs.Ytgapcmmhbegdeaa.MGlossT
open Go.RowKit Go.Proofs.Ytgapcmmhbegdeaa.G Go.Proofs.YtgapcmmhbegdeaaW.PrintWords Go.Proofs.YtgapcmmhbegdeaaW.PrintLast Go.Proofs.Ytgapcmmhbegdeaa.MPure Go.Proofs.Ytgapcmmhbegdeaa.MWord Go.Proofs.Ytgapcmmhbegdeaa.MNote

theorem tier_bounds {l : List NI} (h : tierB l = true) {x : NI} (hx : x ∈ l) : 0 ≤ x.f0 ∧ x.f0 < x.f1 ∧ x.f1 ≤ 99999 := by
  simp only [tierB, Bool.and_eq_true, List.all_eq_true, List.mem_range] at h
  obtain ⟨i, hi, rfl⟩ := List.mem_iff_getElem.1 hx
  have := h.1 i hi
  have e : atN l i = l[i] := by
    unfold atN
    rw [List.getD_eq_getElem?_getD, List.getElem?_eq_getElem hi]
    rfl
  simp only [tierP, noteB, frameB, Bool.and_eq_true, decide_eq_true_eq, e] at this
  omega
end Go.Proofs.Ytgapcmmhbegdeaa.MGlossT
end
section
/- What notes of two tiers have in common: the spans, their frames, the first one; what the reference finds. -/
namespace Go.Proofs.Ytgapcmmhbegdeaa.MShare
open Go.RowKit Go.Proofs.Ytgapcmmhbegdeaa.G Go.Proofs.YtgapcmmhbegdeaaW.PrintWords Go.Proofs.YtgapcmmhbegdeaaW.PrintLast Go.Proofs.Ytgapcmmhbegdeaa.MPure Go.Proofs.Ytgapcmmhbegdeaa.MWord Go.Proofs.Ytgapcmmhbegdeaa.MNote Go.Proofs.Ytgapcmmhbegdeaa.MGlossT

theorem l1Most_ (a b : Int) : yAc.f a b = some (mx a b) := by
  unfold yAc.f mx
  by_cases h : a > b
  · rw [if_pos h]; congr 1; split <;> omega
  · rw [if_neg h]; congr 1; split <;> omega
theorem l1Least_ (a b : Int) : yAp.f a b = some (mn a b) := by
  unfold yAp.f mn
  by_cases h : a < b
  · rw [if_pos h]; congr 1; split <;> omega
  · rw [if_neg h]; congr 1; split <;> omega
abbrev DI := S96
def shareB (q : Bool → Bool) (n m : NI) : Bool := decide (mx n.f0 m.f0 < mn n.f1 m.f1) && q (n.f2.toList == m.f2.toList)
def share1 (q : Bool → Bool) (n m : NI) : Option DI := if shareB q n m = true then some ⟨mx n.f0 m.f0, mn n.f1 m.f1⟩ else none
def shareIn (q : Bool → Bool) (n : NI) (y : List NI) : List DI := y.filterMap (share1 q n)
def share (q : Bool → Bool) (x y : List NI) : List DI := x.flatMap (fun n => shareIn q n y)
theorem shareIn_length (q : Bool → Bool) (n : NI) (y : List NI) : (shareIn q n y).length ≤ y.length := List.length_filterMap_le _ _
theorem share_length (q : Bool → Bool) (x y : List NI) : (share q x y).length ≤ x.length * y.length := by
  induction x with
  | nil => simp [share]
  | cons n x ih =>
    have h1 := shareIn_length q n y
    have e : (share q (n :: x) y).length = (shareIn q n y).length + (share q x y).length := by simp [share]
    rw [e, List.length_cons, Nat.succ_mul]
    omega
theorem share_bound (q : Bool → Bool) (x y : List NI) (hx : x.length ≤ 40) (hy : y.length ≤ 40) : (share q x y).length ≤ 1600 := Nat.le_trans (share_length q x y) (Nat.mul_le_mul hx hy)
theorem atN_eq (l : List NI) (i : Nat) (h : i < l.length) : atN l i = l[i] := by
  unfold atN
  rw [List.getD_eq_getElem?_getD, List.getElem?_eq_getElem h]
  rfl
theorem share_take (q : Bool → Bool) (x y : List NI) (i : Nat) (h : i < x.length) : share q (x.take (i + 1)) y = share q (x.take i) y ++ shareIn q (atN x i) y := by
  unfold share
  rw [atN_eq x i h, List.take_succ_eq_append_getElem h, List.flatMap_append]
  simp
theorem shareIn_take_yes (q : Bool → Bool) (n : NI) (y : List NI) (j : Nat) (h : j < y.length) (hs : shareB q n (atN y j) = true) : shareIn q n (y.take (j + 1)) = shareIn q n (y.take j) ++ [⟨mx n.f0 (atN y j).f0, mn n.f1 (atN y j).f1⟩] := by
  unfold shareIn
  rw [atN_eq y j h] at hs ⊢
  rw [List.take_succ_eq_append_getElem h, List.filterMap_append]
  congr 1
  simp [share1, hs]
theorem shareIn_take_no (q : Bool → Bool) (n : NI) (y : List NI) (j : Nat) (h : j < y.length) (hs : shareB q n (atN y j) = false) : shareIn q n (y.take (j + 1)) = shareIn q n (y.take j) := by
  unfold shareIn
  rw [atN_eq y j h] at hs
  rw [List.take_succ_eq_append_getElem h, List.filterMap_append]
  simp [share1, hs]
theorem tier_short {l : List NI} (h : tierB l = true) : l.length ≤ 40 := by
  simp only [tierB, Bool.and_eq_true, decide_eq_true_eq] at h
  omega

/-! ### sums and the first -/
def fr (l : List DI) : Int := l.foldl (fun s d => wrap64 (s + wrap64 (d.f1 - d.f0))) 0
theorem fr_append (l : List DI) (d : DI) : fr (l ++ [d]) = wrap64 (fr l + wrap64 (d.f1 - d.f0)) := by simp [fr]
def fst (l : List DI) : Int := match l with | [] => -1 | d :: _ => d.f0
def Pos (l : List DI) : Prop := ∀ d, d ∈ l → 0 ≤ d.f0
theorem fst_append (l : List DI) (hl : Pos l) (d : DI) : fst (l ++ [d]) = if fst l < 0 then d.f0 else fst l := by
  cases l with
  | nil => rfl
  | cons a l =>
    have := hl a (by simp)
    show a.f0 = if a.f0 < 0 then d.f0 else a.f0
    rw [if_neg (by omega)]
theorem framesOf_ (l : List DI) (hl : l.length ≤ 140737488351232) : Ev (fun k => yAw.f k l) (fr l) := by
  have key : ∀ d i : Nat, i + d = l.length → Ev (fun k => yAw.l0 k (fr (l.take i)) l (l.length : Int) (i : Int)) (fr l) := by
    intro d
    induction d with
    | zero =>
      intro i hi
      rw [List.take_of_length_le (by omega)]
      exact Ev.step (fun _ => yAw.l0.eq_2 ..) (Ev.neg (by omega) (Ev.some rfl))
    | succ d ih =>
      intro i hi
      have h := ih (i + 1) (by omega)
      have e : rd_T96 l (i : Int) = l[i]'(by omega) := by
        show l.getD i z96 = _
        rw [List.getD_eq_getElem?_getD, List.getElem?_eq_getElem (by omega)]
        rfl
      rw [List.take_succ_eq_append_getElem (show i < l.length by omega), fr_append, ← e, ← wrap_succ (by omega)] at h
      exact Ev.step (fun _ => yAw.l0.eq_2 ..) (Ev.pos (by omega) (Ev.pos (by omega) (Ev.pos (by omega) h)))
  exact key l.length 0 (by omega)

/-! ### the reference -/
def yesQ (b : Bool) : Bool := b
def notQ (b : Bool) : Bool := !b
theorem meBoth_ (x y : List NI) (hx : Sized x) (hy : Sized y) : Ev (fun k => yAd.f k x y) (tierB x && tierB y) := by
  unfold yAd.f
  refine Ev.bind (tiGood_ x hx) (Ev.ite (fun h1 => ?_) (fun h1 => Ev.some (by simp [h1])))
  exact Ev.bind (tiGood_ y hy) (Ev.some (by simp [h1]))
theorem mx_ge (a b : Int) (h : 0 ≤ a) : 0 ≤ mx a b := by unfold mx; split <;> omega
theorem shareIn_pos {q : Bool → Bool} {n : NI} (hn : 0 ≤ n.f0) (y : List NI) : Pos (shareIn q n y) := by
  intro d hd
  obtain ⟨m, _, hm⟩ := List.mem_filterMap.1 hd
  unfold share1 at hm
  split at hm
  · obtain rfl := Option.some.inj hm
    exact mx_ge _ _ hn
  · cases hm
theorem share_pos {q : Bool → Bool} {x : List NI} (hx : ∀ n, n ∈ x → 0 ≤ n.f0) (y : List NI) : Pos (share q x y) := by
  intro d hd
  obtain ⟨n, hn, hd⟩ := List.mem_flatMap.1 hd
  exact shareIn_pos (hx n hn) y d hd
theorem shared_in (x y : List NI) (tx : tierB x = true) (ty : tierB y = true) (i : Nat) (hi : i < x.length) (r : Int × Int × Int)
    (hn : Ev (fun k => yAS.l0 k y (fr (share yesQ (x.take (i + 1)) y)) (fr (share notQ (x.take (i + 1)) y)) (fst (share notQ (x.take (i + 1)) y)) x (x.length : Int) ((i + 1 : Nat) : Int)) r) :
    ∀ e j : Nat, j + e = y.length → Ev (fun k => yAS.l1 k y (fr (share yesQ (x.take i) y ++ shareIn yesQ (atN x i) (y.take j))) (fr (share notQ (x.take i) y ++ shareIn notQ (atN x i) (y.take j))) (fst (share notQ (x.take i) y ++ shareIn notQ (atN x i) (y.take j))) x (x.length : Int) (i : Int) y (y.length : Int) (j : Int) (atN x i).f0 (atN x i).f1 (atN x i).f2) r := by
  have sx := tier_short tx
  have sy := tier_short ty
  have bx := tier_bounds tx (atN_mem hi)
  have px : ∀ n, n ∈ x.take i → 0 ≤ n.f0 := fun n hn => (tier_bounds tx (List.mem_of_mem_take hn)).1
  intro e
  induction e with
  | zero =>
    intro j hj
    rw [share_take _ x y i hi, share_take _ x y i hi, ← wrap_succ (by omega)] at hn
    rw [List.take_of_length_le (l := y) (by omega)]
    exact Ev.step (fun _ => yAS.l1.eq_2 ..) (Ev.neg (by omega) hn)
  | succ e ih =>
    intro j hj
    have h := ih (j + 1) (by omega)
    rw [← wrap_succ (by omega)] at h
    have by' := tier_bounds ty (atN_mem (l := y) (i := j) (by omega))
    have hw : wrap64 (mn (atN x i).f1 (atN y j).f1 - mx (atN x i).f0 (atN y j).f0) ≤ 0 ↔ ¬ (mx (atN x i).f0 (atN y j).f0 < mn (atN x i).f1 (atN y j).f1) := by
      rw [wrap_in (by unfold mx mn; split <;> split <;> omega) (by unfold mx mn; split <;> split <;> omega)]
      omega
    refine Ev.step (fun _ => yAS.l1.eq_2 ..) (Ev.pos (by omega) (Ev.pos (by omega) (Ev.pos (by omega) (Ev.have (l1Most_ _ _) (Ev.have (l1Least_ _ _) (Ev.have (l1Most_ _ _) ?_))))))
    refine Ev.ite (fun h1 => ?_) (fun h1 => Ev.ite (fun h2 => ?_) (fun h2 => ?_))
    · have hno : ∀ q : Bool → Bool, shareB q (atN x i) (atN y j) = false := fun q => by
        have := hw.1 h1
        simp [shareB, this]
      rw [shareIn_take_no yesQ _ y j (by omega) (hno _), shareIn_take_no notQ _ y j (by omega) (hno _)] at h
      exact h
    · have hlt := Classical.not_not.1 (fun hc => h1 (hw.2 hc))
      have hy1 : shareB yesQ (atN x i) (atN y j) = true := by
        have h2' : (atN x i).f2.toList = (atN y j).f2.toList := h2
        simp [shareB, hlt, yesQ, h2']
      have hn1 : shareB notQ (atN x i) (atN y j) = false := by
        have h2' : (atN x i).f2.toList = (atN y j).f2.toList := h2
        simp [shareB, notQ, h2']
      rw [shareIn_take_yes yesQ _ y j (by omega) hy1, shareIn_take_no notQ _ y j (by omega) hn1, ← List.append_assoc, fr_append] at h
      exact h
    · have hlt := Classical.not_not.1 (fun hc => h1 (hw.2 hc))
      have hy1 : shareB yesQ (atN x i) (atN y j) = false := by
        have h2' : ¬ (atN x i).f2.toList = (atN y j).f2.toList := h2
        simp [shareB, yesQ, h2']
      have hn1 : shareB notQ (atN x i) (atN y j) = true := by
        have h2' : ¬ (atN x i).f2.toList = (atN y j).f2.toList := h2
        simp [shareB, hlt, notQ, h2']
      have hp : Pos (share notQ (x.take i) y ++ shareIn notQ (atN x i) (y.take j)) := fun d hd => by
        rcases List.mem_append.1 hd with hd | hd
        · exact share_pos px y d hd
        · exact shareIn_pos bx.1 _ d hd
      rw [shareIn_take_no yesQ _ y j (by omega) hy1, shareIn_take_yes notQ _ y j (by omega) hn1, ← List.append_assoc, fr_append, fst_append _ hp] at h
      refine Ev.ite (fun h3 => ?_) (fun h3 => ?_)
      · rw [if_pos h3] at h
        exact h
      · rw [if_neg h3] at h
        exact h
theorem meShared_ (x y : List NI) (tx : tierB x = true) (ty : tierB y = true) : Ev (fun k => yAS.f k x y) (fr (share yesQ x y), fr (share notQ x y), fst (share notQ x y)) := by
  have sx := tier_short tx
  have key : ∀ d i : Nat, i + d = x.length → Ev (fun k => yAS.l0 k y (fr (share yesQ (x.take i) y)) (fr (share notQ (x.take i) y)) (fst (share notQ (x.take i) y)) x (x.length : Int) (i : Int)) (fr (share yesQ x y), fr (share notQ x y), fst (share notQ x y)) := by
    intro d
    induction d with
    | zero =>
      intro i hi
      rw [List.take_of_length_le (by omega)]
      exact Ev.step (fun _ => yAS.l0.eq_2 ..) (Ev.neg (by omega) (Ev.some rfl))
    | succ d ih =>
      intro i hi
      have h := shared_in x y tx ty i (by omega) _ (ih (i + 1) (by omega)) y.length 0 (by omega)
      have e0 : ∀ q, share q (x.take i) y ++ shareIn q (atN x i) (y.take 0) = share q (x.take i) y := fun q => by simp [shareIn]
      rw [e0, e0] at h
      exact Ev.step (fun _ => yAS.l0.eq_2 ..) (Ev.pos (by omega) (Ev.pos (by omega) (Ev.pos (by omega) h)))
  exact key x.length 0 (by omega)
end Go.Proofs.Ytgapcmmhbegdeaa.MShare
end
section
/- AgreedFrames: what the reference and the program answer, in plain words (out of the pure text of the exact law). No condition. -/
namespace Go.Proofs.Ytgapcmmhbegdeaa.MCAgreedFrames
open Go.RowKit Go.Proofs.Ytgapcmmhbegdeaa.G Go.Proofs.YtgapcmmhbegdeaaW.PrintWords Go.Proofs.YtgapcmmhbegdeaaW.PrintLast Go.Proofs.Ytgapcmmhbegdeaa.MPure Go.Proofs.Ytgapcmmhbegdeaa.MWord Go.Proofs.Ytgapcmmhbegdeaa.MNote Go.Proofs.Ytgapcmmhbegdeaa.MGlossT Go.Proofs.Ytgapcmmhbegdeaa.MShare

theorem overAgreedFrames_in (x y : List NI) (sx : x.length ≤ 40) (sy : y.length ≤ 40) (i : Nat) (hi : i < x.length) (r : List DI) (hn : Ev (fun k => yAF.l0 k y (share yesQ (x.take (i + 1)) y) x (x.length : Int) ((i + 1 : Nat) : Int)) r) :
    ∀ e j : Nat, j + e = y.length → Ev (fun k => yAF.l1 k y (share yesQ (x.take i) y ++ shareIn yesQ (atN x i) (y.take j)) x (x.length : Int) (i : Int) y (y.length : Int) (j : Int) (atN x i).f0 (atN x i).f1 (atN x i).f2) r := by
  intro e
  induction e with
  | zero =>
    intro j hj
    rw [share_take _ x y i hi, ← wrap_succ (by omega)] at hn
    rw [List.take_of_length_le (l := y) (by omega)]
    exact Ev.step (fun _ => yAF.l1.eq_2 ..) (Ev.neg (by omega) hn)
  | succ e ih =>
    intro j hj
    have h := ih (j + 1) (by omega)
    rw [← wrap_succ (by omega)] at h
    have l1 := share_bound yesQ (x.take i) y (by simp; omega) sy
    have l2 := shareIn_length yesQ (atN x i) (y.take j)
    have l3 : (y.take j).length ≤ 40 := by simp; omega
    have go : ∀ c : Bool, (mx (atN x i).f0 (atN y j).f0 < mn (atN x i).f1 (atN y j).f1 ∨ c = false) → shareB yesQ (atN x i) (atN y j) = c → Ev (fun k => yAF.j2 k y (share yesQ (x.take i) y ++ shareIn yesQ (atN x i) (y.take j)) x (x.length : Int) (i : Int) y (y.length : Int) (j : Int) c (atN x i).f0 (atN x i).f1 (atN x i).f2 (mx (atN x i).f0 (atN y j).f0) (mn (atN x i).f1 (atN y j).f1)) r := by
      intro c _ hs
      cases c with
      | true =>
        rw [shareIn_take_yes yesQ _ y j (by omega) hs, ← List.append_assoc] at h
        exact Ev.step (fun _ => yAF.j2.eq_2 ..) (Ev.pos rfl (Ev.pos (by rw [List.length_append]; omega) h))
      | false =>
        rw [shareIn_take_no yesQ _ y j (by omega) hs] at h
        exact Ev.step (fun _ => yAF.j2.eq_2 ..) (Ev.neg (by decide) h)
    refine Ev.step (fun _ => yAF.l1.eq_2 ..) (Ev.pos (by omega) (Ev.pos (by omega) (Ev.pos (by omega) (Ev.ite (fun h1 => Ev.have (rfl : yA8.f _ = some (yesQ _)) (go _ (Or.inl h1) ?_)) (fun h1 => go false (Or.inr rfl) ?_)))))
    · unfold shareB
      rw [show decide (mx (atN x i).f0 (atN y j).f0 < mn (atN x i).f1 (atN y j).f1) = true from decide_eq_true h1]
      exact Bool.true_and _
    · unfold shareB
      rw [Bool.and_eq_false_iff, decide_eq_false_iff_not]
      exact .inl h1
theorem overAgreedFrames_ (x y : List NI) (sx : x.length ≤ 40) (sy : y.length ≤ 40) : Ev (fun k => yAF.f k x y) (share yesQ x y) := by
  have key : ∀ d i : Nat, i + d = x.length → Ev (fun k => yAF.l0 k y (share yesQ (x.take i) y) x (x.length : Int) (i : Int)) (share yesQ x y) := by
    intro d
    induction d with
    | zero =>
      intro i hi
      rw [List.take_of_length_le (by omega)]
      exact Ev.step (fun _ => yAF.l0.eq_2 ..) (Ev.neg (by omega) (Ev.some rfl))
    | succ d ih =>
      intro i hi
      have h := overAgreedFrames_in x y sx sy i (by omega) _ (ih (i + 1) (by omega)) y.length 0 (by omega)
      have e0 : share yesQ (x.take i) y ++ shareIn yesQ (atN x i) (y.take 0) = share yesQ (x.take i) y := by simp [shareIn]
      rw [e0] at h
      exact Ev.step (fun _ => yAF.l0.eq_2 ..) (Ev.pos (by omega) (Ev.pos (by omega) (Ev.pos (by omega) h)))
  exact key x.length 0 (by omega)
theorem AgreedFrames_no (x y : List NI) (hx : Sized x) (hy : Sized y) (h : (tierB x && tierB y) = false) : Ev (fun k => yBA.f k x y) (0, false) ∧ Ev (fun k => yAZ.f k x y) (0, false) := by
  unfold yBA.f yAZ.f
  have hs := meBoth_ x y hx hy
  refine ⟨Ev.bind (Ev.eq (r := false) hs h) (Ev.neg (by decide) (Ev.some rfl)), ?_⟩
  clear hs
  cases h1 : tierB x with
  | false => exact Ev.bind (Ev.eq (IsTier_ x hx) h1) (Ev.neg (by decide) (Ev.step (fun _ => yAZ.j0.eq_2 ..) (Ev.pos rfl (Ev.some rfl))))
  | true =>
    rw [h1, Bool.true_and] at h
    exact Ev.bind (Ev.eq (IsTier_ x hx) h1) (Ev.pos rfl (Ev.bind (Ev.eq (IsTier_ y hy) h) (Ev.step (fun _ => yAZ.j0.eq_2 ..) (Ev.pos rfl (Ev.some rfl)))))
theorem AgreedFrames_yes (x y : List NI) (hx : Sized x) (hy : Sized y) (h1 : tierB x = true) (h2 : tierB y = true) : Ev (fun k => yBA.f k x y) (fr (share yesQ x y), true) ∧ Ev (fun k => yAZ.f k x y) (fr (share yesQ x y), true) := by
  unfold yBA.f yAZ.f
  have hs := meBoth_ x y hx hy
  have sx := tier_short h1
  have sy := tier_short h2
  have ho := overAgreedFrames_ x y sx sy
  have hm := meShared_ x y h1 h2
  have hb := share_bound yesQ x y sx sy
  exact ⟨Ev.bind (Ev.eq (r := true) hs (by simp [h1, h2])) (Ev.pos rfl (Ev.bind hm (Ev.some rfl))), Ev.bind (Ev.eq (IsTier_ x hx) h1) (Ev.pos rfl (Ev.bind (Ev.eq (IsTier_ y hy) h2) (Ev.step (fun _ => yAZ.j0.eq_2 ..) (Ev.neg (by decide) (Ev.bind ho (Ev.bind (framesOf_ _ (by omega)) (Ev.some rfl)))))))⟩
end Go.Proofs.Ytgapcmmhbegdeaa.MCAgreedFrames
end
section
/- Whether a list has a note. -/
namespace Go.Proofs.Ytgapcmmhbegdeaa.MHas
open Go.RowKit Go.Proofs.Ytgapcmmhbegdeaa.G Go.Proofs.YtgapcmmhbegdeaaW.PrintWords Go.Proofs.YtgapcmmhbegdeaaW.PrintLast Go.Proofs.Ytgapcmmhbegdeaa.MPure Go.Proofs.Ytgapcmmhbegdeaa.MWord Go.Proofs.Ytgapcmmhbegdeaa.MNote

/-- Whether a list has a note. -/
def hasB (l : List NI) (x : NI) : Bool := l.any (fun y => x.f0 == y.f0 && (x.f1 == y.f1 && x.f2.toList == y.f2.toList))
theorem meBoth_ (x y : List NI) (hx : Sized x) (hy : Sized y) : Ev (fun k => yAd.f k x y) (tierB x && tierB y) := by
  unfold yAd.f
  refine Ev.bind (tiGood_ x hx) (Ev.ite (fun h1 => ?_) (fun h1 => Ev.some (by simp [h1])))
  exact Ev.bind (tiGood_ y hy) (Ev.some (by simp [h1]))
theorem tier_length {l : List NI} (h : tierB l = true) : l.length ≤ 40 := by
  unfold tierB at h
  simp only [Bool.and_eq_true, decide_eq_true_eq] at h
  omega
theorem meHas_ (l : List NI) (hl : l.length ≤ 140737488351232) (x : NI) : Ev (fun k => yAq.f k l x.f0 x.f1 x.f2) (hasB l x) := by
  have key : ∀ d i : Nat, i + d = l.length → Ev (fun k => yAq.l0 k l (l.length : Int) (i : Int) x.f0 x.f1 x.f2) (hasB (l.drop i) x) := by
    intro d
    induction d with
    | zero =>
      intro i hi
      rw [List.drop_eq_nil_of_le (by omega)]
      exact Ev.step (fun _ => yAq.l0.eq_2 ..) (Ev.neg (by omega) (Ev.some rfl))
    | succ d ih =>
      intro i hi
      have h := ih (i + 1) (by omega)
      have e : rd_T58 l (i : Int) = l[i]'(by omega) := by
        show l.getD i z58 = _
        rw [List.getD_eq_getElem?_getD, List.getElem?_eq_getElem (by omega)]
        rfl
      rw [← wrap_succ (by omega)] at h
      rw [List.drop_eq_getElem_cons (show i < l.length by omega), hasB, List.any_cons, ← e]
      have hs : (((rd_T58 l (i : Int)).f0) == x.f0 && (((rd_T58 l (i : Int)).f1) == x.f1 && ((((rd_T58 l (i : Int)).f2).toList) == x.f2.toList))) = (x.f0 == (rd_T58 l (i : Int)).f0 && (x.f1 == (rd_T58 l (i : Int)).f1 && x.f2.toList == (rd_T58 l (i : Int)).f2.toList)) := by
        rw [Bool.beq_comm, Bool.beq_comm (a := (rd_T58 l (i : Int)).f1), Bool.beq_comm (a := (rd_T58 l (i : Int)).f2.toList)]
      refine Ev.step (fun _ => yAq.l0.eq_2 ..) (Ev.pos (by omega) (Ev.pos (by omega) (Ev.pos (by omega) (Ev.ite (fun he => Ev.some ?_) (fun he => Ev.eq h ?_)))))
      · rw [hs] at he
        rw [he, Bool.true_or]
      · rw [hs] at he
        rw [Bool.eq_false_iff.2 he, Bool.false_or]
        rfl
  exact key l.length 0 (by omega)
end Go.Proofs.Ytgapcmmhbegdeaa.MHas
end
section
/- The notes of a list that another list has, or has not. -/
namespace Go.Proofs.Ytgapcmmhbegdeaa.MPart
open Go.RowKit Go.Proofs.Ytgapcmmhbegdeaa.G Go.Proofs.YtgapcmmhbegdeaaW.PrintWords Go.Proofs.YtgapcmmhbegdeaaW.PrintLast Go.Proofs.Ytgapcmmhbegdeaa.MPure Go.Proofs.Ytgapcmmhbegdeaa.MWord Go.Proofs.Ytgapcmmhbegdeaa.MNote Go.Proofs.Ytgapcmmhbegdeaa.MHas

theorem mePart_ (l m : List NI) (hl : l.length ≤ 4398046511104) (hm : m.length ≤ 140737488351232) (b : Bool) : Ev (fun k => yAt.f k l m b) (l.filter (fun x => hasB m x == b)) := by
  have key : ∀ d i : Nat, i + d = l.length → ∀ out : List NI, out.length ≤ i → Ev (fun k => yAt.l0 k m b out l (l.length : Int) (i : Int)) (out ++ (l.drop i).filter (fun x => hasB m x == b)) := by
    intro d
    induction d with
    | zero =>
      intro i hi out _
      rw [List.drop_eq_nil_of_le (by omega)]
      exact Ev.step (fun _ => yAt.l0.eq_2 ..) (Ev.neg (by omega) (Ev.some (by simp)))
    | succ d ih =>
      intro i hi out ho
      have e : rd_T58 l (i : Int) = l[i]'(by omega) := by
        show l.getD i z58 = _
        rw [List.getD_eq_getElem?_getD, List.getElem?_eq_getElem (by omega)]
        rfl
      rw [List.drop_eq_getElem_cons (show i < l.length by omega), ← e]
      refine Ev.step (fun _ => yAt.l0.eq_2 ..) (Ev.pos (by omega) (Ev.pos (by omega) (Ev.pos (by omega) (Ev.bind (meHas_ m hm _) (Ev.ite (fun he => Ev.pos (by omega) ?_) (fun he => ?_))))))
      · have h := ih (i + 1) (by omega) (out ++ [rd_T58 l (i : Int)]) (by rw [List.length_append]; simp; omega)
        rw [← wrap_succ (by omega)] at h
        rw [List.filter_cons, if_pos he]
        rw [List.append_assoc, List.singleton_append] at h
        exact h
      · have h := ih (i + 1) (by omega) out (by omega)
        rw [← wrap_succ (by omega)] at h
        rw [List.filter_cons, if_neg he]
        exact h
  have h := key l.length 0 (by omega) [] (Nat.zero_le _)
  rw [List.nil_append, List.drop_zero] at h
  exact h
end Go.Proofs.Ytgapcmmhbegdeaa.MPart
end
section
/- CommonNotes: what the reference and the program answer, in plain words (out of the pure text of the exact law). No condition. -/
namespace Go.Proofs.Ytgapcmmhbegdeaa.MCCommonNotes
open Go.RowKit Go.Proofs.Ytgapcmmhbegdeaa.G Go.Proofs.YtgapcmmhbegdeaaW.PrintWords Go.Proofs.YtgapcmmhbegdeaaW.PrintLast Go.Proofs.Ytgapcmmhbegdeaa.MPure Go.Proofs.Ytgapcmmhbegdeaa.MWord Go.Proofs.Ytgapcmmhbegdeaa.MNote Go.Proofs.Ytgapcmmhbegdeaa.MHas Go.Proofs.Ytgapcmmhbegdeaa.MPart

def parR (l m : List NI) : List NI × Bool := if (tierB l && tierB m) = true then (l.filter (fun x => hasB m x == true), true) else ([], false)
theorem par_s (l m : List NI) (hl : Sized l) (hm : Sized m) : Ev (fun k => yBH.f k l m) (parR l m) := by
  unfold yBH.f parR
  refine Ev.bind (meBoth_ l m hl hm) (Ev.ite (fun h => ?_) (fun h => Ev.some (by rw [if_neg h])))
  rw [if_pos h]
  rw [Bool.and_eq_true] at h
  have h1 := tier_length h.1
  have h2 := tier_length h.2
  exact Ev.bind (mePart_ l m (by omega) (by omega) true) (Ev.some rfl)
theorem par_i (l m : List NI) (hl : Sized l) (hm : Sized m) : Ev (fun k => yAV.f k l m) (parR l m) := by
  unfold yAV.f parR
  refine Ev.bind (IsTier_ l hl) (Ev.ite (fun h => ?_) (fun h => Ev.some (by simp [h])))
  refine Ev.bind (IsTier_ m hm) (Ev.ite (fun h2 => ?_) (fun h2 => Ev.some (by simp [h2])))
  have h1 := tier_length h
  refine Ev.pos (by omega) (Ev.some ?_)
  rw [h, h2]
  have e : (fun x => !yAV.p m x) = (fun x => hasB m x == true) := funext fun x => by
    show (!(!hasB m x)) = _
    cases hasB m x <;> rfl
  rw [e]
  rfl
theorem parR_length (l m : List NI) : (parR l m).1.length ≤ l.length := by
  unfold parR
  split
  · exact List.length_filter_le _ _
  · exact Nat.zero_le _
end Go.Proofs.Ytgapcmmhbegdeaa.MCCommonNotes
end
section
/- DisputedFrames: what the reference and the program answer, in plain words (out of the pure text of the exact law). No condition. -/
namespace Go.Proofs.Ytgapcmmhbegdeaa.MCDisputedFrames
open Go.RowKit Go.Proofs.Ytgapcmmhbegdeaa.G Go.Proofs.YtgapcmmhbegdeaaW.PrintWords Go.Proofs.YtgapcmmhbegdeaaW.PrintLast Go.Proofs.Ytgapcmmhbegdeaa.MPure Go.Proofs.Ytgapcmmhbegdeaa.MWord Go.Proofs.Ytgapcmmhbegdeaa.MNote Go.Proofs.Ytgapcmmhbegdeaa.MGlossT Go.Proofs.Ytgapcmmhbegdeaa.MShare

theorem overDisputedFrames_in (x y : List NI) (sx : x.length ≤ 40) (sy : y.length ≤ 40) (i : Nat) (hi : i < x.length) (r : List DI) (hn : Ev (fun k => yAD.l0 k y (share notQ (x.take (i + 1)) y) x (x.length : Int) ((i + 1 : Nat) : Int)) r) :
    ∀ e j : Nat, j + e = y.length → Ev (fun k => yAD.l1 k y (share notQ (x.take i) y ++ shareIn notQ (atN x i) (y.take j)) x (x.length : Int) (i : Int) y (y.length : Int) (j : Int) (atN x i).f0 (atN x i).f1 (atN x i).f2) r := by
  intro e
  induction e with
  | zero =>
    intro j hj
    rw [share_take _ x y i hi, ← wrap_succ (by omega)] at hn
    rw [List.take_of_length_le (l := y) (by omega)]
    exact Ev.step (fun _ => yAD.l1.eq_2 ..) (Ev.neg (by omega) hn)
  | succ e ih =>
    intro j hj
    have h := ih (j + 1) (by omega)
    rw [← wrap_succ (by omega)] at h
    have l1 := share_bound notQ (x.take i) y (by simp; omega) sy
    have l2 := shareIn_length notQ (atN x i) (y.take j)
    have l3 : (y.take j).length ≤ 40 := by simp; omega
    have go : ∀ c : Bool, (mx (atN x i).f0 (atN y j).f0 < mn (atN x i).f1 (atN y j).f1 ∨ c = false) → shareB notQ (atN x i) (atN y j) = c → Ev (fun k => yAD.j2 k y (share notQ (x.take i) y ++ shareIn notQ (atN x i) (y.take j)) x (x.length : Int) (i : Int) y (y.length : Int) (j : Int) c (atN x i).f0 (atN x i).f1 (atN x i).f2 (mx (atN x i).f0 (atN y j).f0) (mn (atN x i).f1 (atN y j).f1)) r := by
      intro c _ hs
      cases c with
      | true =>
        rw [shareIn_take_yes notQ _ y j (by omega) hs, ← List.append_assoc] at h
        exact Ev.step (fun _ => yAD.j2.eq_2 ..) (Ev.pos rfl (Ev.pos (by rw [List.length_append]; omega) h))
      | false =>
        rw [shareIn_take_no notQ _ y j (by omega) hs] at h
        exact Ev.step (fun _ => yAD.j2.eq_2 ..) (Ev.neg (by decide) h)
    refine Ev.step (fun _ => yAD.l1.eq_2 ..) (Ev.pos (by omega) (Ev.pos (by omega) (Ev.pos (by omega) (Ev.ite (fun h1 => Ev.have (rfl : yA6.f _ = some (notQ _)) (go _ (Or.inl h1) ?_)) (fun h1 => go false (Or.inr rfl) ?_)))))
    · unfold shareB
      rw [show decide (mx (atN x i).f0 (atN y j).f0 < mn (atN x i).f1 (atN y j).f1) = true from decide_eq_true h1]
      exact Bool.true_and _
    · unfold shareB
      rw [Bool.and_eq_false_iff, decide_eq_false_iff_not]
      exact .inl h1
theorem overDisputedFrames_ (x y : List NI) (sx : x.length ≤ 40) (sy : y.length ≤ 40) : Ev (fun k => yAD.f k x y) (share notQ x y) := by
  have key : ∀ d i : Nat, i + d = x.length → Ev (fun k => yAD.l0 k y (share notQ (x.take i) y) x (x.length : Int) (i : Int)) (share notQ x y) := by
    intro d
    induction d with
    | zero =>
      intro i hi
      rw [List.take_of_length_le (by omega)]
      exact Ev.step (fun _ => yAD.l0.eq_2 ..) (Ev.neg (by omega) (Ev.some rfl))
    | succ d ih =>
      intro i hi
      have h := overDisputedFrames_in x y sx sy i (by omega) _ (ih (i + 1) (by omega)) y.length 0 (by omega)
      have e0 : share notQ (x.take i) y ++ shareIn notQ (atN x i) (y.take 0) = share notQ (x.take i) y := by simp [shareIn]
      rw [e0] at h
      exact Ev.step (fun _ => yAD.l0.eq_2 ..) (Ev.pos (by omega) (Ev.pos (by omega) (Ev.pos (by omega) h)))
  exact key x.length 0 (by omega)
theorem DisputedFrames_no (x y : List NI) (hx : Sized x) (hy : Sized y) (h : (tierB x && tierB y) = false) : Ev (fun k => yA4.f k x y) (0, false) ∧ Ev (fun k => yAW.f k x y) (0, false) := by
  unfold yA4.f yAW.f
  have hs := meBoth_ x y hx hy
  refine ⟨Ev.bind (Ev.eq (r := false) hs h) (Ev.neg (by decide) (Ev.some rfl)), ?_⟩
  clear hs
  cases h1 : tierB x with
  | false => exact Ev.bind (Ev.eq (IsTier_ x hx) h1) (Ev.neg (by decide) (Ev.step (fun _ => yAW.j0.eq_2 ..) (Ev.pos rfl (Ev.some rfl))))
  | true =>
    rw [h1, Bool.true_and] at h
    exact Ev.bind (Ev.eq (IsTier_ x hx) h1) (Ev.pos rfl (Ev.bind (Ev.eq (IsTier_ y hy) h) (Ev.step (fun _ => yAW.j0.eq_2 ..) (Ev.pos rfl (Ev.some rfl)))))
theorem DisputedFrames_yes (x y : List NI) (hx : Sized x) (hy : Sized y) (h1 : tierB x = true) (h2 : tierB y = true) : Ev (fun k => yA4.f k x y) (fr (share notQ x y), true) ∧ Ev (fun k => yAW.f k x y) (fr (share notQ x y), true) := by
  unfold yA4.f yAW.f
  have hs := meBoth_ x y hx hy
  have sx := tier_short h1
  have sy := tier_short h2
  have ho := overDisputedFrames_ x y sx sy
  have hm := meShared_ x y h1 h2
  have hb := share_bound notQ x y sx sy
  exact ⟨Ev.bind (Ev.eq (r := true) hs (by simp [h1, h2])) (Ev.pos rfl (Ev.bind hm (Ev.some rfl))), Ev.bind (Ev.eq (IsTier_ x hx) h1) (Ev.pos rfl (Ev.bind (Ev.eq (IsTier_ y hy) h2) (Ev.step (fun _ => yAW.j0.eq_2 ..) (Ev.neg (by decide) (Ev.bind ho (Ev.bind (framesOf_ _ (by omega)) (Ev.some rfl)))))))⟩
end Go.Proofs.Ytgapcmmhbegdeaa.MCDisputedFrames
end
section
/- FirstDispute: what the reference and the program answer, in plain words (out of the pure text of the exact law). No condition. -/
namespace Go.Proofs.Ytgapcmmhbegdeaa.MCFirstDispute
open Go.RowKit Go.Proofs.Ytgapcmmhbegdeaa.G Go.Proofs.YtgapcmmhbegdeaaW.PrintWords Go.Proofs.YtgapcmmhbegdeaaW.PrintLast Go.Proofs.Ytgapcmmhbegdeaa.MPure Go.Proofs.Ytgapcmmhbegdeaa.MWord Go.Proofs.Ytgapcmmhbegdeaa.MNote Go.Proofs.Ytgapcmmhbegdeaa.MGlossT Go.Proofs.Ytgapcmmhbegdeaa.MShare

theorem overFirstDispute_in (x y : List NI) (sx : x.length ≤ 40) (sy : y.length ≤ 40) (i : Nat) (hi : i < x.length) (r : List DI) (hn : Ev (fun k => yAE.l0 k y (share notQ (x.take (i + 1)) y) x (x.length : Int) ((i + 1 : Nat) : Int)) r) :
    ∀ e j : Nat, j + e = y.length → Ev (fun k => yAE.l1 k y (share notQ (x.take i) y ++ shareIn notQ (atN x i) (y.take j)) x (x.length : Int) (i : Int) y (y.length : Int) (j : Int) (atN x i).f0 (atN x i).f1 (atN x i).f2) r := by
  intro e
  induction e with
  | zero =>
    intro j hj
    rw [share_take _ x y i hi, ← wrap_succ (by omega)] at hn
    rw [List.take_of_length_le (l := y) (by omega)]
    exact Ev.step (fun _ => yAE.l1.eq_2 ..) (Ev.neg (by omega) hn)
  | succ e ih =>
    intro j hj
    have h := ih (j + 1) (by omega)
    rw [← wrap_succ (by omega)] at h
    have l1 := share_bound notQ (x.take i) y (by simp; omega) sy
    have l2 := shareIn_length notQ (atN x i) (y.take j)
    have l3 : (y.take j).length ≤ 40 := by simp; omega
    have go : ∀ c : Bool, (mx (atN x i).f0 (atN y j).f0 < mn (atN x i).f1 (atN y j).f1 ∨ c = false) → shareB notQ (atN x i) (atN y j) = c → Ev (fun k => yAE.j2 k y (share notQ (x.take i) y ++ shareIn notQ (atN x i) (y.take j)) x (x.length : Int) (i : Int) y (y.length : Int) (j : Int) c (atN x i).f0 (atN x i).f1 (atN x i).f2 (mx (atN x i).f0 (atN y j).f0) (mn (atN x i).f1 (atN y j).f1)) r := by
      intro c _ hs
      cases c with
      | true =>
        rw [shareIn_take_yes notQ _ y j (by omega) hs, ← List.append_assoc] at h
        exact Ev.step (fun _ => yAE.j2.eq_2 ..) (Ev.pos rfl (Ev.pos (by rw [List.length_append]; omega) h))
      | false =>
        rw [shareIn_take_no notQ _ y j (by omega) hs] at h
        exact Ev.step (fun _ => yAE.j2.eq_2 ..) (Ev.neg (by decide) h)
    refine Ev.step (fun _ => yAE.l1.eq_2 ..) (Ev.pos (by omega) (Ev.pos (by omega) (Ev.pos (by omega) (Ev.ite (fun h1 => Ev.have (rfl : yA9.f _ = some (notQ _)) (go _ (Or.inl h1) ?_)) (fun h1 => go false (Or.inr rfl) ?_)))))
    · unfold shareB
      rw [show decide (mx (atN x i).f0 (atN y j).f0 < mn (atN x i).f1 (atN y j).f1) = true from decide_eq_true h1]
      exact Bool.true_and _
    · unfold shareB
      rw [Bool.and_eq_false_iff, decide_eq_false_iff_not]
      exact .inl h1
theorem overFirstDispute_ (x y : List NI) (sx : x.length ≤ 40) (sy : y.length ≤ 40) : Ev (fun k => yAE.f k x y) (share notQ x y) := by
  have key : ∀ d i : Nat, i + d = x.length → Ev (fun k => yAE.l0 k y (share notQ (x.take i) y) x (x.length : Int) (i : Int)) (share notQ x y) := by
    intro d
    induction d with
    | zero =>
      intro i hi
      rw [List.take_of_length_le (by omega)]
      exact Ev.step (fun _ => yAE.l0.eq_2 ..) (Ev.neg (by omega) (Ev.some rfl))
    | succ d ih =>
      intro i hi
      have h := overFirstDispute_in x y sx sy i (by omega) _ (ih (i + 1) (by omega)) y.length 0 (by omega)
      have e0 : share notQ (x.take i) y ++ shareIn notQ (atN x i) (y.take 0) = share notQ (x.take i) y := by simp [shareIn]
      rw [e0] at h
      exact Ev.step (fun _ => yAE.l0.eq_2 ..) (Ev.pos (by omega) (Ev.pos (by omega) (Ev.pos (by omega) h)))
  exact key x.length 0 (by omega)
theorem FirstDispute_no (x y : List NI) (hx : Sized x) (hy : Sized y) (h : (tierB x && tierB y) = false) : Ev (fun k => yBB.f k x y) (0, false) ∧ Ev (fun k => yAb.f k x y) (0, false) := by
  unfold yBB.f yAb.f
  have hs := meBoth_ x y hx hy
  refine ⟨Ev.bind (Ev.eq (r := false) hs h) (Ev.neg (by decide) (Ev.some rfl)), ?_⟩
  clear hs
  cases h1 : tierB x with
  | false => exact Ev.bind (Ev.eq (IsTier_ x hx) h1) (Ev.neg (by decide) (Ev.step (fun _ => yAb.j0.eq_2 ..) (Ev.pos rfl (Ev.some rfl))))
  | true =>
    rw [h1, Bool.true_and] at h
    exact Ev.bind (Ev.eq (IsTier_ x hx) h1) (Ev.pos rfl (Ev.bind (Ev.eq (IsTier_ y hy) h) (Ev.step (fun _ => yAb.j0.eq_2 ..) (Ev.pos rfl (Ev.some rfl)))))
/-- What the first dispute is: the first frame of the first span that is shared and disputed. -/
def firstR (s : List DI) : Int × Bool := match s with
  | [] => (0, false)
  | d :: _ => (d.f0, true)
theorem FirstDispute_yes (x y : List NI) (hx : Sized x) (hy : Sized y) (h1 : tierB x = true) (h2 : tierB y = true) : Ev (fun k => yBB.f k x y) (firstR (share notQ x y)) ∧ Ev (fun k => yAb.f k x y) (firstR (share notQ x y)) := by
  unfold yBB.f yAb.f
  have hs := meBoth_ x y hx hy
  have sx := tier_short h1
  have sy := tier_short h2
  have ho := overFirstDispute_ x y sx sy
  have hm := meShared_ x y h1 h2
  have hb := share_bound notQ x y sx sy
  have hp : Pos (share notQ x y) := share_pos (fun n hn => (tier_bounds h1 hn).1) y
  generalize share notQ x y = s at ho hm hb hp
  cases s with
  | nil => exact ⟨Ev.bind (Ev.eq (r := true) hs (by simp [h1, h2])) (Ev.pos rfl (Ev.bind hm (Ev.pos (show (-1 : Int) < 0 by decide) (Ev.some rfl)))), Ev.bind (Ev.eq (IsTier_ x hx) h1) (Ev.pos rfl (Ev.bind (Ev.eq (IsTier_ y hy) h2) (Ev.step (fun _ => yAb.j0.eq_2 ..) (Ev.neg (by decide) (Ev.bind ho (Ev.pos rfl (Ev.some rfl)))))))⟩
  | cons d s =>
    have h0 := hp d (by simp)
    exact ⟨Ev.bind (Ev.eq (r := true) hs (by simp [h1, h2])) (Ev.pos rfl (Ev.bind hm (Ev.neg (show ¬ d.f0 < 0 by omega) (Ev.some rfl)))), Ev.bind (Ev.eq (IsTier_ x hx) h1) (Ev.pos rfl (Ev.bind (Ev.eq (IsTier_ y hy) h2) (Ev.step (fun _ => yAb.j0.eq_2 ..) (Ev.neg (by decide) (Ev.bind ho (Ev.neg (by rw [List.length_cons]; omega) (Ev.pos (by rw [List.length_cons]; omega) (Ev.some rfl))))))))⟩
end Go.Proofs.Ytgapcmmhbegdeaa.MCFirstDispute
end
section
/- The library's stable sort, as the print tells it: what comes back are the same elements, in the order of their first numbers. -/
namespace Go.Proofs.Ytgapcmmhbegdeaa.MSort
open Go.RowKit Go.Proofs.Ytgapcmmhbegdeaa.G Go.Proofs.YtgapcmmhbegdeaaW.PrintWords Go.Proofs.YtgapcmmhbegdeaaW.PrintLast Go.Proofs.Ytgapcmmhbegdeaa.MPure Go.Proofs.Ytgapcmmhbegdeaa.MNote

def ky (l : List NI) (i : Nat) : Int := (atN l i).f0
theorem atN_get {l : List NI} {i : Nat} (h : i < l.length) : atN l i = l[i] := by
  unfold atN
  rw [List.getD_eq_getElem?_getD, List.getElem?_eq_getElem h]
  rfl
/-- r is l with the elements from a up to b in another order. -/
def W (l r : List NI) (a b : Nat) : Prop := r.length = l.length ∧ r.Perm l ∧ (∀ i, i < a ∨ b ≤ i → atN r i = atN l i) ∧ (∀ i, a ≤ i → i < b → ∃ j, a ≤ j ∧ j < b ∧ atN r i = atN l j)
theorem W.refl (l : List NI) (a b : Nat) : W l l a b := ⟨rfl, List.Perm.refl _, fun _ _ => rfl, fun i h1 h2 => ⟨i, h1, h2, rfl⟩⟩
theorem W.trans {l r s : List NI} {a b : Nat} (h : W l r a b) (k : W r s a b) : W l s a b := by
  refine ⟨k.1.trans h.1, k.2.1.trans h.2.1, fun i hi => (k.2.2.1 i hi).trans (h.2.2.1 i hi), fun i h1 h2 => ?_⟩
  obtain ⟨j, j1, j2, e⟩ := k.2.2.2 i h1 h2
  obtain ⟨m, m1, m2, e2⟩ := h.2.2.2 j j1 j2
  exact ⟨m, m1, m2, e.trans e2⟩
theorem W.widen {l r : List NI} {a b a' b' : Nat} (h : W l r a b) (ha : a' ≤ a) (hb : b ≤ b') : W l r a' b' := by
  refine ⟨h.1, h.2.1, fun i hi => h.2.2.1 i (by omega), fun i h1 h2 => ?_⟩
  by_cases hc : a ≤ i ∧ i < b
  · obtain ⟨j, j1, j2, e⟩ := h.2.2.2 i hc.1 hc.2
    exact ⟨j, by omega, by omega, e⟩
  · exact ⟨i, h1, h2, h.2.2.1 i (by omega)⟩
def sw (l : List NI) (i j : Nat) : List NI := (l.set i (atN l j)).set j (atN l i)
theorem atN_set (l : List NI) (i j : Nat) (v : NI) (h : i < l.length) : atN (l.set i v) j = if j = i then v else atN l j := by
  unfold atN
  rw [List.getD_eq_getElem?_getD, List.getElem?_set]
  by_cases e : i = j
  · subst e
    rw [if_pos rfl, if_pos h, if_pos rfl]
    rfl
  · rw [if_neg e, if_neg (fun h => e h.symm), ← List.getD_eq_getElem?_getD]
theorem sw_at (l : List NI) {i j : Nat} (hi : i < l.length) (hj : j < l.length) (t : Nat) : atN (sw l i j) t = if t = j then atN l i else if t = i then atN l j else atN l t := by
  unfold sw
  rw [atN_set _ _ _ _ (by rw [List.length_set]; exact hj), atN_set _ _ _ _ hi]
theorem sw_length (l : List NI) (i j : Nat) : (sw l i j).length = l.length := by simp [sw]
theorem sw_perm (l : List NI) {i j : Nat} (hi : i < l.length) (hj : j < l.length) : (sw l i j).Perm l := by
  unfold sw
  rw [atN_get hi, atN_get hj]
  exact List.set_set_perm hi hj
theorem W.sw (l : List NI) {i j a b : Nat} (hi : i < l.length) (hj : j < l.length) (h1 : a ≤ i) (h2 : i < b) (h3 : a ≤ j) (h4 : j < b) : W l (sw l i j) a b := by
  refine ⟨sw_length l i j, sw_perm l hi hj, fun t ht => ?_, fun t ht1 ht2 => ?_⟩
  · rw [sw_at l hi hj, if_neg (by omega), if_neg (by omega)]
  · rw [sw_at l hi hj]
    by_cases e : t = j
    · rw [if_pos e]; exact ⟨i, h1, h2, rfl⟩
    · rw [if_neg e]
      by_cases e2 : t = i
      · rw [if_pos e2]; exact ⟨j, h3, h4, rfl⟩
      · rw [if_neg e2]; exact ⟨t, ht1, ht2, rfl⟩
/-- Sorted from a up to b. -/
def Srt (l : List NI) (a b : Nat) : Prop := ∀ p q, a ≤ p → p < q → q < b → ky l p ≤ ky l q
theorem Srt.sub {l : List NI} {a b a' b' : Nat} (h : Srt l a b) (ha : a ≤ a') (hb : b' ≤ b) : Srt l a' b' := fun p q h1 h2 h3 => h p q (by omega) h2 (by omega)
theorem Srt.same {l r : List NI} {a b : Nat} (h : Srt l a b) (e : ∀ i, a ≤ i → i < b → atN r i = atN l i) : Srt r a b := by
  intro p q h1 h2 h3
  unfold ky
  rw [e p h1 (by omega), e q (by omega) h3]
  exact h p q h1 h2 h3
def KB (l : List NI) : Prop := (∀ x, x ∈ l → 0 ≤ x.f0 ∧ x.f0 ≤ 99999) ∧ l.length ≤ 4398046511104
theorem KB.perm {l r : List NI} (h : KB l) (p : r.Perm l) : KB r := ⟨fun x hx => h.1 x (p.mem_iff.1 hx), by rw [p.length_eq]; exact h.2⟩
theorem KB.at {l : List NI} (h : KB l) {i : Nat} (hi : i < l.length) : 0 ≤ ky l i ∧ ky l i ≤ 99999 := h.1 _ (atN_mem hi)
theorem cmp_ (x y : NI) (hx : 0 ≤ x.f0 ∧ x.f0 ≤ 99999) (hy : 0 ≤ y.f0 ∧ y.f0 ≤ 99999) : yAY.f x.f0 x.f1 x.f2 y.f0 y.f1 y.f2 = some (x.f0 - y.f0) := by
  unfold yAY.f
  rw [wrap_in (by omega) (by omega)]

/-! ### insertion -/
def Inv (l : List NI) (a i j : Nat) : Prop := (∀ p q, a ≤ p → p < q → q ≤ i → p ≠ j → q ≠ j → ky l p ≤ ky l q) ∧ (∀ q, j < q → q ≤ i → ky l j ≤ ky l q)
theorem ins (a b : Nat) : ∀ d i : Nat, i + d = b → a ≤ i → ∀ x : List NI, b ≤ x.length → KB x → Srt x a i →
    ∃ r, Ev (fun k => yAB.l0 k x (a : Int) (b : Int) (i : Int)) r ∧ W x r a b ∧ Srt r a b := by
  intro d
  induction d with
  | zero =>
    intro i hi ha x hb hk hs
    obtain rfl : i = b := by omega
    exact ⟨x, Ev.step (fun _ => yAB.l0.eq_2 ..) (Ev.neg (by omega) (Ev.some rfl)), W.refl _ _ _, hs⟩
  | succ d ih =>
    intro i hi ha x hb hk hs
    have inner : ∀ e j : Nat, j = a + e → j ≤ i → ∀ y : List NI, y.length = x.length → KB y → Inv y a i j → ∃ r, Ev (fun k => yAB.l1 k y (a : Int) (b : Int) (i : Int) (j : Int)) r ∧ W y r a b ∧ Srt r a b := by
      intro e
      induction e with
      | zero =>
        intro j hj hji y hy hky hI
        obtain ⟨r, h1, h2, h3⟩ := ih (i + 1) (by omega) (by omega) y (by omega) hky (fun p q p1 p2 p3 => by
          by_cases e1 : p = j
          · subst e1; exact hI.2 q p2 (by omega)
          · exact hI.1 p q p1 p2 (by omega) e1 (by omega))
        have := hky.2
        rw [← wrap_succ (by omega)] at h1
        exact ⟨r, Ev.step (fun _ => yAB.l1.eq_2 ..) (Ev.neg (by omega) (Ev.step (fun _ => yAB.j2.eq_2 ..) (Ev.neg (by decide) h1))), h2, h3⟩
      | succ e ihe =>
        intro j hj hji y hy hky hI
        have hlen := hky.2
        have hj1 : j < y.length := by omega
        have hj2 : j - 1 < y.length := by omega
        have hw : wrap64 ((j : Int) - 1) = ((j - 1 : Nat) : Int) := wrap_pred (by omega) (by omega)
        have hc := cmp_ (atN y j) (atN y (j - 1)) (hky.at hj1) (hky.at hj2)
        by_cases hlt : ky y j < ky y (j - 1)
        · obtain ⟨r, h1, h2, h3⟩ := ihe (j - 1) (by omega) (by omega) (sw y j (j - 1)) (by rw [sw_length]; exact hy) (hky.perm (sw_perm y hj1 hj2)) (by
            have hv : ∀ t, ky (sw y j (j - 1)) t = if t = j - 1 then ky y j else if t = j then ky y (j - 1) else ky y t := by
              intro t
              unfold ky
              rw [sw_at y hj1 hj2]
              split
              · rfl
              · split <;> rfl
            refine ⟨fun p q p1 p2 p3 p4 p5 => ?_, fun q q1 q2 => ?_⟩
            · rw [hv p, hv q, if_neg p4, if_neg p5]
              by_cases e1 : p = j
              · rw [if_pos e1, if_neg (by omega)]
                exact hI.1 (j - 1) q (by omega) (by omega) p3 (by omega) (by omega)
              · rw [if_neg e1]
                by_cases e2 : q = j
                · rw [if_pos e2]
                  exact hI.1 p (j - 1) p1 (by omega) (by omega) e1 (by omega)
                · rw [if_neg e2]
                  exact hI.1 p q p1 p2 p3 e1 e2
            · rw [hv (j - 1), hv q, if_pos rfl, if_neg (by omega)]
              by_cases e2 : q = j
              · rw [if_pos e2]; omega
              · rw [if_neg e2]
                exact hI.2 q (by omega) q2)
          have hW := W.sw y (a := a) (b := b) hj1 hj2 (by omega) (by omega) (by omega) (by omega)
          refine ⟨r, Ev.step (fun _ => yAB.l1.eq_2 ..) (Ev.pos (by omega) (Ev.pos (by omega) (Ev.pos (by omega) ?_))), hW.trans h2, h3⟩
          rw [hw]
          refine Ev.pos (by omega) (Ev.pos (by omega) (Ev.have hc (Ev.step (fun _ => yAB.j2.eq_2 ..) (Ev.pos (decide_eq_true (by unfold ky at hlt; omega)) ?_))))
          rw [hw]
          exact Ev.pos (by omega) (Ev.pos (by omega) (Ev.pos (by omega) (Ev.pos (by omega) h1)))
        · obtain ⟨r, h1, h2, h3⟩ := ih (i + 1) (by omega) (by omega) y (by omega) hky (fun p q p1 p2 p3 => by
            by_cases e1 : p = j
            · subst e1; exact hI.2 q p2 (by omega)
            · by_cases e2 : q = j
              · subst e2
                by_cases e3 : p = q - 1
                · subst e3; omega
                · have := hI.1 p (q - 1) p1 (by omega) (by omega) e1 (by omega)
                  omega
              · exact hI.1 p q p1 p2 (by omega) e1 e2)
          rw [← wrap_succ (by omega)] at h1
          refine ⟨r, Ev.step (fun _ => yAB.l1.eq_2 ..) (Ev.pos (by omega) (Ev.pos (by omega) (Ev.pos (by omega) ?_))), h2, h3⟩
          rw [hw]
          exact Ev.pos (by omega) (Ev.pos (by omega) (Ev.have hc (Ev.step (fun _ => yAB.j2.eq_2 ..) (Ev.neg (by unfold ky at hlt; simp only [decide_eq_true_eq]; omega) h1))))
    obtain ⟨r, h1, h2, h3⟩ := inner (i - a) i (by omega) (Nat.le_refl _) x rfl hk ⟨fun p q p1 p2 p3 p4 p5 => hs p q p1 p2 (by omega), fun q q1 q2 => by omega⟩
    exact ⟨r, Ev.step (fun _ => yAB.l0.eq_2 ..) (Ev.pos (by omega) h1), h2, h3⟩
theorem insertion (x : List NI) (a b : Nat) (hab : a ≤ b) (hb : b ≤ x.length) (hk : KB x) : ∃ r, Ev (fun k => yAB.f k x (a : Int) (b : Int)) r ∧ W x r a b ∧ Srt r a b := by
  unfold yAB.f
  have := hk.2
  rw [wrap_succ (by omega)]
  rcases Nat.eq_or_lt_of_le hab with e | e
  · refine ⟨x, Ev.step (fun _ => yAB.l0.eq_2 ..) (Ev.neg (by omega) (Ev.some rfl)), W.refl _ _ _, fun p q h1 h2 h3 => by omega⟩
  · exact ins a b (b - (a + 1)) (a + 1) (by omega) (by omega) x hb hk (fun p q h1 h2 h3 => by omega)

/-! ### rows of swaps, turns -/
theorem wrap_add {a b : Nat} (h : a + b ≤ 4611686018427387904) : wrap64 ((a : Int) + (b : Int)) = ((a + b : Nat) : Int) := by unfold wrap64; omega
theorem wrap_sub {a b : Nat} (h : b ≤ a) (h' : a ≤ 4611686018427387904) : wrap64 ((a : Int) - (b : Int)) = ((a - b : Nat) : Int) := by unfold wrap64; omega
theorem half {a b : Nat} (h : a + b ≤ 4611686018427387904) : wrap64 ((IntKind.u64.wrap (wrap64 ((a : Int) + (b : Int)))) / 2) = (((a + b) / 2 : Nat) : Int) := by
  rw [wrap_add h]
  have : IntKind.u64.wrap ((a + b : Nat) : Int) = ((a + b : Nat) : Int) := by
    show ((a + b : Nat) : Int) % 2 ^ 64 = _
    omega
  rw [this]
  unfold wrap64
  omega
theorem swapRange (x : List NI) (a b n : Nat) (hab : a + n ≤ b) (hb : b + n ≤ x.length) (hl : x.length ≤ 4398046511104) :
    ∃ r, Ev (fun k => yAI.f k x (a : Int) (b : Int) (n : Int)) r ∧ r.length = x.length ∧ r.Perm x ∧ (∀ t, t < n → atN r (a + t) = atN x (b + t) ∧ atN r (b + t) = atN x (a + t)) ∧ (∀ t, t < a ∨ a + n ≤ t → t < b ∨ b + n ≤ t → atN r t = atN x t) := by
  have key : ∀ d i : Nat, i + d = n → ∀ y : List NI, y.length = x.length → y.Perm x → (∀ t, t < i → atN y (a + t) = atN x (b + t) ∧ atN y (b + t) = atN x (a + t)) → (∀ t, t < a ∨ a + i ≤ t → t < b ∨ b + i ≤ t → atN y t = atN x t) →
      ∃ r, Ev (fun k => yAI.l0 k y (a : Int) (b : Int) (n : Int) (i : Int)) r ∧ r.length = x.length ∧ r.Perm x ∧ (∀ t, t < n → atN r (a + t) = atN x (b + t) ∧ atN r (b + t) = atN x (a + t)) ∧ (∀ t, t < a ∨ a + n ≤ t → t < b ∨ b + n ≤ t → atN r t = atN x t) := by
    intro d
    induction d with
    | zero =>
      intro i hi y hy hp h1 h2
      obtain rfl : i = n := by omega
      exact ⟨y, Ev.step (fun _ => yAI.l0.eq_2 ..) (Ev.neg (by omega) (Ev.some rfl)), hy, hp, h1, h2⟩
    | succ d ih =>
      intro i hi y hy hp h1 h2
      have ha' : a + i < y.length := by omega
      have hb' : b + i < y.length := by omega
      obtain ⟨r, g1, g2, g3, g4, g5⟩ := ih (i + 1) (by omega) (sw y (a + i) (b + i)) (by rw [sw_length]; exact hy) ((sw_perm y ha' hb').trans hp) (fun t ht => by
        rw [sw_at y ha' hb', sw_at y ha' hb', if_neg (by omega)]
        by_cases e : t = i
        · subst e
          rw [if_pos rfl, if_pos rfl, h2 (b + t) (by omega) (by omega), h2 (a + t) (by omega) (by omega)]
          exact ⟨rfl, rfl⟩
        · rw [if_neg (by omega), if_neg (by omega), if_neg (by omega)]
          exact h1 t (by omega)) (fun t t1 t2 => by
        rw [sw_at y ha' hb', if_neg (by omega), if_neg (by omega)]
        exact h2 t (by omega) (by omega))
      rw [← wrap_succ (by omega)] at g1
      refine ⟨r, Ev.step (fun _ => yAI.l0.eq_2 ..) (Ev.pos (by omega) ?_), g2, g3, g4, g5⟩
      rw [wrap_add (a := b) (b := i) (by omega), wrap_add (a := a) (b := i) (by omega)]
      exact Ev.pos (by omega) (Ev.pos (by omega) (Ev.pos (by omega) (Ev.pos (by omega) g1)))
  exact key n 0 (by omega) x rfl (List.Perm.refl _) (fun t ht => absurd ht (Nat.not_lt_zero _)) (fun t _ _ => rfl)
theorem rot : ∀ N i j : Nat, i + j ≤ N → 0 < i → 0 < j → ∀ (x : List NI) (m : Nat), i ≤ m → m + j ≤ x.length → x.length ≤ 4398046511104 →
    ∃ r, Ev (fun k => yAR.l0 k x (m : Int) (i : Int) (j : Int)) r ∧ r.length = x.length ∧ r.Perm x ∧ (∀ t, t < j → atN r (m - i + t) = atN x (m + t)) ∧ (∀ t, t < i → atN r (m - i + j + t) = atN x (m - i + t)) ∧ (∀ t, t < m - i ∨ m + j ≤ t → atN r t = atN x t) := by
  intro N
  induction N with
  | zero => intro i j h hi; omega
  | succ N ih =>
    intro i j hN hi hj x m him hmj hl
    have e0 : wrap64 ((m : Int) - (i : Int)) = ((m - i : Nat) : Int) := wrap_sub him (by omega)
    rcases Nat.lt_trichotomy i j with h | h | h
    · obtain ⟨y, y1, y2, y3, y4, y5⟩ := swapRange x (m - i) (m + j - i) i (by omega) (by omega) hl
      obtain ⟨r, r1, r2, r3, r4, r5, r6⟩ := ih i (j - i) (by omega) hi (by omega) y m him (by omega) (by omega)
      refine ⟨r, Ev.step (fun _ => yAR.l0.eq_2 ..) (Ev.neg (by omega) (Ev.neg (by omega) ?_)), r2.trans y2, r3.trans y3, fun t ht => ?_, fun t ht => ?_, fun t ht => ?_⟩
      · rw [e0, wrap_add (a := m) (b := j) (by omega), wrap_sub (a := m + j) (b := i) (by omega) (by omega), wrap_sub (a := j) (b := i) (by omega) (by omega)]
        exact Ev.bind y1 r1
      · by_cases c : t < j - i
        · rw [r4 t c, y5 (m + t) (by omega) (by omega)]
        · have h1 := r6 (m - i + t)
          have h2 := r5 (t - (j - i)) (by omega)
          have h3 := (y4 (t - (j - i)) (by omega)).1
          rw [show m - i + (j - i) + (t - (j - i)) = m - i + t by omega] at h2
          rw [h2, h3]
          congr 1
          omega
      · have h1 := r6 (m - i + j + t) (by omega)
        have h2 := (y4 t ht).2
        rw [h1, show m - i + j + t = m + j - i + t by omega, h2]
      · rw [r6 t (by omega), y5 t (by omega) (by omega)]
    · subst h
      obtain ⟨y, y1, y2, y3, y4, y5⟩ := swapRange x (m - i) m i (by omega) (by omega) hl
      refine ⟨y, Ev.step (fun _ => yAR.l0.eq_2 ..) (Ev.pos rfl ?_), y2, y3, fun t ht => (y4 t ht).1, fun t ht => ?_, fun t ht => y5 t (by omega) (by omega)⟩
      · rw [e0]
        exact Ev.bind y1 (Ev.some rfl)
      · rw [show m - i + i + t = m + t by omega]
        exact (y4 t ht).2
    · obtain ⟨y, y1, y2, y3, y4, y5⟩ := swapRange x (m - i) m j (by omega) (by omega) hl
      obtain ⟨r, r1, r2, r3, r4, r5, r6⟩ := ih (i - j) j (by omega) (by omega) hj y m (by omega) (by omega) (by omega)
      refine ⟨r, Ev.step (fun _ => yAR.l0.eq_2 ..) (Ev.neg (by omega) (Ev.pos (by omega) ?_)), r2.trans y2, r3.trans y3, fun t ht => ?_, fun t ht => ?_, fun t ht => ?_⟩
      · rw [e0, wrap_sub (a := i) (b := j) (by omega) (by omega)]
        exact Ev.bind y1 r1
      · rw [r6 (m - i + t) (by omega), (y4 t ht).1]
      · by_cases c : t < j
        · have h1 := r4 t c
          rw [show m - (i - j) + t = m - i + j + t by omega] at h1
          rw [h1, (y4 t c).2]
        · have h1 := r5 (t - j) (by omega)
          rw [show m - (i - j) + j + (t - j) = m - i + j + t by omega] at h1
          rw [h1, y5 (m - (i - j) + (t - j)) (by omega) (by omega)]
          congr 1
          omega
      · rw [r6 t (by omega), y5 t (by omega) (by omega)]
theorem rotate (x : List NI) (a m b : Nat) (h1 : a < m) (h2 : m < b) (hb : b ≤ x.length) (hl : x.length ≤ 4398046511104) :
    ∃ r, Ev (fun k => yAR.f k x (a : Int) (m : Int) (b : Int)) r ∧ r.length = x.length ∧ r.Perm x ∧ (∀ t, t < b - m → atN r (a + t) = atN x (m + t)) ∧ (∀ t, t < m - a → atN r (a + (b - m) + t) = atN x (a + t)) ∧ (∀ t, t < a ∨ b ≤ t → atN r t = atN x t) := by
  obtain ⟨r, r1, r2, r3, r4, r5, r6⟩ := rot (m - a + (b - m)) (m - a) (b - m) (Nat.le_refl _) (by omega) (by omega) x m (by omega) (by omega) hl
  unfold yAR.f
  rw [wrap_sub (by omega) (by omega), wrap_sub (by omega) (by omega)]
  have e : m - (m - a) = a := by omega
  rw [e] at r4 r5 r6
  exact ⟨r, r1, r2, r3, r4, r5, fun t ht => r6 t (by omega)⟩

/-! ### one element brought to its place -/
/-- What the walk up comes to. -/
theorem up (x : List NI) (a s b : Nat) (h1 : a < s) (hs : s ≤ b) (hb : b ≤ x.length) (hl : x.length ≤ 4398046511104) :
    ∃ r, Ev (fun k => yAA.l1 k x (s : Int) (a : Int)) r ∧ W x r a b ∧ (∀ t, a ≤ t → t < s - 1 → atN r t = atN x (t + 1)) ∧ atN r (s - 1) = atN x a ∧ (∀ t, t < a ∨ s ≤ t → atN r t = atN x t) := by
  have key : ∀ d k : Nat, k + d = s - 1 → a ≤ k → ∀ y : List NI, W x y a b → (∀ t, a ≤ t → t < k → atN y t = atN x (t + 1)) → atN y k = atN x a → (∀ t, t < a ∨ k < t → atN y t = atN x t) →
      ∃ r, Ev (fun n => yAA.l1 n y (s : Int) (k : Int)) r ∧ W x r a b ∧ (∀ t, a ≤ t → t < s - 1 → atN r t = atN x (t + 1)) ∧ atN r (s - 1) = atN x a ∧ (∀ t, t < a ∨ s ≤ t → atN r t = atN x t) := by
    intro d
    induction d with
    | zero =>
      intro k hk hak y hW g1 g2 g3
      obtain rfl : k = s - 1 := by omega
      refine ⟨y, Ev.step (fun _ => yAA.l1.eq_2 ..) (Ev.neg ?_ (Ev.some rfl)), hW, g1, g2, fun t ht => g3 t (by omega)⟩
      rw [wrap_pred (by omega) (by omega)]
      omega
    | succ d ih =>
      intro k hk hak y hW g1 g2 g3
      have hy := hW.1
      have k1 : k < y.length := by omega
      have k2 : k + 1 < y.length := by omega
      obtain ⟨r, r1, r2⟩ := ih (k + 1) (by omega) (by omega) (sw y k (k + 1)) (hW.trans (W.sw y k1 k2 hak (by omega) (by omega) (by omega))) (fun t t1 t2 => by
        rw [sw_at y k1 k2, if_neg (by omega)]
        by_cases e : t = k
        · subst e; rw [if_pos rfl]; exact g3 (t + 1) (by omega)
        · rw [if_neg e]; exact g1 t t1 (by omega)) (by rw [sw_at y k1 k2, if_pos rfl]; exact g2) (fun t ht => by
        rw [sw_at y k1 k2, if_neg (by omega), if_neg (by omega)]; exact g3 t (by omega))
      rw [← wrap_succ (by omega)] at r1
      refine ⟨r, Ev.step (fun _ => yAA.l1.eq_2 ..) (Ev.pos (by rw [wrap_pred (by omega) (by omega)]; omega) ?_), r2⟩
      rw [wrap_succ (i := k) (by omega)]
      rw [wrap_succ (i := k) (by omega)] at r1
      exact Ev.pos (by omega) (Ev.pos (by omega) (Ev.pos (by omega) (Ev.pos (by omega) r1)))
  exact key (s - 1 - a) a (by omega) (Nat.le_refl _) x (W.refl _ _ _) (fun t t1 t2 => by omega) rfl (fun t _ => rfl)
/-- What the walk down comes to. -/
theorem down (x : List NI) (a s m b : Nat) (ha : a ≤ s) (h1 : s ≤ m) (hs : m < b) (hb : b ≤ x.length) (hl : x.length ≤ 4398046511104) :
    ∃ r, Ev (fun k => yAA.l3 k x (s : Int) (m : Int)) r ∧ W x r a b ∧ (∀ t, s < t → t ≤ m → atN r t = atN x (t - 1)) ∧ atN r s = atN x m ∧ (∀ t, t < s ∨ m < t → atN r t = atN x t) := by
  have key : ∀ d k : Nat, k = s + d → k ≤ m → ∀ y : List NI, W x y a b → (∀ t, k < t → t ≤ m → atN y t = atN x (t - 1)) → atN y k = atN x m → (∀ t, t < k ∨ m < t → atN y t = atN x t) →
      ∃ r, Ev (fun n => yAA.l3 n y (s : Int) (k : Int)) r ∧ W x r a b ∧ (∀ t, s < t → t ≤ m → atN r t = atN x (t - 1)) ∧ atN r s = atN x m ∧ (∀ t, t < s ∨ m < t → atN r t = atN x t) := by
    intro d
    induction d with
    | zero =>
      intro k hk hak y hW g1 g2 g3
      obtain rfl : k = s := by omega
      exact ⟨y, Ev.step (fun _ => yAA.l3.eq_2 ..) (Ev.neg (by omega) (Ev.some rfl)), hW, g1, g2, g3⟩
    | succ d ih =>
      intro k hk hak y hW g1 g2 g3
      have hy := hW.1
      have k1 : k < y.length := by omega
      have k2 : k - 1 < y.length := by omega
      obtain ⟨r, r1, r2⟩ := ih (k - 1) (by omega) (by omega) (sw y k (k - 1)) (hW.trans (W.sw y k1 k2 (by omega) (by omega) (by omega) (by omega))) (fun t t1 t2 => by
        rw [sw_at y k1 k2, if_neg (by omega)]
        by_cases e : t = k
        · subst e; rw [if_pos rfl]; exact g3 (t - 1) (by omega)
        · rw [if_neg e]; exact g1 t (by omega) t2) (by rw [sw_at y k1 k2, if_pos rfl]; exact g2) (fun t ht => by
        rw [sw_at y k1 k2, if_neg (by omega), if_neg (by omega)]; exact g3 t (by omega))
      refine ⟨r, Ev.step (fun _ => yAA.l3.eq_2 ..) (Ev.pos (by omega) ?_), r2⟩
      rw [wrap_pred (i := k) (by omega) (by omega)]
      exact Ev.pos (by omega) (Ev.pos (by omega) (Ev.pos (by omega) (Ev.pos (by omega) r1)))
  exact key (m - s) m (by omega) (Nat.le_refl _) x (W.refl _ _ _) (fun t t1 t2 => by omega) rfl (fun t _ => rfl)
theorem first (x : List NI) (a b : Nat) (hab : a + 1 < b) (hb : b ≤ x.length) (hk : KB x) (hS : Srt x (a + 1) b) :
    ∃ r, Ev (fun k => yAA.l0 k x (a : Int) ((a + 1 : Nat) : Int) (b : Int)) r ∧ W x r a b ∧ Srt r a b := by
  have hl := hk.2
  have key : ∀ N i j : Nat, j - i ≤ N → a + 1 ≤ i → i ≤ j → j ≤ b → (∀ q, a + 1 ≤ q → q < i → ky x q < ky x a) → (∀ q, j ≤ q → q < b → ky x a ≤ ky x q) →
      ∃ r, Ev (fun k => yAA.l0 k x (a : Int) (i : Int) (j : Int)) r ∧ W x r a b ∧ Srt r a b := by
    intro N
    induction N with
    | zero =>
      intro i j h1 h2 h3 h4 g1 g2
      obtain rfl : i = j := by omega
      obtain ⟨r, r1, r2, r3, r4, r5⟩ := up x a i b (by omega) h4 hb hl
      refine ⟨r, Ev.step (fun _ => yAA.l0.eq_2 ..) (Ev.neg (by omega) r1), r2, fun p q p1 p2 p3 => ?_⟩
      have hv : ∀ t, a ≤ t → ky r t = if t < i - 1 then ky x (t + 1) else if t = i - 1 then ky x a else ky x t := by
        intro t ht
        unfold ky
        split
        · rw [r3 t ht (by assumption)]
        · split
          · next e => subst e; rw [r4]
          · rw [r5 t (by omega)]
      rw [hv p p1, hv q (by omega)]
      by_cases e1 : p < i - 1
      · rw [if_pos e1]
        by_cases e2 : q < i - 1
        · rw [if_pos e2]; exact hS (p + 1) (q + 1) (by omega) (by omega) (by omega)
        · rw [if_neg e2]
          by_cases e3 : q = i - 1
          · rw [if_pos e3]; have := g1 (p + 1) (by omega) (by omega); omega
          · rw [if_neg e3]; exact hS (p + 1) q (by omega) (by omega) p3
      · rw [if_neg e1, if_neg (show ¬ q < i - 1 by omega), if_neg (show ¬ q = i - 1 by omega)]
        by_cases e3 : p = i - 1
        · rw [if_pos e3]; exact g2 q (by omega) p3
        · rw [if_neg e3]; exact hS p q (by omega) p2 p3
    | succ N ih =>
      intro i j h1 h2 h3 h4 g1 g2
      by_cases hij : i < j
      · have c1 : (i + j) / 2 < x.length := by omega
        have hc := cmp_ (atN x ((i + j) / 2)) (atN x a) (hk.at c1) (hk.at (by omega))
        by_cases hlt : ky x ((i + j) / 2) < ky x a
        · obtain ⟨r, r1, r2⟩ := ih ((i + j) / 2 + 1) j (by omega) (by omega) (by omega) h4 (fun q q1 q2 => by
            by_cases e : q = (i + j) / 2
            · subst e; exact hlt
            · have := hS q ((i + j) / 2) q1 (by omega) (by omega); omega) g2
          refine ⟨r, Ev.step (fun _ => yAA.l0.eq_2 ..) (Ev.pos (by omega) ?_), r2⟩
          rw [half (by omega)]
          rw [← wrap_succ (by omega)] at r1
          exact Ev.pos (by omega) (Ev.pos (by omega) (Ev.pos (by omega) (Ev.pos (by omega) (Ev.have hc (Ev.pos (by unfold ky at hlt; omega) r1)))))
        · obtain ⟨r, r1, r2⟩ := ih i ((i + j) / 2) (by omega) h2 (by omega) (by omega) g1 (fun q q1 q2 => by
            by_cases e : q = (i + j) / 2
            · subst e; omega
            · have := hS ((i + j) / 2) q (by omega) (by omega) q2; omega)
          refine ⟨r, Ev.step (fun _ => yAA.l0.eq_2 ..) (Ev.pos (by omega) ?_), r2⟩
          rw [half (by omega)]
          exact Ev.pos (by omega) (Ev.pos (by omega) (Ev.pos (by omega) (Ev.pos (by omega) (Ev.have hc (Ev.neg (by unfold ky at hlt; omega) r1)))))
      · exact (by
          obtain rfl : i = j := by omega
          exact ih i i (by omega) h2 (Nat.le_refl _) h4 g1 g2)
  exact key (b - (a + 1)) (a + 1) b (by omega) (Nat.le_refl _) (by omega) (Nat.le_refl _) (fun q q1 q2 => by omega) (fun q q1 q2 => by omega)
theorem last (x : List NI) (a m : Nat) (ham : a < m) (hb : m + 1 ≤ x.length) (hk : KB x) (hS : Srt x a m) :
    ∃ r, Ev (fun k => yAA.l2 k x (m : Int) (a : Int) (m : Int)) r ∧ W x r a (m + 1) ∧ Srt r a (m + 1) := by
  have hl := hk.2
  have key : ∀ N i j : Nat, j - i ≤ N → a ≤ i → i ≤ j → j ≤ m → (∀ q, a ≤ q → q < i → ky x q ≤ ky x m) → (∀ q, j ≤ q → q < m → ky x m < ky x q) →
      ∃ r, Ev (fun k => yAA.l2 k x (m : Int) (i : Int) (j : Int)) r ∧ W x r a (m + 1) ∧ Srt r a (m + 1) := by
    intro N
    induction N with
    | zero =>
      intro i j h1 h2 h3 h4 g1 g2
      obtain rfl : i = j := by omega
      obtain ⟨r, r1, r2, r3, r4, r5⟩ := down x a i m (m + 1) h2 h4 (by omega) hb hl
      refine ⟨r, Ev.step (fun _ => yAA.l2.eq_2 ..) (Ev.neg (by omega) r1), r2, fun p q p1 p2 p3 => ?_⟩
      have hv : ∀ t, t ≤ m → ky r t = if t < i then ky x t else if t = i then ky x m else ky x (t - 1) := by
        intro t ht
        unfold ky
        split
        · rw [r5 t (by omega)]
        · split
          · next e => subst e; rw [r4]
          · rw [r3 t (by omega) ht]
      rw [hv p (by omega), hv q (by omega)]
      by_cases e1 : p < i
      · rw [if_pos e1]
        by_cases e2 : q < i
        · rw [if_pos e2]; exact hS p q p1 p2 (by omega)
        · rw [if_neg e2]
          by_cases e3 : q = i
          · rw [if_pos e3]; exact g1 p p1 e1
          · rw [if_neg e3]
            by_cases e4 : p = q - 1
            · omega
            · exact hS p (q - 1) p1 (by omega) (by omega)
      · rw [if_neg e1, if_neg (show ¬ q < i by omega), if_neg (show ¬ q = i by omega)]
        by_cases e3 : p = i
        · rw [if_pos e3]; have := g2 (q - 1) (by omega) (by omega); omega
        · rw [if_neg e3]; exact hS (p - 1) (q - 1) (by omega) (by omega) (by omega)
    | succ N ih =>
      intro i j h1 h2 h3 h4 g1 g2
      by_cases hij : i < j
      · have c1 : (i + j) / 2 < x.length := by omega
        have hc := cmp_ (atN x m) (atN x ((i + j) / 2)) (hk.at (by omega)) (hk.at c1)
        by_cases hlt : ky x m < ky x ((i + j) / 2)
        · obtain ⟨r, r1, r2⟩ := ih i ((i + j) / 2) (by omega) h2 (by omega) (by omega) g1 (fun q q1 q2 => by
            by_cases e : q = (i + j) / 2
            · subst e; exact hlt
            · have := hS ((i + j) / 2) q (by omega) (by omega) q2; omega)
          refine ⟨r, Ev.step (fun _ => yAA.l2.eq_2 ..) (Ev.pos (by omega) (Ev.pos (by omega) (Ev.pos (by omega) ?_))), r2⟩
          rw [half (by omega)]
          exact Ev.pos (by omega) (Ev.pos (by omega) (Ev.have hc (Ev.pos (by unfold ky at hlt; omega) r1)))
        · obtain ⟨r, r1, r2⟩ := ih ((i + j) / 2 + 1) j (by omega) (by omega) (by omega) h4 (fun q q1 q2 => by
            by_cases e : q = (i + j) / 2
            · subst e; omega
            · have := hS q ((i + j) / 2) q1 (by omega) (by omega); omega) g2
          refine ⟨r, Ev.step (fun _ => yAA.l2.eq_2 ..) (Ev.pos (by omega) (Ev.pos (by omega) (Ev.pos (by omega) ?_))), r2⟩
          rw [half (by omega)]
          rw [← wrap_succ (by omega)] at r1
          exact Ev.pos (by omega) (Ev.pos (by omega) (Ev.have hc (Ev.neg (by unfold ky at hlt; omega) r1)))
      · obtain rfl : i = j := by omega
        exact ih i i (by omega) h2 (Nat.le_refl _) h4 g1 g2
  exact key (m - a) a m (by omega) (Nat.le_refl _) (by omega) (Nat.le_refl _) (fun q q1 q2 => by omega) (fun q q1 q2 => by omega)

end Go.Proofs.Ytgapcmmhbegdeaa.MSort
end
section
/- Two sorted rows that lie side by side become one, as the library's stable sort does it. -/
namespace Go.Proofs.Ytgapcmmhbegdeaa.MMerge
open Go.RowKit Go.Proofs.Ytgapcmmhbegdeaa.G Go.Proofs.YtgapcmmhbegdeaaW.PrintWords Go.Proofs.YtgapcmmhbegdeaaW.PrintLast Go.Proofs.Ytgapcmmhbegdeaa.MPure Go.Proofs.Ytgapcmmhbegdeaa.MNote Go.Proofs.Ytgapcmmhbegdeaa.MSort

/-- What the turn leaves: both halves sorted in their two parts, nothing on the left greater than anything on the right. -/
theorem halves (x y : List NI) (a m b mid s e s0 r0 : Nat) (hmid : (a + b) / 2 = mid) (h1 : a < m) (h2 : m < b) (hS1 : Srt x a m) (hS2 : Srt x m b)
    (hcase : m ≤ mid ∧ s0 = a ∧ r0 = m ∨ mid < m ∧ s0 = mid + m - b ∧ r0 = mid) (g1 : s0 ≤ s) (g2 : s ≤ r0) (he : mid + m - s = e)
    (g3 : s0 < s → ky x (s - 1) ≤ ky x e) (g4 : s < r0 → ky x (e - 1) < ky x s)
    (y1 : y.length = x.length) (y2 : y.Perm x) (y3 : ∀ t, t < e - m → atN y (s + t) = atN x (m + t)) (y4 : ∀ t, t < m - s → atN y (mid + t) = atN x (s + t)) (y5 : ∀ t, t < s ∨ e ≤ t → atN y t = atN x t) :
    Srt y a s ∧ Srt y s mid ∧ Srt y mid e ∧ Srt y e b ∧ (∀ p q, a ≤ p → p < mid → mid ≤ q → q < b → ky y p ≤ ky y q) ∧ W x y a b := by
  have k1 : a ≤ s := by omega
  have k2 : s ≤ m := by omega
  have k3 : s ≤ mid := by omega
  have k4 : m ≤ e := by omega
  have k5 : mid ≤ e := by omega
  have k6 : e ≤ b := by omega
  have k7 : mid = s + (e - m) := by omega
  have k8 : e = mid + (m - s) := by omega
  have p1 : ∀ t, s ≤ t → t < mid → ky y t = ky x (m + (t - s)) := by
    intro t t1 t2
    have := y3 (t - s) (by omega)
    unfold ky
    rw [show s + (t - s) = t by omega] at this
    rw [this]
  have p2 : ∀ t, mid ≤ t → t < e → ky y t = ky x (s + (t - mid)) := by
    intro t t1 t2
    have := y4 (t - mid) (by omega)
    unfold ky
    rw [show mid + (t - mid) = t by omega] at this
    rw [this]
  have p3 : ∀ t, t < s ∨ e ≤ t → ky y t = ky x t := by
    intro t ht
    unfold ky
    rw [y5 t ht]
  refine ⟨?_, ?_, ?_, ?_, ?_, ?_⟩
  · intro p q z1 z2 z3
    rw [p3 p (Or.inl (by omega)), p3 q (Or.inl z3)]
    exact hS1 p q z1 z2 (by omega)
  · intro p q z1 z2 z3
    rw [p1 p z1 (by omega), p1 q (by omega) z3]
    exact hS2 _ _ (by omega) (by omega) (by omega)
  · intro p q z1 z2 z3
    rw [p2 p z1 (by omega), p2 q (by omega) z3]
    exact hS1 _ _ (by omega) (by omega) (by omega)
  · intro p q z1 z2 z3
    rw [p3 p (Or.inr z1), p3 q (Or.inr (by omega))]
    exact hS2 p q (by omega) z2 z3
  · intro p q z1 z2 z3 z4
    by_cases cp : p < s
    · rw [p3 p (Or.inl cp)]
      by_cases cq : q < e
      · rw [p2 q z3 cq]; exact hS1 _ _ z1 (by omega) (by omega)
      · rw [p3 q (Or.inr (by omega))]
        have w1 : ky x p ≤ ky x (s - 1) := by
          by_cases e0 : p = s - 1
          · rw [e0]; exact Int.le_refl _
          · exact hS1 _ _ z1 (by omega) (by omega)
        have w2 := g3 (by omega)
        have w3 : ky x e ≤ ky x q := by
          by_cases e0 : q = e
          · rw [e0]; exact Int.le_refl _
          · exact hS2 _ _ (by omega) (by omega) z4
        exact Int.le_trans w1 (Int.le_trans w2 w3)
    · rw [p1 p (by omega) z2]
      by_cases cq : q < e
      · rw [p2 q z3 cq]
        have w1 : ky x (m + (p - s)) ≤ ky x (e - 1) := by
          by_cases e0 : m + (p - s) = e - 1
          · rw [e0]; exact Int.le_refl _
          · exact hS2 _ _ (by omega) (by omega) (by omega)
        have w2 := g4 (by omega)
        have w3 : ky x s ≤ ky x (s + (q - mid)) := by
          by_cases e0 : q = mid
          · rw [e0, Nat.sub_self]; exact Int.le_refl _
          · exact hS1 _ _ (by omega) (by omega) (by omega)
        exact Int.le_trans w1 (Int.le_trans (Int.le_of_lt w2) w3)
      · rw [p3 q (Or.inr (by omega))]
        exact hS2 _ _ (by omega) (by omega) z4
  · refine ⟨y1, y2, fun t ht => y5 t (by omega), fun t t1 t2 => ?_⟩
    by_cases cp : t < s ∨ e ≤ t
    · exact ⟨t, t1, t2, y5 t cp⟩
    · by_cases cm : t < mid
      · have := y3 (t - s) (by omega)
        rw [show s + (t - s) = t by omega] at this
        exact ⟨m + (t - s), by omega, by omega, this⟩
      · have := y4 (t - mid) (by omega)
        rw [show mid + (t - mid) = t by omega] at this
        exact ⟨s + (t - mid), by omega, by omega, this⟩

def Merges (N : Nat) : Prop := ∀ a m b : Nat, b - a ≤ N → a < m → m < b → ∀ x : List NI, b ≤ x.length → KB x → Srt x a m → Srt x m b →
    ∃ r, Ev (fun k => yAA.f k x (a : Int) (m : Int) (b : Int)) r ∧ W x r a b ∧ Srt r a b
theorem right {N : Nat} (ih : Merges N) (y : List NI) (mid e b : Nat) (hN : b - mid ≤ N) (h1 : mid ≤ e) (h2 : e ≤ b) (hb : b ≤ y.length) (hk : KB y) (S3 : Srt y mid e) (S4 : Srt y e b) :
    ∃ r, Ev (fun k => if (mid : Int) < (e : Int) then (if (e : Int) < (b : Int) then ((yAA.f k y (mid : Int) (e : Int) (b : Int)).bind fun t120 => some t120) else some y) else some y) r ∧ W y r mid b ∧ Srt r mid b := by
  by_cases d1 : mid < e
  · by_cases d2 : e < b
    · obtain ⟨r, r1, r2, r3⟩ := ih mid e b hN d1 d2 y hb hk S3 S4
      exact ⟨r, Ev.pos (by omega) (Ev.pos (by omega) (Ev.bind r1 (Ev.some rfl))), r2, r3⟩
    · exact ⟨y, Ev.pos (by omega) (Ev.neg (by omega) (Ev.some rfl)), W.refl _ _ _, fun p q w1 w2 w3 => S3 p q w1 w2 (by omega)⟩
  · exact ⟨y, Ev.neg (by omega) (Ev.some rfl), W.refl _ _ _, fun p q w1 w2 w3 => S4 p q (by omega) w2 w3⟩
theorem both (x y y' r : List NI) (a mid b : Nat) (h1 : a ≤ mid) (h2 : mid ≤ b) (hWy : W x y a b) (cross : ∀ p q, a ≤ p → p < mid → mid ≤ q → q < b → ky y p ≤ ky y q) (w1 : W y y' a mid) (w2 : Srt y' a mid) (w3 : W y' r mid b) (w4 : Srt r mid b) : W x r a b ∧ Srt r a b := by
  refine ⟨hWy.trans ((w1.widen (Nat.le_refl _) h2).trans (w3.widen h1 (Nat.le_refl _))), fun p q z1 z2 z3 => ?_⟩
  by_cases cq : q < mid
  · unfold ky
    rw [w3.2.2.1 p (Or.inl (by omega)), w3.2.2.1 q (Or.inl cq)]
    exact w2 p q z1 z2 cq
  · by_cases cp : p < mid
    · obtain ⟨p', u1, u2, u3⟩ := w1.2.2.2 p z1 cp
      obtain ⟨q', v1, v2, v3⟩ := w3.2.2.2 q (by omega) z3
      unfold ky
      rw [w3.2.2.1 p (Or.inl cp), u3, v3, w1.2.2.1 q' (Or.inr v1)]
      exact cross p' q' u1 u2 v1 v2
    · exact w4 p q (by omega) z2 z3
theorem rest {N : Nat} (ih : Merges N) (x y : List NI) (a mid s e b : Nat) (hN1 : mid - a ≤ N) (hN2 : b - mid ≤ N) (k1 : a ≤ s) (k3 : s ≤ mid) (k5 : mid ≤ e) (k6 : e ≤ b) (k0 : a ≤ mid) (hb : b ≤ y.length) (hky : KB y)
    (S1 : Srt y a s) (S2 : Srt y s mid) (S3 : Srt y mid e) (S4 : Srt y e b) (cross : ∀ p q, a ≤ p → p < mid → mid ≤ q → q < b → ky y p ≤ ky y q) (hWy : W x y a b) :
    ∃ r, Ev (fun k => yAA.j7 k y (a : Int) (b : Int) (mid : Int) (s : Int) (e : Int)) r ∧ W x r a b ∧ Srt r a b := by
  by_cases d : a < s ∧ s < mid
  · obtain ⟨y', u1, u2, u3⟩ := ih a s mid hN1 d.1 d.2 y (by omega) hky S1 S2
    obtain ⟨r, v1, v2, v3⟩ := right ih y' mid e b hN2 k5 k6 (by rw [u2.1]; exact hb) (hky.perm u2.2.1) (S3.same (fun i i1 i2 => u2.2.2.1 i (Or.inr i1))) (S4.same (fun i i1 i2 => u2.2.2.1 i (Or.inr (by omega))))
    exact ⟨r, Ev.step (fun _ => yAA.j7.eq_2 ..) (Ev.pos (by omega) (Ev.step (fun _ => yAA.j8.eq_2 ..) (Ev.pos (decide_eq_true (by omega)) (Ev.bind u1 v1)))), both x y y' r a mid b k0 (by omega) hWy cross u2 u3 v2 v3⟩
  · have hS : Srt y a mid := fun p q z1 z2 z3 => by
      by_cases e0 : s = a
      · exact S2 p q (by omega) z2 z3
      · exact S1 p q z1 z2 (by omega)
    obtain ⟨r, v1, v2, v3⟩ := right ih y mid e b hN2 k5 k6 hb hky S3 S4
    refine ⟨r, Ev.step (fun _ => yAA.j7.eq_2 ..) (Ev.ite (fun d1 => ?_) (fun d1 => ?_)), both x y y r a mid b k0 (by omega) hWy cross (W.refl _ _ _) hS v2 v3⟩
    · refine Ev.step (fun _ => yAA.j8.eq_2 ..) (Ev.neg ?_ v1)
      simp only [decide_eq_true_eq]
      omega
    · exact Ev.step (fun _ => yAA.j8.eq_2 ..) (Ev.neg (by simp) v1)
theorem fin {N : Nat} (ih : Merges N) (x : List NI) (a m b mid s0 r0 s e : Nat) (hN1 : mid - a ≤ N) (hN2 : b - mid ≤ N) (hmid : (a + b) / 2 = mid) (h1 : a < m) (h2 : m < b) (hb : b ≤ x.length) (hk : KB x) (hS1 : Srt x a m) (hS2 : Srt x m b)
    (hcase : m ≤ mid ∧ s0 = a ∧ r0 = m ∨ mid < m ∧ s0 = mid + m - b ∧ r0 = mid) (g1 : s0 ≤ s) (g2 : s ≤ r0) (he0 : s + e = mid + m) (g3 : ∀ c p, c + p + 1 = mid + m → s0 ≤ c → c < s → ky x c ≤ ky x p) (g4 : ∀ c p, c + p + 1 = mid + m → s ≤ c → c < r0 → ky x p < ky x c) (q : Bool) (hq : q = true ↔ s < m ∧ m < e) :
    ∃ r, Ev (fun k => yAA.j6 k x (a : Int) (m : Int) (b : Int) (mid : Int) (s : Int) (e : Int) q) r ∧ W x r a b ∧ Srt r a b := by
  have he : mid + m - s = e := by omega
  have k1 : a ≤ s := by omega
  have k2 : s ≤ m := by omega
  have k3 : s ≤ mid := by omega
  have k4 : m ≤ e := by omega
  have k5 : mid ≤ e := by omega
  have k6 : e ≤ b := by omega
  have k0 : a ≤ mid := by omega
  have f3 : s0 < s → ky x (s - 1) ≤ ky x e := fun h => g3 (s - 1) e (by omega) (by omega) (by omega)
  have f4 : s < r0 → ky x (e - 1) < ky x s := fun h => g4 s (e - 1) (by omega) (Nat.le_refl _) h
  have go : ∀ y : List NI, y.length = x.length → y.Perm x → (∀ t, t < e - m → atN y (s + t) = atN x (m + t)) → (∀ t, t < m - s → atN y (mid + t) = atN x (s + t)) → (∀ t, t < s ∨ e ≤ t → atN y t = atN x t) →
      ∃ r, Ev (fun k => yAA.j7 k y (a : Int) (b : Int) (mid : Int) (s : Int) (e : Int)) r ∧ W x r a b ∧ Srt r a b := by
    intro y y1 y2 y3 y4 y5
    obtain ⟨w1, w2, w3, w4, w5, w6⟩ := halves x y a m b mid s e s0 r0 hmid h1 h2 hS1 hS2 hcase g1 g2 he f3 f4 y1 y2 y3 y4 y5
    exact rest ih x y a mid s e b hN1 hN2 k1 k3 k5 k6 k0 (by rw [y1]; exact hb) (hk.perm y2) w1 w2 w3 w4 w5 w6
  clear hcase
  cases q with
  | true =>
    obtain ⟨d1, d2⟩ := hq.1 rfl
    obtain ⟨y, u1, u2, u3, u4, u5, u6⟩ := rotate x s m e d1 d2 (by omega) hk.2
    rw [show s + (e - m) = mid by omega] at u5
    obtain ⟨r, v1, v2⟩ := go y u2 u3 u4 u5 u6
    exact ⟨r, Ev.step (fun _ => yAA.j6.eq_2 ..) (Ev.pos rfl (Ev.bind u1 v1)), v2⟩
  | false =>
    have d : ¬ (s < m ∧ m < e) := fun h => by have := hq.2 h; cases this
    obtain ⟨r, v1, v2⟩ := go x rfl (List.Perm.refl _) (fun t ht => by rw [show s = m by omega]) (fun t ht => by rw [show s = mid by omega]) (fun t _ => rfl)
    exact ⟨r, Ev.step (fun _ => yAA.j6.eq_2 ..) (Ev.neg (by simp) v1), v2⟩
theorem search {N : Nat} (ih : Merges N) (x : List NI) (a m b mid s0 r0 pp : Nat) (hpp : pp + 1 = mid + m) (hN1 : mid - a ≤ N) (hN2 : b - mid ≤ N) (hmid : (a + b) / 2 = mid) (h1 : a < m) (h2 : m < b) (hb : b ≤ x.length) (hk : KB x) (hS1 : Srt x a m) (hS2 : Srt x m b)
    (hcase : m ≤ mid ∧ s0 = a ∧ r0 = m ∨ mid < m ∧ s0 = mid + m - b ∧ r0 = mid) : ∀ M st rr : Nat, rr - st ≤ M → s0 ≤ st → st ≤ rr → rr ≤ r0 → (∀ c p, c + p + 1 = mid + m → s0 ≤ c → c < st → ky x c ≤ ky x p) → (∀ c p, c + p + 1 = mid + m → rr ≤ c → c < r0 → ky x p < ky x c) →
    ∃ r, Ev (fun k => yAA.l4 k x (a : Int) (m : Int) (b : Int) (mid : Int) ((mid + m : Nat) : Int) (st : Int) (rr : Int) (pp : Int)) r ∧ W x r a b ∧ Srt r a b := by
  have hl := hk.2
  have hbig : mid + m ≤ 8796093022208 := by omega
  have q1 : a ≤ s0 := by omega
  have q2 : r0 ≤ m := by omega
  have q3 : r0 ≤ mid := by omega
  have q4 : mid + m ≤ s0 + b := by omega
  have fin' := fun s e => fin ih x a m b mid s0 r0 s e hN1 hN2 hmid h1 h2 hb hk hS1 hS2 hcase
  clear hcase hmid hN1 hN2 ih
  intro M
  induction M with
  | zero =>
    intro st rr z1 z2 z3 z4 z5 z6
    obtain rfl : st = rr := by omega
    obtain ⟨e, he⟩ : ∃ e, st + e = mid + m := ⟨mid + m - st, by omega⟩
    have ew : Aside0 (wrap64 (((mid + m : Nat) : Int) - (st : Int)) = (e : Int)) := ⟨by rw [wrap_sub (by omega) (by omega)]; omega⟩
    by_cases d : st < m
    · obtain ⟨r, v1, v2⟩ := fin' st e z2 z4 he z5 z6 (decide ((m : Int) < (e : Int))) (by
        rw [decide_eq_true_eq]
        exact ⟨fun h => ⟨d, by omega⟩, fun h => by omega⟩)
      rw [← ew.out] at v1
      exact ⟨r, Ev.step (fun _ => yAA.l4.eq_2 ..) (Ev.neg (by omega) (Ev.pos (by omega) v1)), v2⟩
    · obtain ⟨r, v1, v2⟩ := fin' st e z2 z4 he z5 z6 false (Iff.intro (fun h => by cases h) (fun h => absurd h.1 d))
      rw [← ew.out] at v1
      exact ⟨r, Ev.step (fun _ => yAA.l4.eq_2 ..) (Ev.neg (by omega) (Ev.neg (by omega) v1)), v2⟩
  | succ M ihM =>
    intro st rr z1 z2 z3 z4 z5 z6
    by_cases hij : st < rr
    · obtain ⟨c, hc0⟩ : ∃ z, (st + rr) / 2 = z := ⟨_, rfl⟩
      have b1 : st ≤ c := by omega
      have b2 : c < rr := by omega
      have hh : Aside0 (wrap64 ((IntKind.u64.wrap (wrap64 ((st : Int) + (rr : Int)))) / 2) = (c : Int)) := ⟨by rw [half (by omega), hc0]⟩
      have g1 : c - st ≤ M := by omega
      have g2 : rr - (c + 1) ≤ M := by omega
      clear hc0 z1
      obtain ⟨p, hp⟩ : ∃ p, c + p + 1 = mid + m := ⟨mid + m - 1 - c, by omega⟩
      have hpc : Aside0 (wrap64 ((pp : Int) - (c : Int)) = (p : Int)) := ⟨by rw [wrap_sub (by omega) (by omega)]; omega⟩
      have c1 : p < x.length := by omega
      have c2 : c < x.length := by omega
      have hc := cmp_ (atN x p) (atN x c) (hk.at c1) (hk.at c2)
      have b3 : a ≤ c := by omega
      have b4 : c < m := by omega
      have b5 : m ≤ p := by omega
      have b6 : p < b := by omega
      by_cases hlt : ky x p < ky x c
      · obtain ⟨r, v1, v2⟩ := ihM st c g1 z2 b1 (by omega) z5 (fun c' p' q0 q1 q2 => by
          by_cases e0 : c' = c
          · obtain rfl : p' = p := by omega
            rw [e0]; exact hlt
          · have w1 := hS1 c c' b3 (by omega) (by omega)
            have w2 := hS2 p' p (by omega) (by omega) b6
            exact Int.lt_of_le_of_lt w2 (Int.lt_of_lt_of_le hlt w1))
        have hlt2 : (atN x p).f0 - (atN x c).f0 < 0 := by unfold ky at hlt; omega
        refine ⟨r, Ev.step (fun _ => yAA.l4.eq_2 ..) (Ev.pos (by omega) ?_), v2⟩
        rw [hh.out, hpc.out]
        exact Ev.pos (by omega) (Ev.pos (by omega) (Ev.pos (by omega) (Ev.pos (by omega) (Ev.have hc (Ev.pos hlt2 v1)))))
      · obtain ⟨r, v1, v2⟩ := ihM (c + 1) rr g2 (by omega) b2 z4 (fun c' p' q0 q1 q2 => by
          by_cases e0 : c' = c
          · obtain rfl : p' = p := by omega
            rw [e0]; exact Int.not_lt.1 hlt
          · have w1 := hS1 c' c (by omega) (by omega) b4
            have w2 := hS2 p p' b5 (by omega) (by omega)
            exact Int.le_trans w1 (Int.le_trans (Int.not_lt.1 hlt) w2)) z6
        have hlt2 : ¬ (atN x p).f0 - (atN x c).f0 < 0 := by unfold ky at hlt; omega
        refine ⟨r, Ev.step (fun _ => yAA.l4.eq_2 ..) (Ev.pos (by omega) ?_), v2⟩
        rw [← wrap_succ (by omega)] at v1
        rw [hh.out, hpc.out]
        exact Ev.pos (by omega) (Ev.pos (by omega) (Ev.pos (by omega) (Ev.pos (by omega) (Ev.have hc (Ev.neg hlt2 v1)))))
    · obtain rfl : st = rr := by omega
      exact ihM st st (by omega) z2 (Nat.le_refl _) z4 z5 z6
theorem merge : ∀ N : Nat, Merges N := by
  intro N
  induction N with
  | zero => intro a m b h h1 h2; omega
  | succ N ih =>
    intro a m b hN h1 h2 x hb hk hS1 hS2
    have hl := hk.2
    have e1 : Aside0 (wrap64 ((m : Int) - (a : Int)) = ((m - a : Nat) : Int)) := ⟨wrap_sub (by omega) (by omega)⟩
    have e2 : Aside0 (wrap64 ((b : Int) - (m : Int)) = ((b - m : Nat) : Int)) := ⟨wrap_sub (by omega) (by omega)⟩
    by_cases c1 : m - a = 1
    · obtain rfl : m = a + 1 := by omega
      obtain ⟨r, r1, r2⟩ := first x a b h2 hb hk hS2
      refine ⟨r, Ev.step (fun _ => yAA.f.eq_2 ..) (Ev.pos ?_ r1), r2⟩
      rw [e1.out]; omega
    by_cases c2 : b - m = 1
    · obtain rfl : b = m + 1 := by omega
      obtain ⟨r, r1, r2⟩ := last x a m h1 hb hk hS1
      refine ⟨r, Ev.step (fun _ => yAA.f.eq_2 ..) (Ev.neg ?_ (Ev.pos ?_ r1)), r2⟩
      · rw [e1.out]; omega
      · rw [e2.out]; omega
    obtain ⟨mid, hmid⟩ : ∃ z, (a + b) / 2 = z := ⟨_, rfl⟩
    have hm1 : a + 2 ≤ m := by omega
    have hm2 : m + 2 ≤ b := by omega
    have n1 : mid - a ≤ N := by omega
    have n2 : b - mid ≤ N := by omega
    have d1 : Aside0 (¬ wrap64 ((m : Int) - (a : Int)) = 1) := ⟨by rw [e1.out]; omega⟩
    have d2 : Aside0 (¬ wrap64 ((b : Int) - (m : Int)) = 1) := ⟨by rw [e2.out]; omega⟩
    obtain ⟨pp, hpp⟩ : ∃ p, p + 1 = mid + m := ⟨mid + m - 1, by omega⟩
    have hmw : Aside0 (wrap64 ((IntKind.u64.wrap (wrap64 ((a : Int) + (b : Int)))) / 2) = (mid : Int)) := ⟨by rw [half (by omega), hmid]⟩
    have hn : Aside0 (wrap64 ((mid : Int) + (m : Int)) = ((mid + m : Nat) : Int)) := ⟨wrap_add (by omega)⟩
    have hp : Aside0 (wrap64 (((mid + m : Nat) : Int) - 1) = (pp : Int)) := ⟨by rw [wrap_pred (by omega) (by omega)]; omega⟩
    by_cases d : mid < m
    · have hnb : Aside0 (wrap64 (((mid + m : Nat) : Int) - (b : Int)) = ((mid + m - b : Nat) : Int)) := ⟨wrap_sub (by omega) (by omega)⟩
      obtain ⟨r, v1, v2⟩ := search ih x a m b mid (mid + m - b) mid pp hpp n1 n2 hmid h1 h2 hb hk hS1 hS2 (Or.inr ⟨d, rfl, rfl⟩) (mid - (mid + m - b)) (mid + m - b) mid (Nat.le_refl _) (Nat.le_refl _) (by omega) (Nat.le_refl _) (fun c p _ q1 q2 => absurd q1 (by omega)) (fun c p _ q1 q2 => absurd q1 (by omega))
      refine ⟨r, Ev.step (fun _ => yAA.f.eq_2 ..) (Ev.neg d1.out (Ev.neg d2.out ?_)), v2⟩
      rw [hmw.out, hn.out, hnb.out]
      refine Ev.pos (by omega) (Ev.step (fun _ => yAA.j4.eq_2 ..) ?_)
      rw [hp.out]
      exact v1
    · obtain ⟨r, v1, v2⟩ := search ih x a m b mid a m pp hpp n1 n2 hmid h1 h2 hb hk hS1 hS2 (Or.inl ⟨by omega, rfl, rfl⟩) (m - a) a m (Nat.le_refl _) (Nat.le_refl _) (by omega) (Nat.le_refl _) (fun c p _ q1 q2 => absurd q1 (by omega)) (fun c p _ q1 q2 => absurd q1 (by omega))
      refine ⟨r, Ev.step (fun _ => yAA.f.eq_2 ..) (Ev.neg d1.out (Ev.neg d2.out ?_)), v2⟩
      rw [hmw.out, hn.out]
      refine Ev.neg (by omega) (Ev.step (fun _ => yAA.j4.eq_2 ..) ?_)
      rw [hp.out]
      exact v1

/-! ### the whole sort -/
/-- From a on, rows of s elements each are sorted. -/
inductive Bl (x : List NI) (s n : Nat) : Nat → Prop
  | done {a : Nat} (h : n ≤ a) : Bl x s n a
  | step {a : Nat} (h : Srt x a (min (a + s) n)) (k : Bl x s n (a + s)) : Bl x s n a
/-- Up to a they are. -/
inductive Pr (x : List NI) (s : Nat) : Nat → Prop
  | zero : Pr x s 0
  | step {a : Nat} (k : Pr x s a) (h : Srt x a (a + s)) : Pr x s (a + s)
theorem Bl.same {x y : List NI} {s n a : Nat} (h : Bl x s n a) : (∀ t, a ≤ t → atN y t = atN x t) → Bl y s n a := by
  induction h with
  | done h => exact fun _ => .done h
  | step h _ ih => exact fun e => .step (h.same (fun i h1 _ => e i h1)) (ih (fun t ht => e t (by omega)))
theorem Pr.same {x y : List NI} {s a : Nat} (h : Pr x s a) : (∀ t, t < a → atN y t = atN x t) → Pr y s a := by
  induction h with
  | zero => exact fun _ => .zero
  | step _ h ih => exact fun e => .step (ih (fun t ht => e t (by omega))) (h.same (fun i _ h2 => e i h2))
theorem Pr.join {x : List NI} {s n a : Nat} (h : Pr x s a) : a ≤ n → Bl x s n a → Bl x s n 0 := by
  induction h with
  | zero => exact fun _ b => b
  | step _ h ih => exact fun ha b => ih (by omega) (.step (by rw [Nat.min_eq_left ha]; exact h) b)
theorem Bl.open {x : List NI} {s n a : Nat} (h : Bl x s n a) (ha : a < n) : Srt x a (min (a + s) n) ∧ Bl x s n (a + s) := by
  cases h with
  | done h => omega
  | step h k => exact ⟨h, k⟩
theorem doubled (n s : Nat) (hs : 20 ≤ s) (hsn : s < n) (hn : n ≤ 4398046511104) (ih : ∀ x : List NI, x.length = n → KB x → Bl x (2 * s) n 0 → ∃ r, Ev (fun k => yAH.l1 k x (n : Int) ((2 * s : Nat) : Int)) r ∧ r.Perm x ∧ Srt r 0 n) :
    ∀ d a : Nat, n - a ≤ d → a ≤ n → ∀ x : List NI, x.length = n → KB x → Pr x (2 * s) a → Bl x s n a → ∃ r, Ev (fun k => yAH.l2 k x (n : Int) (s : Int) (a : Int) ((a + 2 * s : Nat) : Int)) r ∧ r.Perm x ∧ Srt r 0 n := by
  have w1 : Aside0 (wrap64 (2 * (s : Int)) = ((2 * s : Nat) : Int)) := ⟨by rw [wrap_in (by omega) (by omega)]; omega⟩
  have w1' : Aside0 (wrap64 ((s : Int) * 2) = ((2 * s : Nat) : Int)) := ⟨by rw [wrap_in (by omega) (by omega)]; omega⟩
  intro d
  induction d with
  | zero =>
    intro a h1 h2 x hx hk hp hb
    obtain rfl : a = n := by omega
    obtain ⟨r, r1, r2, r3⟩ := ih x hx hk (hp.join (Nat.le_refl _) (.done (Nat.le_refl _)))
    have w2 : Aside0 (wrap64 ((a : Int) + (s : Int)) = ((a + s : Nat) : Int)) := ⟨wrap_add (by omega)⟩
    refine ⟨r, Ev.step (fun _ => yAH.l2.eq_2 ..) (Ev.neg (by omega) (Ev.neg ?_ ?_)), r2, r3⟩
    · rw [w2.out]; omega
    · rw [w1'.out]; exact r1
  | succ d ihd =>
    intro a h1 h2 x hx hk hp hb
    have w2 : Aside0 (wrap64 ((a : Int) + (s : Int)) = ((a + s : Nat) : Int)) := ⟨wrap_add (by omega)⟩
    have w3 : Aside0 (wrap64 (((a + 2 * s : Nat) : Int) + ((2 * s : Nat) : Int)) = ((a + 2 * s + 2 * s : Nat) : Int)) := ⟨wrap_add (by omega)⟩
    by_cases c1 : a + 2 * s ≤ n
    · obtain ⟨s1, b1⟩ := hb.open (by omega)
      obtain ⟨s2, b2⟩ := b1.open (by omega)
      rw [Nat.min_eq_left (by omega)] at s1 s2
      obtain ⟨y, y1, y2, y3⟩ := merge _ a (a + s) (a + 2 * s) (Nat.le_refl _) (by omega) (by omega) x (by omega) hk s1 (s2.sub (Nat.le_refl _) (by omega))
      obtain ⟨r, r1, r2, r3⟩ := ihd (a + 2 * s) (by omega) c1 y (y2.1.trans hx) (hk.perm y2.2.1) (.step (hp.same (fun t ht => y2.2.2.1 t (Or.inl ht))) y3) (by
        rw [show a + s + s = a + 2 * s by omega] at b2
        exact b2.same (fun t ht => y2.2.2.1 t (Or.inr ht)))
      refine ⟨r, Ev.step (fun _ => yAH.l2.eq_2 ..) (Ev.pos (by omega) ?_), r2.trans y2.2.1, r3⟩
      rw [w2.out, w1.out, w3.out]
      exact Ev.bind y1 r1
    · by_cases c2 : a + s < n
      · obtain ⟨s1, b1⟩ := hb.open (by omega)
        obtain ⟨s2, b2⟩ := b1.open c2
        rw [Nat.min_eq_left (by omega)] at s1
        rw [Nat.min_eq_right (by omega)] at s2
        obtain ⟨y, y1, y2, y3⟩ := merge _ a (a + s) n (Nat.le_refl _) (by omega) c2 x (by omega) hk s1 s2
        obtain ⟨r, r1, r2, r3⟩ := ih y (y2.1.trans hx) (hk.perm y2.2.1) ((hp.same (fun t ht => y2.2.2.1 t (Or.inl ht))).join h2 (.step (by rw [Nat.min_eq_right (by omega)]; exact y3) (.done (by omega))))
        refine ⟨r, Ev.step (fun _ => yAH.l2.eq_2 ..) (Ev.neg (by omega) ?_), r2.trans y2.2.1, r3⟩
        rw [w2.out, w1'.out]
        exact Ev.pos (by omega) (Ev.bind y1 r1)
      · obtain ⟨r, r1, r2, r3⟩ := ih x hx hk (hp.join h2 (by
          rcases Nat.lt_or_ge a n with h | h
          · have s1 := (hb.open h).1
            rw [Nat.min_eq_right (by omega)] at s1
            exact .step (by rw [Nat.min_eq_right (by omega)]; exact s1) (.done (by omega))
          · exact .done h))
        refine ⟨r, Ev.step (fun _ => yAH.l2.eq_2 ..) (Ev.neg (by omega) ?_), r2, r3⟩
        rw [w2.out, w1'.out]
        exact Ev.neg (by omega) r1
theorem merged (n : Nat) (hn : n ≤ 4398046511104) : ∀ N s : Nat, n - s ≤ N → 20 ≤ s → ∀ x : List NI, x.length = n → KB x → Bl x s n 0 → ∃ r, Ev (fun k => yAH.l1 k x (n : Int) (s : Int)) r ∧ r.Perm x ∧ Srt r 0 n := by
  intro N
  induction N with
  | zero =>
    intro s h1 h2 x hx hk hb
    refine ⟨x, Ev.step (fun _ => yAH.l1.eq_2 ..) (Ev.neg (by omega) (Ev.some rfl)), List.Perm.refl _, ?_⟩
    rcases Nat.eq_zero_or_pos n with h | h
    · exact fun p q _ _ h3 => by omega
    · have s1 := (hb.open h).1
      rw [Nat.min_eq_right (by omega)] at s1
      exact s1
  | succ N ih =>
    intro s h1 h2 x hx hk hb
    by_cases c : s < n
    · obtain ⟨r, r1, r2⟩ := doubled n s h2 c hn (fun x' hx' hk' hb' => ih (2 * s) (by omega) (by omega) x' hx' hk' hb') n 0 (by omega) (Nat.zero_le _) x hx hk .zero hb
      refine ⟨r, Ev.step (fun _ => yAH.l1.eq_2 ..) (Ev.pos (by omega) ?_), r2⟩
      have w1 : wrap64 (2 * (s : Int)) = ((2 * s : Nat) : Int) := by rw [wrap_in (by omega) (by omega)]; omega
      rw [w1]
      rw [Nat.zero_add] at r1
      exact r1
    · exact ih s (by omega) h2 x hx hk hb
theorem blocks (n : Nat) (hn : n ≤ 4398046511104) : ∀ d a : Nat, n - a ≤ d → a ≤ n → ∀ x : List NI, x.length = n → KB x → Pr x 20 a → ∃ r, Ev (fun k => yAH.l0 k x (n : Int) 20 (a : Int) ((a + 20 : Nat) : Int)) r ∧ r.Perm x ∧ Srt r 0 n := by
  intro d
  induction d with
  | zero =>
    intro a h1 h2 x hx hk hp
    obtain rfl : a = n := by omega
    obtain ⟨y, y1, y2, y3⟩ := insertion x a a (Nat.le_refl _) (by omega) hk
    obtain ⟨r, r1, r2, r3⟩ := merged a hn _ 20 (Nat.le_refl _) (Nat.le_refl _) y (y2.1.trans hx) (hk.perm y2.2.1) ((hp.same (fun t ht => y2.2.2.1 t (Or.inl ht))).join (Nat.le_refl _) (.done (Nat.le_refl _)))
    exact ⟨r, Ev.step (fun _ => yAH.l0.eq_2 ..) (Ev.neg (by omega) (Ev.bind y1 r1)), r2.trans y2.2.1, r3⟩
  | succ d ih =>
    intro a h1 h2 x hx hk hp
    by_cases c : a + 20 ≤ n
    · obtain ⟨y, y1, y2, y3⟩ := insertion x a (a + 20) (by omega) (by omega) hk
      obtain ⟨r, r1, r2, r3⟩ := ih (a + 20) (by omega) c y (y2.1.trans hx) (hk.perm y2.2.1) (.step (hp.same (fun t ht => y2.2.2.1 t (Or.inl ht))) y3)
      refine ⟨r, Ev.step (fun _ => yAH.l0.eq_2 ..) (Ev.pos (by omega) (Ev.bind y1 ?_)), r2.trans y2.2.1, r3⟩
      have w : wrap64 (((a + 20 : Nat) : Int) + 20) = ((a + 20 + 20 : Nat) : Int) := wrap_add (a := a + 20) (b := 20) (by omega)
      rw [w]
      exact r1
    · obtain ⟨y, y1, y2, y3⟩ := insertion x a n h2 (by omega) hk
      obtain ⟨r, r1, r2, r3⟩ := merged n hn _ 20 (Nat.le_refl _) (Nat.le_refl _) y (y2.1.trans hx) (hk.perm y2.2.1) ((hp.same (fun t ht => y2.2.2.1 t (Or.inl ht))).join h2 (by
        rcases Nat.lt_or_ge a n with h | h
        · exact .step (by rw [Nat.min_eq_right (by omega)]; exact y3) (.done (by omega))
        · exact .done h))
      exact ⟨r, Ev.step (fun _ => yAH.l0.eq_2 ..) (Ev.neg (by omega) (Ev.bind y1 r1)), r2.trans y2.2.1, r3⟩
/-- The stable sort: the same elements, in order. -/
theorem stable (x : List NI) (hk : KB x) : ∃ r, Ev (fun k => yA0.f k x) r ∧ r.Perm x ∧ Srt r 0 r.length := by
  obtain ⟨r, r1, r2, r3⟩ := blocks x.length hk.2 x.length 0 (by omega) (Nat.zero_le _) x rfl hk .zero
  rw [← r2.length_eq] at r3
  exact ⟨r, Ev.bind r1 (Ev.some rfl), r2, r3⟩
end Go.Proofs.Ytgapcmmhbegdeaa.MMerge
end
section
/- What the program's sort of a tier comes to: of two orderings of the same notes by their begins at most one is a tier. -/
namespace Go.Proofs.Ytgapcmmhbegdeaa.MTier
open Go.RowKit Go.Proofs.Ytgapcmmhbegdeaa.G Go.Proofs.YtgapcmmhbegdeaaW.PrintWords Go.Proofs.YtgapcmmhbegdeaaW.PrintLast Go.Proofs.Ytgapcmmhbegdeaa.MPure Go.Proofs.Ytgapcmmhbegdeaa.MWord Go.Proofs.Ytgapcmmhbegdeaa.MNote Go.Proofs.Ytgapcmmhbegdeaa.MSort Go.Proofs.Ytgapcmmhbegdeaa.MMerge

theorem tier_at {l : List NI} (h : tierB l = true) {i : Nat} (hi : i < l.length) : noteB (atN l i).f0 (atN l i).f1 (atN l i).f2 = true ∧ (i = 0 ∨ (atN l (i - 1)).f1 ≤ (atN l i).f0) := by
  unfold tierB at h
  simp only [Bool.and_eq_true, List.all_eq_true, List.mem_range] at h
  have := h.1 i hi
  unfold tierP at this
  simp only [Bool.and_eq_true, Bool.or_eq_true, decide_eq_true_eq] at this
  exact this
theorem note_in {f t : Int} {g : ByteArray} (h : noteB f t g = true) : 0 ≤ f ∧ f < t ∧ t ≤ 99999 := by
  unfold noteB frameB at h
  simp only [Bool.and_eq_true, decide_eq_true_eq] at h
  omega
theorem tier_KB {l : List NI} (h : tierB l = true) : KB l := by
  refine ⟨fun x hx => ?_, ?_⟩
  · obtain ⟨i, hi, rfl⟩ := List.mem_iff_getElem.1 hx
    have := note_in (tier_at h hi).1
    rw [atN_get hi] at this
    omega
  · unfold tierB at h
    simp only [Bool.and_eq_true, decide_eq_true_eq] at h
    omega
/-- A tier's notes begin one behind the other. -/
theorem tier_lt {l : List NI} (h : tierB l = true) : ∀ d i j : Nat, j = i + d + 1 → j < l.length → ky l i < ky l j := by
  intro d
  induction d with
  | zero =>
    intro i j hj hl
    have h1 := tier_at h hl
    have h2 := note_in (tier_at h (show i < l.length by omega)).1
    have e : j - 1 = i := by omega
    rw [e] at h1
    unfold ky
    have := h1.2
    omega
  | succ d ih =>
    intro i j hj hl
    have h0 := ih i (j - 1) (by omega) (by omega)
    have h1 := tier_at h hl
    have h2 := note_in (tier_at h (show j - 1 < l.length by omega)).1
    unfold ky at h0 ⊢
    have := h1.2
    omega
theorem tier_srt {l : List NI} (h : tierB l = true) : Srt l 0 l.length := fun p q _ h2 h3 => Int.le_of_lt (tier_lt h (q - p - 1) p q (by omega) h3)
theorem srt_pairwise {l : List NI} (h : Srt l 0 l.length) : l.Pairwise (fun a b => a.f0 ≤ b.f0) := by
  rw [List.pairwise_iff_getElem]
  intro i j hi hj hij
  have := h i j (Nat.zero_le _) hij hj
  unfold ky at this
  rwa [atN_get hi, atN_get hj] at this
theorem one_order {r p : List NI} (hp : r.Perm p) (hr : Srt r 0 r.length) (hs : Srt p 0 p.length) (h : tierB p = true) : r = p := by
  refine List.Perm.eq_of_pairwise (le := fun a b => a.f0 ≤ b.f0) (fun a b ha hb h1 h2 => ?_) (srt_pairwise hr) (srt_pairwise hs) hp
  obtain ⟨i, hi, rfl⟩ := List.mem_iff_getElem.1 (hp.mem_iff.1 ha)
  obtain ⟨j, hj, rfl⟩ := List.mem_iff_getElem.1 hb
  rcases Nat.lt_trichotomy i j with c | c | c
  · have := tier_lt h (j - i - 1) i j (by omega) hj
    unfold ky at this
    rw [atN_get hi, atN_get hj] at this
    omega
  · subst c; rfl
  · have := tier_lt h (i - j - 1) j i (by omega) hi
    unfold ky at this
    rw [atN_get hi, atN_get hj] at this
    omega
theorem both_or_none {r p : List NI} (hp : r.Perm p) (hr : Srt r 0 r.length) (hs : Srt p 0 p.length) : tierB r = tierB p := by
  cases h : tierB p with
  | true => rw [one_order hp hr hs h]; exact h
  | false =>
    cases h2 : tierB r with
    | false => rfl
    | true =>
      rw [one_order hp.symm hs hr h2] at h
      rw [h] at h2
      exact h2.symm
theorem sized_perm {r p : List NI} (h : Sized p) (hp : r.Perm p) : Sized r := ⟨by rw [hp.length_eq]; exact h.1, fun x hx => h.2 x (hp.mem_iff.1 hx)⟩
def tierOr (p : List NI) : List NI × Bool := if tierB p = true then (p, true) else ([], false)
/-- The program's sort, and whether it is a tier: p is any ordering by the begins. -/
theorem sortedTier_ (x p : List NI) (hk : KB x) (hz : Sized x) (hp : p.Perm x) (hS : Srt p 0 p.length) : Ev (fun k => yBD.f k x) (tierOr p) := by
  obtain ⟨r, r1, r2, r3⟩ := stable x hk
  have hpr : r.Perm p := r2.trans hp.symm
  have ht := IsTier_ r (sized_perm hz r2)
  have hb := both_or_none hpr r3 hS
  unfold yBD.f tierOr
  refine Ev.bind r1 (Ev.bind ht (Ev.ite (fun h => Ev.some ?_) (fun h => Ev.some ?_)))
  · rw [hb] at h
    rw [if_pos h, one_order hpr r3 hS h]
  · rw [hb] at h
    rw [if_neg h]
theorem tiIf_ (l : List NI) (hl : Sized l) : Ev (fun k => yBT.f k l) (tierOr l) := by
  unfold yBT.f tierOr
  exact Ev.bind (tiGood_ l hl) (Ev.ite (fun h => Ev.some (by rw [if_pos h])) (fun h => Ev.some (by rw [if_neg h])))
/-- The reference's place for a note. -/
def place (n : Int) : List NI → Nat
  | [] => 0
  | x :: l => if x.f0 < n then place n l + 1 else 0
def put (l : List NI) (n : NI) : List NI := l.take (place n.f0 l) ++ [n] ++ l.drop (place n.f0 l)
theorem place_le (n : Int) : ∀ l : List NI, place n l ≤ l.length
  | [] => Nat.le_refl _
  | x :: l => by
    have := place_le n l
    simp only [place, List.length_cons]
    split <;> omega
theorem place_low (n : Int) : ∀ (l : List NI) (i : Nat), i < place n l → ky l i < n
  | [], i, h => by simp [place] at h
  | x :: l, i, h => by
    simp only [place] at h
    by_cases c : x.f0 < n
    · rw [if_pos c] at h
      cases i with
      | zero => exact c
      | succ i => exact place_low n l i (by omega)
    · rw [if_neg c] at h; omega
theorem place_high (n : Int) : ∀ (l : List NI), place n l < l.length → n ≤ ky l (place n l)
  | [], h => by simp at h
  | x :: l, h => by
    simp only [place] at h ⊢
    by_cases c : x.f0 < n
    · rw [if_pos c] at h ⊢
      exact place_high n l (by simpa using h)
    · rw [if_neg c]
      show n ≤ x.f0
      omega
theorem put_perm (l : List NI) (n : NI) : (put l n).Perm (l ++ [n]) := by
  unfold put
  have h : (l.take (place n.f0 l) ++ [n] ++ l.drop (place n.f0 l)).Perm (l.take (place n.f0 l) ++ l.drop (place n.f0 l) ++ [n]) := by
    rw [List.append_assoc, List.append_assoc]
    exact List.Perm.append_left _ List.perm_append_comm
  rw [List.take_append_drop] at h
  exact h
theorem put_length (l : List NI) (n : NI) : (put l n).length = l.length + 1 := by rw [(put_perm l n).length_eq]; simp
theorem put_at (l : List NI) (n : NI) (i : Nat) (_h : i < l.length + 1) : atN (put l n) i = if i < place n.f0 l then atN l i else if i = place n.f0 l then n else atN l (i - 1) := by
  have hp := place_le n.f0 l
  unfold atN put
  rw [List.getD_eq_getElem?_getD]
  have ht : (l.take (place n.f0 l)).length = place n.f0 l := by rw [List.length_take]; omega
  by_cases c : i < place n.f0 l
  · rw [if_pos c, List.append_assoc, List.getElem?_append_left (by omega), List.getElem?_take, if_pos c, ← List.getD_eq_getElem?_getD]
  · rw [if_neg c, List.append_assoc, List.getElem?_append_right (by omega), ht]
    by_cases c2 : i = place n.f0 l
    · rw [if_pos c2, c2, Nat.sub_self]
      rfl
    · rw [if_neg c2, show i - place n.f0 l = (i - place n.f0 l - 1) + 1 by omega]
      show ((l.drop (place n.f0 l))[i - place n.f0 l - 1]?).getD _ = _
      rw [List.getElem?_drop, List.getD_eq_getElem?_getD, show place n.f0 l + (i - place n.f0 l - 1) = i - 1 by omega]
theorem put_srt (l : List NI) (n : NI) (hl : Srt l 0 l.length) : Srt (put l n) 0 (put l n).length := by
  intro p q _ h2 h3
  rw [put_length] at h3
  have hp := place_le n.f0 l
  unfold ky
  rw [put_at l n p (by omega), put_at l n q h3]
  have high : ∀ i, place n.f0 l ≤ i → i < l.length → n.f0 ≤ ky l i := by
    intro i h1 h2
    have h0 := place_high n.f0 l (by omega)
    by_cases e : i = place n.f0 l
    · rw [e]; exact h0
    · exact Int.le_trans h0 (hl _ _ (Nat.zero_le _) (by omega) h2)
  by_cases c : p < place n.f0 l
  · rw [if_pos c]
    have hlow := place_low n.f0 l p c
    by_cases c2 : q < place n.f0 l
    · rw [if_pos c2]; exact hl p q (Nat.zero_le _) h2 (by omega)
    · rw [if_neg c2]
      by_cases c3 : q = place n.f0 l
      · rw [if_pos c3]; exact Int.le_of_lt hlow
      · rw [if_neg c3]; exact Int.le_trans (Int.le_of_lt hlow) (high (q - 1) (by omega) (by omega))
  · rw [if_neg c, if_neg (show ¬ q < place n.f0 l by omega), if_neg (show ¬ q = place n.f0 l by omega)]
    by_cases c3 : p = place n.f0 l
    · rw [if_pos c3]; exact high (q - 1) (by omega) (by omega)
    · rw [if_neg c3]; exact hl (p - 1) (q - 1) (Nat.zero_le _) (by omega) (by omega)
theorem place_take (n : Int) : ∀ (l : List NI) (i : Nat), i ≤ l.length → (∀ j, j < i → ky l j < n) → (i < l.length → ¬ ky l i < n) → place n l = i
  | [], i, h, _, _ => by simp at h; simp [place, h]
  | x :: l, 0, _, _, h3 => by
    have : ¬ x.f0 < n := h3 (by simp)
    simp [place, this]
  | x :: l, i + 1, h1, h2, h3 => by
    have h0 : x.f0 < n := h2 0 (by omega)
    have ih := place_take n l i (by simpa using h1) (fun j hj => h2 (j + 1) (by omega)) (fun h => h3 (by simpa using h))
    simp [place, h0, ih]
theorem tiPut_ (l : List NI) (hl : l.length ≤ 1000000) (n : NI) : Ev (fun k => yAU.f k l n.f0 n.f1 n.f2) (put l n) := by
  have fin : ∀ i : Nat, i ≤ l.length → place n.f0 l = i → Ev (fun k => yAU.j1 k l (i : Int) false n.f0 n.f1 n.f2) (put l n) := by
    intro i hi e
    have ht : (l.take ((i : Int)).toNat).length = i := by rw [List.length_take]; omega
    have hd : (l.drop ((i : Int)).toNat).length = l.length - i := by rw [List.length_drop]; omega
    refine Ev.step (fun _ => yAU.j1.eq_2 ..) (Ev.neg (by decide) (Ev.have rfl (Ev.pos (by omega) (Ev.pos (by omega) (Ev.have rfl (Ev.pos ?_ (Ev.have rfl (Ev.have rfl (Ev.pos ?_ (Ev.have rfl (Ev.have rfl (Ev.pos ?_ (Ev.some ?_)))))))))))))
    · simp only [List.length_nil]; omega
    · simp only [List.nil_append, List.length_cons, List.length_nil]; omega
    · simp only [List.nil_append, List.length_append, List.length_cons, List.length_nil]; omega
    · unfold put
      rw [e]
      rfl
  have key : ∀ d i : Nat, i + d = l.length → (∀ j, j < i → ky l j < n.f0) → Ev (fun k => yAU.l0 k l (i : Int) n.f0 n.f1 n.f2) (put l n) := by
    intro d
    induction d with
    | zero =>
      intro i hi h
      exact Ev.step (fun _ => yAU.l0.eq_2 ..) (Ev.neg (by omega) (fin i (by omega) (place_take n.f0 l i (by omega) h (fun h => by omega))))
    | succ d ih =>
      intro i hi h
      by_cases c : ky l i < n.f0
      · have h2 := ih (i + 1) (by omega) (fun j hj => by
          by_cases e : j = i
          · rw [e]; exact c
          · exact h j (by omega))
        rw [← wrap_succ (by omega)] at h2
        exact Ev.step (fun _ => yAU.l0.eq_2 ..) (Ev.pos (by omega) (Ev.pos (by omega) (Ev.step (fun _ => yAU.j1.eq_2 ..) (Ev.pos (decide_eq_true c) h2))))
      · have h3 := fin i (by omega) (place_take n.f0 l i (by omega) h (fun _ => c))
        rw [← decide_eq_false c] at h3
        exact Ev.step (fun _ => yAU.l0.eq_2 ..) (Ev.pos (by omega) (Ev.pos (by omega) h3))
  exact key l.length 0 (by omega) (fun j hj => absurd hj (Nat.not_lt_zero _))
end Go.Proofs.Ytgapcmmhbegdeaa.MTier
end
section
/- Pairs of notes that conflict: the reference's list and the program's are one. -/
namespace Go.Proofs.Ytgapcmmhbegdeaa.MConf
open Go.RowKit Go.Proofs.Ytgapcmmhbegdeaa.G Go.Proofs.YtgapcmmhbegdeaaW.PrintWords Go.Proofs.YtgapcmmhbegdeaaW.PrintLast Go.Proofs.Ytgapcmmhbegdeaa.MPure Go.Proofs.Ytgapcmmhbegdeaa.MWord Go.Proofs.Ytgapcmmhbegdeaa.MNote

/-- Whether two notes overlap and are not equal. -/
def conf (x y : NI) : Bool := decide (x.f0 < y.f1) && decide (y.f0 < x.f1) && (!(x.f0 == y.f0) || (!(x.f1 == y.f1) || (!(x.f2.toList == y.f2.toList))))
theorem conflict_ (x y : NI) : yBG.f x.f0 x.f1 x.f2 y.f0 y.f1 y.f2 = some (conf x y) := by
  unfold yBG.f conf
  by_cases h1 : x.f0 < y.f1
  · by_cases h2 : y.f0 < x.f1
    · rw [if_pos h1, if_pos h2]; simp [h1, h2]
    · rw [if_pos h1, if_neg h2]; simp [h2]
  · rw [if_neg h1]; simp [h1]
theorem meClash_ (x y : NI) : yBI.f x.f0 x.f1 x.f2 y.f0 y.f1 y.f2 = some (conf x y) := by
  unfold yBI.f conf
  cases hb : (!(x.f0 == y.f0) || (!(x.f1 == y.f1) || (!(x.f2.toList == y.f2.toList)))) with
  | false => simp
  | true =>
    rw [if_pos rfl]
    by_cases h1 : x.f0 < y.f1
    · rw [if_pos h1]; simp [h1]
    · rw [if_neg h1]; simp [h1]
/-- What the rest of the rounds comes to. -/
def Next (x y : List NI) (i : Nat) : Prop := ∀ out : List (List Int), out.length ≤ i * y.length → (∀ q, q ∈ out → q.length = 2) →
  ∃ r : List (List Int), r.length ≤ x.length * y.length ∧ (∀ q, q ∈ r → q.length = 2) ∧ Ev (fun k => yAT.l0 k y out x (x.length : Int) (i : Int)) r ∧ Ev (fun k => yAP.l0 k y out x (x.length : Int) (i : Int)) r
theorem inner (x y : List NI) (hx : x.length ≤ 1000) (hy : y.length ≤ 1000) (i : Nat) (hi : i < x.length) (hn : Next x y (i + 1)) (n : NI) : ∀ e j : Nat, j + e = y.length → ∀ out : List (List Int), out.length ≤ i * y.length + j → (∀ q, q ∈ out → q.length = 2) →
    ∃ r : List (List Int), r.length ≤ x.length * y.length ∧ (∀ q, q ∈ r → q.length = 2) ∧ Ev (fun k => yAT.l1 k y out (i : Int) x (x.length : Int) (i : Int) y (y.length : Int) (j : Int) n.f0 n.f1 n.f2) r ∧ Ev (fun k => yAP.l1 k y out (i : Int) x (x.length : Int) (i : Int) y (y.length : Int) (j : Int) n.f0 n.f1 n.f2) r := by
  intro e
  induction e with
  | zero =>
    intro j hj out ho hq
    obtain ⟨r, h1, h2, h3, h4⟩ := hn out (by rw [Nat.succ_mul]; omega) hq
    rw [← wrap_succ (by omega)] at h3 h4
    exact ⟨r, h1, h2, Ev.step (fun _ => yAT.l1.eq_2 ..) (Ev.neg (by omega) h3), Ev.step (fun _ => yAP.l1.eq_2 ..) (Ev.neg (by omega) h4)⟩
  | succ e ih =>
    intro j hj out ho hq
    have hb : i * y.length ≤ 1000 * 1000 := Nat.mul_le_mul (by omega) hy
    cases hc : conf n (rd_T58 y (j : Int)) with
    | true =>
      obtain ⟨r, h1, h2, h3, h4⟩ := ih (j + 1) (by omega) (out ++ [[(i : Int), (j : Int)]]) (by simp; omega) (by
        intro q hq'
        rcases List.mem_append.1 hq' with h | h
        · exact hq q h
        · rw [List.mem_singleton.1 h]; rfl)
      rw [← wrap_succ (by omega)] at h3 h4
      have hs := meClash_ n (rd_T58 y (j : Int))
      have hp := conflict_ n (rd_T58 y (j : Int))
      rw [hc] at hs hp
      exact ⟨r, h1, h2, Ev.step (fun _ => yAT.l1.eq_2 ..) (Ev.pos (by omega) (Ev.pos (by omega) (Ev.pos (by omega) (Ev.have hs (Ev.pos rfl (Ev.pos (by omega) h3)))))), Ev.step (fun _ => yAP.l1.eq_2 ..) (Ev.pos (by omega) (Ev.pos (by omega) (Ev.pos (by omega) (Ev.have hp (Ev.pos rfl (Ev.pos (by omega) h4))))))⟩
    | false =>
      obtain ⟨r, h1, h2, h3, h4⟩ := ih (j + 1) (by omega) out (by omega) hq
      rw [← wrap_succ (by omega)] at h3 h4
      have hs := meClash_ n (rd_T58 y (j : Int))
      have hp := conflict_ n (rd_T58 y (j : Int))
      rw [hc] at hs hp
      exact ⟨r, h1, h2, Ev.step (fun _ => yAT.l1.eq_2 ..) (Ev.pos (by omega) (Ev.pos (by omega) (Ev.pos (by omega) (Ev.have hs (Ev.neg (by simp) h3))))), Ev.step (fun _ => yAP.l1.eq_2 ..) (Ev.pos (by omega) (Ev.pos (by omega) (Ev.pos (by omega) (Ev.have hp (Ev.neg (by simp) h4)))))⟩
theorem next_all (x y : List NI) (hx : x.length ≤ 1000) (hy : y.length ≤ 1000) : ∀ d i : Nat, i + d = x.length → Next x y i := by
  intro d
  induction d with
  | zero =>
    intro i hi out ho hq
    obtain rfl : i = x.length := by omega
    exact ⟨out, ho, hq, Ev.step (fun _ => yAT.l0.eq_2 ..) (Ev.neg (by omega) (Ev.some rfl)), Ev.step (fun _ => yAP.l0.eq_2 ..) (Ev.neg (by omega) (Ev.some rfl))⟩
  | succ d ih =>
    intro i hi out ho hq
    obtain ⟨r, h1, h2, h3, h4⟩ := inner x y hx hy i (by omega) (ih (i + 1) (by omega)) (rd_T58 x (i : Int)) y.length 0 (by omega) out (by omega) hq
    exact ⟨r, h1, h2, Ev.step (fun _ => yAT.l0.eq_2 ..) (Ev.pos (by omega) (Ev.pos (by omega) (Ev.pos (by omega) h3))), Ev.step (fun _ => yAP.l0.eq_2 ..) (Ev.pos (by omega) (Ev.pos (by omega) (Ev.pos (by omega) h4)))⟩
theorem pairs_ (x y : List NI) (hx : x.length ≤ 1000) (hy : y.length ≤ 1000) : ∃ r : List (List Int), r.length ≤ 1000000 ∧ (∀ q, q ∈ r → q.length = 2) ∧ Ev (fun k => yAT.f k x y) r ∧ Ev (fun k => yAP.f k x y) r := by
  obtain ⟨r, h1, h2, h3, h4⟩ := next_all x y hx hy x.length 0 (by omega) [] (Nat.zero_le _) (fun q h => nomatch h)
  exact ⟨r, Nat.le_trans h1 (Nat.mul_le_mul hx hy), h2, h3, h4⟩
theorem meBoth_ (x y : List NI) (hx : Sized x) (hy : Sized y) : Ev (fun k => yAd.f k x y) (tierB x && tierB y) := by
  unfold yAd.f
  refine Ev.bind (tiGood_ x hx) (Ev.ite (fun h1 => ?_) (fun h1 => Ev.some (by simp [h1])))
  exact Ev.bind (tiGood_ y hy) (Ev.some (by simp [h1]))
theorem tier_length {l : List NI} (h : tierB l = true) : l.length ≤ 40 := by
  unfold tierB at h
  simp only [Bool.and_eq_true, decide_eq_true_eq] at h
  omega
end Go.Proofs.Ytgapcmmhbegdeaa.MConf
end
section
/- What the merge of two tiers comes to: the reference puts the notes in one by one, the program sorts them. -/
namespace Go.Proofs.Ytgapcmmhbegdeaa.MJoin
open Go.RowKit Go.Proofs.Ytgapcmmhbegdeaa.G Go.Proofs.YtgapcmmhbegdeaaW.PrintWords Go.Proofs.YtgapcmmhbegdeaaW.PrintLast Go.Proofs.Ytgapcmmhbegdeaa.MPure Go.Proofs.Ytgapcmmhbegdeaa.MWord Go.Proofs.Ytgapcmmhbegdeaa.MNote Go.Proofs.Ytgapcmmhbegdeaa.MSort Go.Proofs.Ytgapcmmhbegdeaa.MTier
open Go.Proofs.Ytgapcmmhbegdeaa.MHas (hasB meHas_)
open Go.Proofs.Ytgapcmmhbegdeaa.MConf (conf meClash_)

theorem conf_comm (x y : NI) : conf x y = conf y x := by
  unfold conf
  rw [Bool.and_comm (decide (x.f0 < y.f1)), Bool.beq_comm (a := x.f0), Bool.beq_comm (a := x.f1), Bool.beq_comm (a := x.f2.toList)]
/-- Whether a note conflicts with one of a list. -/
def clashB (l : List NI) (n : NI) : Bool := l.any (fun x => conf x n)
theorem meClashes_ (l : List NI) (hl : l.length ≤ 140737488351232) (n : NI) : Ev (fun k => yAo.f k l n.f0 n.f1 n.f2) (clashB l n) := by
  have key : ∀ d i : Nat, i + d = l.length → Ev (fun k => yAo.l0 k l (l.length : Int) (i : Int) n.f0 n.f1 n.f2) (clashB (l.drop i) n) := by
    intro d
    induction d with
    | zero =>
      intro i hi
      rw [List.drop_eq_nil_of_le (by omega)]
      exact Ev.step (fun _ => yAo.l0.eq_2 ..) (Ev.neg (by omega) (Ev.some rfl))
    | succ d ih =>
      intro i hi
      have h := ih (i + 1) (by omega)
      have e : rd_T58 l (i : Int) = l[i]'(by omega) := by
        show l.getD i z58 = _
        rw [List.getD_eq_getElem?_getD, List.getElem?_eq_getElem (by omega)]
        rfl
      rw [← wrap_succ (by omega)] at h
      rw [List.drop_eq_getElem_cons (show i < l.length by omega), clashB, List.any_cons, ← e]
      have hs := meClash_ (rd_T58 l (i : Int)) n
      refine Ev.step (fun _ => yAo.l0.eq_2 ..) (Ev.pos (by omega) (Ev.pos (by omega) (Ev.pos (by omega) (Ev.have hs (Ev.ite (fun he => Ev.some ?_) (fun he => Ev.eq h ?_))))))
      · rw [he, Bool.true_or]
      · rw [Bool.eq_false_iff.2 he, Bool.false_or]
        rfl
  exact key l.length 0 (by omega)
theorem meFree_ (l m : List NI) (hl : l.length ≤ 4398046511104) (hm : m.length ≤ 140737488351232) : Ev (fun k => yAu.f k l m) (l.filter (fun x => !clashB m x)) := by
  have key : ∀ d i : Nat, i + d = l.length → ∀ out : List NI, out.length ≤ i → Ev (fun k => yAu.l0 k m out l (l.length : Int) (i : Int)) (out ++ (l.drop i).filter (fun x => !clashB m x)) := by
    intro d
    induction d with
    | zero =>
      intro i hi out _
      rw [List.drop_eq_nil_of_le (by omega)]
      exact Ev.step (fun _ => yAu.l0.eq_2 ..) (Ev.neg (by omega) (Ev.some (by simp)))
    | succ d ih =>
      intro i hi out ho
      have e : rd_T58 l (i : Int) = l[i]'(by omega) := by
        show l.getD i z58 = _
        rw [List.getD_eq_getElem?_getD, List.getElem?_eq_getElem (by omega)]
        rfl
      rw [List.drop_eq_getElem_cons (show i < l.length by omega), ← e]
      refine Ev.step (fun _ => yAu.l0.eq_2 ..) (Ev.pos (by omega) (Ev.pos (by omega) (Ev.pos (by omega) (Ev.bind (meClashes_ m hm _) (Ev.ite (fun he => ?_) (fun he => ?_))))))
      · have h := ih (i + 1) (by omega) out (by omega)
        rw [← wrap_succ (by omega)] at h
        rw [List.filter_cons, if_neg (by rw [he]; simp)]
        exact h
      · refine Ev.pos (by omega) ?_
        have h := ih (i + 1) (by omega) (out ++ [rd_T58 l (i : Int)]) (by rw [List.length_append]; simp; omega)
        rw [← wrap_succ (by omega)] at h
        rw [List.filter_cons, if_pos (by rw [Bool.eq_false_iff.2 he]; rfl)]
        rw [List.append_assoc, List.singleton_append] at h
        exact h
  have h := key l.length 0 (by omega) [] (Nat.zero_le _)
  rw [List.nil_append, List.drop_zero] at h
  exact h
/-- All notes of a second list put into a first one. -/
def puts (a l : List NI) : List NI := l.foldl put a
theorem puts_perm : ∀ (l a : List NI), (puts a l).Perm (a ++ l)
  | [], a => by rw [List.append_nil]; exact List.Perm.refl _
  | x :: l, a => by
    have h := puts_perm l (put a x)
    refine h.trans ?_
    have h2 := (put_perm a x).append_right l
    rw [List.append_assoc, List.singleton_append] at h2
    exact h2
theorem puts_srt : ∀ (l a : List NI), Srt a 0 a.length → Srt (puts a l) 0 (puts a l).length
  | [], _, h => h
  | x :: l, a, h => puts_srt l (put a x) (put_srt a x h)
theorem puts_length (l a : List NI) : (puts a l).length = a.length + l.length := by rw [(puts_perm l a).length_eq, List.length_append]
/-- The notes of the second list that go into the first one. -/
def fresh (a b : List NI) : List NI := b.filter (fun n => !hasB a n && !clashB a n)
theorem meJoin_ (a b : List NI) (ha : a.length ≤ 400000) (hb : b.length ≤ 400000) : Ev (fun k => yAv.f k a b) (puts a (fresh a b)) := by
  have key : ∀ d i : Nat, i + d = b.length → ∀ out : List NI, out.length ≤ 400000 + i → Ev (fun k => yAv.l0 k a out b (b.length : Int) (i : Int)) (puts out (fresh a (b.drop i))) := by
    intro d
    induction d with
    | zero =>
      intro i hi out _
      rw [List.drop_eq_nil_of_le (by omega)]
      exact Ev.step (fun _ => yAv.l0.eq_2 ..) (Ev.neg (by omega) (Ev.some rfl))
    | succ d ih =>
      intro i hi out ho
      have e : rd_T58 b (i : Int) = b[i]'(by omega) := by
        show b.getD i z58 = _
        rw [List.getD_eq_getElem?_getD, List.getElem?_eq_getElem (by omega)]
        rfl
      rw [List.drop_eq_getElem_cons (show i < b.length by omega), ← e]
      have h0 := ih (i + 1) (by omega) out (by omega)
      have h1 := ih (i + 1) (by omega) (put out (rd_T58 b (i : Int))) (by rw [put_length]; omega)
      rw [← wrap_succ (by omega)] at h0 h1
      have hp := tiPut_ out (by omega) (rd_T58 b (i : Int))
      refine Ev.step (fun _ => yAv.l0.eq_2 ..) (Ev.pos (by omega) (Ev.pos (by omega) (Ev.pos (by omega) (Ev.bind (meHas_ a (by omega) _) (Ev.ite (fun he => ?_) (fun he => ?_))))))
      · have e0 : fresh a (rd_T58 b (i : Int) :: b.drop (i + 1)) = fresh a (b.drop (i + 1)) := by
          unfold fresh
          rw [List.filter_cons, if_neg (by rw [he]; simp)]
        rw [e0]
        exact h0
      · refine Ev.bind (meClashes_ a (by omega) _) (Ev.ite (fun hc => ?_) (fun hc => ?_))
        · have e0 : fresh a (rd_T58 b (i : Int) :: b.drop (i + 1)) = fresh a (b.drop (i + 1)) := by
            unfold fresh
            rw [List.filter_cons, if_neg (by rw [hc]; simp)]
          rw [e0]
          exact h0
        · have e0 : fresh a (rd_T58 b (i : Int) :: b.drop (i + 1)) = rd_T58 b (i : Int) :: fresh a (b.drop (i + 1)) := by
            unfold fresh
            rw [List.filter_cons, if_pos (by rw [Bool.eq_false_iff.2 he, Bool.eq_false_iff.2 hc]; rfl)]
          rw [e0]
          exact Ev.bind hp h1
  have h := key b.length 0 (by omega) a (by omega)
  unfold yAv.f
  refine Ev.have rfl (Ev.pos (by simp only [List.length_nil]; omega) ?_)
  rw [List.drop_zero] at h
  exact h
/-! ### in order -/
theorem srt_of {l : List NI} (h : l.Pairwise (fun a b => a.f0 ≤ b.f0)) : Srt l 0 l.length := by
  intro p q _ h2 h3
  rw [List.pairwise_iff_getElem] at h
  unfold ky
  rw [atN_get (show p < l.length by omega), atN_get h3]
  exact h p q (by omega) h3 h2
theorem srt_filter {l : List NI} (h : Srt l 0 l.length) (p : NI → Bool) : Srt (l.filter p) 0 (l.filter p).length := srt_of ((srt_pairwise h).filter p)
theorem KB_filter {l : List NI} (h : KB l) (p : NI → Bool) : KB (l.filter p) := ⟨fun x hx => h.1 x (List.mem_filter.1 hx).1, Nat.le_trans (List.length_filter_le _ _) h.2⟩
theorem KB_append {l m : List NI} (h : KB l) (k : KB m) (hn : l.length + m.length ≤ 4398046511104) : KB (l ++ m) := ⟨fun x hx => (List.mem_append.1 hx).elim (h.1 x) (k.1 x), by rw [List.length_append]; exact hn⟩
theorem sized_filter {l : List NI} (h : Sized l) (p : NI → Bool) : Sized (l.filter p) := ⟨Nat.le_trans (List.length_filter_le _ _) h.1, fun x hx => h.2 x (List.mem_filter.1 hx).1⟩
theorem sized_append {l m : List NI} (h : Sized l) (k : Sized m) (hn : l.length ≤ 1000000) (hm : m.length ≤ 1000000) : Sized (l ++ m) := ⟨by rw [List.length_append]; omega, fun x hx => (List.mem_append.1 hx).elim (h.2 x) (k.2 x)⟩
/-- The notes of a tier do not conflict. -/
def Calm (l : List NI) : Prop := ∀ x, x ∈ l → ∀ y, y ∈ l → conf x y = false
theorem conf_self (x : NI) : conf x x = false := by unfold conf; simp
theorem tier_before {l : List NI} (h : tierB l = true) {i j : Nat} (hij : i < j) (hj : j < l.length) : (atN l i).f1 ≤ (atN l j).f0 := by
  have h1 := tier_at h hj
  have h2 := h1.2
  by_cases e : i = j - 1
  · rw [e]; omega
  · have h3 := tier_lt h (j - 1 - i - 1) i (j - 1) (by omega) (by omega)
    have h4 := note_in (tier_at h (show j - 1 < l.length by omega)).1
    have h5 := tier_at h (show i + 1 < l.length by omega)
    have h6 : ky l (i + 1) ≤ ky l (j - 1) := by
      rcases Nat.lt_or_ge (i + 1) (j - 1) with c | c
      · exact Int.le_of_lt (tier_lt h (j - 1 - (i + 1) - 1) (i + 1) (j - 1) (by omega) (by omega))
      · rw [show i + 1 = j - 1 by omega]; exact Int.le_refl _
    have h7 := h5.2
    rw [show i + 1 - 1 = i by omega] at h7
    unfold ky at h6
    omega
theorem tier_calm {l : List NI} (h : tierB l = true) : Calm l := by
  intro x hx y hy
  obtain ⟨i, hi, rfl⟩ := List.mem_iff_getElem.1 hx
  obtain ⟨j, hj, rfl⟩ := List.mem_iff_getElem.1 hy
  rcases Nat.lt_trichotomy i j with c | c | c
  · have := tier_before h c hj
    rw [atN_get hi, atN_get hj] at this
    unfold conf
    rw [decide_eq_false (show ¬ (l[j]).f0 < (l[i]).f1 by omega)]
    simp
  · subst c; exact conf_self _
  · have := tier_before h c hi
    rw [atN_get hi, atN_get hj] at this
    unfold conf
    rw [decide_eq_false (show ¬ (l[i]).f0 < (l[j]).f1 by omega)]
    simp
theorem calm_filter {l : List NI} (h : Calm l) (p : NI → Bool) : Calm (l.filter p) := fun x hx y hy => h x (List.mem_filter.1 hx).1 y (List.mem_filter.1 hy).1
def same (x y : NI) : Bool := x.f0 == y.f0 && (x.f1 == y.f1 && x.f2.toList == y.f2.toList)
theorem conf_same {x y : NI} (h : same x y = true) (m : NI) : conf m x = conf m y := by
  unfold same at h
  simp only [Bool.and_eq_true, beq_iff_eq] at h
  unfold conf
  rw [h.1, h.2.1, h.2.2]
theorem clash_sub {x : List NI} {n : NI} (p : NI → Bool) (h : clashB x n = false) : clashB (x.filter p) n = false := by
  unfold clashB at *
  rw [List.any_eq_false] at *
  exact fun a ha => h a (List.mem_filter.1 ha).1
/-- What the program adds to the notes of the first list. -/
theorem fresh_free (x y : List NI) (hy : Calm y) : fresh (x.filter (fun n => !clashB y n)) (y.filter (fun n => !clashB x n)) = (y.filter (fun n => !clashB x n)).filter (fun n => !hasB x n) := by
  unfold fresh
  refine List.filter_congr (fun n hn => ?_)
  obtain ⟨hn1, hn2⟩ := List.mem_filter.1 hn
  have h1 : clashB x n = false := by simpa using hn2
  rw [clash_sub _ h1]
  have h2 : hasB (x.filter (fun n => !clashB y n)) n = hasB x n := by
    unfold hasB
    rw [List.any_filter]
    congr 1
    funext a
    show (!clashB y a && same n a) = same n a
    cases hs : same n a with
    | false => simp
    | true =>
      have h3 : clashB y a = false := by
        unfold clashB
        rw [List.any_eq_false]
        intro m hm
        rw [← conf_same hs m, hy m hm n hn1]
        simp
      rw [h3]; rfl
  rw [h2]
  simp
theorem peaceful_ (x y : List NI) (hx : x.length ≤ 1000000) : yAX.f x y = some (x.filter (fun n => !clashB y n)) := by
  unfold yAX.f
  rw [if_pos (by omega)]
  have e : (fun n => !yAX.p y n) = (fun n => !clashB y n) := funext fun n => by
    show (!(y.any (conf n))) = (!(y.any (fun m => conf m n)))
    rw [show conf n = (fun m => conf m n) from funext fun m => conf_comm n m]
  rw [e]
theorem addedTo_ (x y : List NI) (hy : y.length ≤ 1000000) : yAg.f x y = some ((y.filter (fun n => !clashB x n)).filter (fun n => !hasB x n)) := by
  unfold yAg.f
  rw [peaceful_ y x hy]
  rfl
theorem fresh_length (a b : List NI) : (fresh a b).length ≤ b.length := List.length_filter_le _ _
theorem fresh_mem {a b : List NI} {n : NI} (h : n ∈ fresh a b) : n ∈ b := (List.mem_filter.1 h).1
/-- The whole of merging. -/
theorem merge_ (x y : List NI) (sx : Srt x 0 x.length) (cy : Calm y) (kx : KB x) (ky : KB y) (zx : Sized x) (zy : Sized y) (lx : x.length ≤ 1000) (ly : y.length ≤ 1000) : ∃ p : List NI, p = puts (x.filter (fun n => !clashB y n)) (fresh (x.filter (fun n => !clashB y n)) (y.filter (fun n => !clashB x n))) ∧ p.length ≤ 2000 ∧ Ev (fun k => yBP.f k x y) (tierOr p) ∧
    ((yAX.f x y).bind fun t => (yAg.f x y).bind fun u => some (t ++ u)) = some (x.filter (fun n => !clashB y n) ++ fresh (x.filter (fun n => !clashB y n)) (y.filter (fun n => !clashB x n))) ∧
    Ev (fun k => yBD.f k (x.filter (fun n => !clashB y n) ++ fresh (x.filter (fun n => !clashB y n)) (y.filter (fun n => !clashB x n)))) (tierOr p) := by
  have e := fresh_free x y cy
  have h1 := meFree_ x y (by omega) (by omega)
  have h2 := meFree_ y x (by omega) (by omega)
  have hl1 : (x.filter (fun n => !clashB y n)).length ≤ x.length := List.length_filter_le _ _
  have hl2 : (y.filter (fun n => !clashB x n)).length ≤ y.length := List.length_filter_le _ _
  have sA := srt_filter sx (fun n => !clashB y n)
  have kA := KB_filter kx (fun n => !clashB y n)
  have zA := sized_filter zx (fun n => !clashB y n)
  have kB := KB_filter (KB_filter ky (fun n => !clashB x n)) (fun n => !hasB x n)
  have zB := sized_filter (sized_filter zy (fun n => !clashB x n)) (fun n => !hasB x n)
  rw [← e] at kB zB
  have h3 := peaceful_ x y (by omega)
  have h4 := addedTo_ x y (by omega)
  rw [← e] at h4
  generalize x.filter (fun n => !clashB y n) = A at *
  generalize y.filter (fun n => !clashB x n) = B at *
  have hf := fresh_length A B
  have h5 := meJoin_ A B (by omega) (by omega)
  have hp := puts_perm (fresh A B) A
  have hk := KB_append kA kB (by omega)
  have hz := sized_append zA zB (by omega) (by omega)
  refine ⟨puts A (fresh A B), rfl, by rw [puts_length]; omega, Ev.bind h1 (Ev.bind h2 (Ev.bind h5 (Ev.bind (MTier.tiIf_ _ (sized_perm hz hp)) (Ev.some rfl)))), by rw [h3, h4]; rfl, ?_⟩
  exact sortedTier_ _ _ hk hz hp (puts_srt _ _ sA)
/-- What both hand back. -/
def out3 (p : List NI) (c : List (List Int)) : List NI × List (List Int) × Bool := if tierB p = true then (p, c, true) else ([], [], false)
end Go.Proofs.Ytgapcmmhbegdeaa.MJoin
end
section
/- Pairs of notes that conflict: both come to one list, told place by place. No condition. -/
namespace Go.Proofs.Ytgapcmmhbegdeaa.MConfL
open Go.RowKit Go.Proofs.Ytgapcmmhbegdeaa.G Go.Proofs.YtgapcmmhbegdeaaW.PrintWords Go.Proofs.YtgapcmmhbegdeaaW.PrintLast Go.Proofs.Ytgapcmmhbegdeaa.MPure Go.Proofs.Ytgapcmmhbegdeaa.MWord Go.Proofs.Ytgapcmmhbegdeaa.MNote Go.Proofs.Ytgapcmmhbegdeaa.MConf

def crow (n : NI) (i : Nat) (y : List NI) : Nat → Nat → List (List Int)
  | 0, _ => []
  | d + 1, j => (if conf n (atN y j) then [[(i : Int), (j : Int)]] else []) ++ crow n i y d (j + 1)
def crows (x y : List NI) : Nat → Nat → List (List Int)
  | 0, _ => []
  | d + 1, i => crow (atN x i) i y y.length 0 ++ crows x y d (i + 1)
def cps (x y : List NI) : List (List Int) := crows x y x.length 0
theorem crow_length (n : NI) (i : Nat) (y : List NI) : ∀ d j, (crow n i y d j).length ≤ d
  | 0, _ => Nat.le_refl _
  | d + 1, j => by
    have := crow_length n i y d (j + 1)
    rw [crow, List.length_append]
    split
    · show 1 + _ ≤ _; omega
    · show 0 + _ ≤ _; omega
theorem mem_crow (n : NI) (i : Nat) (y : List NI) (q : List Int) : ∀ d j, q ∈ crow n i y d j ↔ ∃ k, j ≤ k ∧ k < j + d ∧ conf n (atN y k) = true ∧ q = [(i : Int), (k : Int)]
  | 0, j => by
    rw [crow]
    exact ⟨fun h => (nomatch h), fun ⟨k, h1, h2, _⟩ => by omega⟩
  | d + 1, j => by
    rw [crow, List.mem_append, mem_crow n i y q d (j + 1)]
    constructor
    · rintro (h | ⟨k, h1, h2, h3, h4⟩)
      · split at h
        · rename_i hc
          exact ⟨j, by omega, by omega, hc, List.mem_singleton.1 h⟩
        · exact (nomatch h)
      · exact ⟨k, by omega, by omega, h3, h4⟩
    · rintro ⟨k, h1, h2, h3, h4⟩
      by_cases e : k = j
      · subst e
        rw [if_pos h3]
        exact Or.inl (List.mem_singleton.2 h4)
      · exact Or.inr ⟨k, by omega, by omega, h3, h4⟩
theorem mem_crows (x y : List NI) (q : List Int) : ∀ d i, q ∈ crows x y d i ↔ ∃ a k, i ≤ a ∧ a < i + d ∧ k < y.length ∧ conf (atN x a) (atN y k) = true ∧ q = [(a : Int), (k : Int)]
  | 0, i => by
    rw [crows]
    exact ⟨fun h => (nomatch h), fun ⟨a, k, h1, h2, _⟩ => by omega⟩
  | d + 1, i => by
    rw [crows, List.mem_append, mem_crows x y q d (i + 1), mem_crow]
    constructor
    · rintro (⟨k, h1, h2, h3, h4⟩ | ⟨a, k, h1, h2, h3, h4, h5⟩)
      · exact ⟨i, k, Nat.le_refl _, by omega, by omega, h3, h4⟩
      · exact ⟨a, k, by omega, by omega, h3, h4, h5⟩
    · rintro ⟨a, k, h1, h2, h3, h4, h5⟩
      by_cases e : a = i
      · subst e
        exact Or.inl ⟨k, by omega, by omega, h4, h5⟩
      · exact Or.inr ⟨a, k, by omega, by omega, h3, h4, h5⟩
theorem mem_cps (x y : List NI) (q : List Int) : q ∈ cps x y ↔ ∃ a k, a < x.length ∧ k < y.length ∧ conf (atN x a) (atN y k) = true ∧ q = [(a : Int), (k : Int)] := by
  unfold cps
  rw [mem_crows]
  constructor
  · rintro ⟨a, k, h1, h2, h⟩
    exact ⟨a, k, by omega, h⟩
  · rintro ⟨a, k, h1, h⟩
    exact ⟨a, k, by omega, by omega, h⟩
theorem cinner (x y : List NI) (hx : x.length ≤ 1000) (hy : y.length ≤ 1000) (i : Nat) (hi : i < x.length) (n : NI) (R : List (List Int)) : ∀ d j : Nat, j + d = y.length → ∀ out : List (List Int), out.length + d ≤ 100000000 →
    Ev (fun k => yAT.l0 k y (out ++ crow n i y d j) x (x.length : Int) ((i + 1 : Nat) : Int)) R → Ev (fun k => yAP.l0 k y (out ++ crow n i y d j) x (x.length : Int) ((i + 1 : Nat) : Int)) R →
    Ev (fun k => yAT.l1 k y out (i : Int) x (x.length : Int) (i : Int) y (y.length : Int) (j : Int) n.f0 n.f1 n.f2) R ∧ Ev (fun k => yAP.l1 k y out (i : Int) x (x.length : Int) (i : Int) y (y.length : Int) (j : Int) n.f0 n.f1 n.f2) R := by
  intro d
  induction d with
  | zero =>
    intro j hj out ho h3 h4
    rw [crow, List.append_nil, ← wrap_succ (by omega)] at h3 h4
    exact ⟨Ev.step (fun _ => yAT.l1.eq_2 ..) (Ev.neg (by omega) h3), Ev.step (fun _ => yAP.l1.eq_2 ..) (Ev.neg (by omega) h4)⟩
  | succ d ih =>
    intro j hj out ho h3 h4
    have hs := meClash_ n (rd_T58 y (j : Int))
    have hp := conflict_ n (rd_T58 y (j : Int))
    rw [crow] at h3 h4
    by_cases hc : conf n (atN y j) = true
    · rw [if_pos hc, ← List.append_assoc] at h3 h4
      rw [show conf n (rd_T58 y (j : Int)) = true from hc] at hs hp
      obtain ⟨g3, g4⟩ := ih (j + 1) (by omega) (out ++ [[(i : Int), (j : Int)]]) (by rw [List.length_append, List.length_singleton]; omega) h3 h4
      rw [← wrap_succ (by omega)] at g3 g4
      exact ⟨Ev.step (fun _ => yAT.l1.eq_2 ..) (Ev.pos (by omega) (Ev.pos (by omega) (Ev.pos (by omega) (Ev.have hs (Ev.pos rfl (Ev.pos (by omega) g3)))))), Ev.step (fun _ => yAP.l1.eq_2 ..) (Ev.pos (by omega) (Ev.pos (by omega) (Ev.pos (by omega) (Ev.have hp (Ev.pos rfl (Ev.pos (by omega) g4))))))⟩
    · rw [if_neg hc, List.nil_append] at h3 h4
      rw [show conf n (rd_T58 y (j : Int)) = false from Bool.eq_false_iff.2 hc] at hs hp
      obtain ⟨g3, g4⟩ := ih (j + 1) (by omega) out (by omega) h3 h4
      rw [← wrap_succ (by omega)] at g3 g4
      exact ⟨Ev.step (fun _ => yAT.l1.eq_2 ..) (Ev.pos (by omega) (Ev.pos (by omega) (Ev.pos (by omega) (Ev.have hs (Ev.neg (by simp) g3))))), Ev.step (fun _ => yAP.l1.eq_2 ..) (Ev.pos (by omega) (Ev.pos (by omega) (Ev.pos (by omega) (Ev.have hp (Ev.neg (by simp) g4)))))⟩
theorem couter (x y : List NI) (hx : x.length ≤ 1000) (hy : y.length ≤ 1000) : ∀ d i : Nat, i + d = x.length → ∀ out : List (List Int), out.length ≤ i * 1000 →
    Ev (fun k => yAT.l0 k y out x (x.length : Int) (i : Int)) (out ++ crows x y d i) ∧ Ev (fun k => yAP.l0 k y out x (x.length : Int) (i : Int)) (out ++ crows x y d i) := by
  intro d
  induction d with
  | zero =>
    intro i hi out ho
    rw [crows, List.append_nil]
    exact ⟨Ev.step (fun _ => yAT.l0.eq_2 ..) (Ev.neg (by omega) (Ev.some rfl)), Ev.step (fun _ => yAP.l0.eq_2 ..) (Ev.neg (by omega) (Ev.some rfl))⟩
  | succ d ih =>
    intro i hi out ho
    have hr := crow_length (atN x i) i y y.length 0
    obtain ⟨h3, h4⟩ := ih (i + 1) (by omega) (out ++ crow (atN x i) i y y.length 0) (by rw [List.length_append]; omega)
    obtain ⟨g3, g4⟩ := cinner x y hx hy i (by omega) (atN x i) _ y.length 0 (by omega) out (by omega) h3 h4
    rw [crows, ← List.append_assoc]
    exact ⟨Ev.step (fun _ => yAT.l0.eq_2 ..) (Ev.pos (by omega) (Ev.pos (by omega) (Ev.pos (by omega) g3))), Ev.step (fun _ => yAP.l0.eq_2 ..) (Ev.pos (by omega) (Ev.pos (by omega) (Ev.pos (by omega) g4)))⟩
theorem cps_ (x y : List NI) (hx : x.length ≤ 1000) (hy : y.length ≤ 1000) : Ev (fun k => yAT.f k x y) (cps x y) ∧ Ev (fun k => yAP.f k x y) (cps x y) := couter x y hx hy x.length 0 (by omega) [] (Nat.zero_le _)
end Go.Proofs.Ytgapcmmhbegdeaa.MConfL
end
section
/- Merged tiers: what both come to, which notes are in them, and that the order of the two does not matter. No condition. -/
namespace Go.Proofs.Ytgapcmmhbegdeaa.MMrg
open Go.RowKit Go.Proofs.Ytgapcmmhbegdeaa.G Go.Proofs.YtgapcmmhbegdeaaW.PrintWords Go.Proofs.YtgapcmmhbegdeaaW.PrintLast Go.Proofs.Ytgapcmmhbegdeaa.MPure Go.Proofs.Ytgapcmmhbegdeaa.MWord Go.Proofs.Ytgapcmmhbegdeaa.MNote Go.Proofs.Ytgapcmmhbegdeaa.MSort Go.Proofs.Ytgapcmmhbegdeaa.MTier Go.Proofs.Ytgapcmmhbegdeaa.MConf Go.Proofs.Ytgapcmmhbegdeaa.MConfL Go.Proofs.Ytgapcmmhbegdeaa.MJoin
open Go.Proofs.Ytgapcmmhbegdeaa.MHas (hasB)

theorem bytes_eq {a b : ByteArray} (h : a.toList = b.toList) : a = b := by
  rw [ByteArray.toList_eq, ByteArray.toList_eq] at h
  exact ByteArray.ext (Array.toList_inj.1 h)
theorem hasB_iff (l : List NI) (x : NI) : hasB l x = true ↔ x ∈ l := by
  unfold hasB
  rw [List.any_eq_true]
  constructor
  · rintro ⟨y, hy, h⟩
    simp only [Bool.and_eq_true, beq_iff_eq] at h
    have e : x = y := by
      cases x; cases y
      obtain ⟨h1, h2, h3⟩ := h
      have h3 := bytes_eq h3
      subst h1; subst h2; subst h3
      rfl
    rw [e]; exact hy
  · intro h
    exact ⟨x, h, by simp⟩
theorem calm_clash {l : List NI} (h : MJoin.Calm l) {n : NI} (hn : n ∈ l) : clashB l n = false := by
  unfold clashB
  rw [List.any_eq_false]
  intro x hx
  rw [h x hx n hn]
  exact Bool.false_ne_true
theorem tier_len {l : List NI} (h : tierB l = true) : l.length ≤ 40 := MConf.tier_length h
/-! ### the merged list -/
def keep (x y : List NI) : List NI := x.filter (fun n => !clashB y n)
def mrgP (x y : List NI) : List NI := puts (keep x y) (fresh (keep x y) (keep y x))
/-- What both hand back. -/
theorem mergedC_ (x y : List NI) (tx : tierB x = true) (ty : tierB y = true) (zx : Sized x) (zy : Sized y) :
    Ev (fun k => (yBP.f k x y).bind fun bt => if bt.2 = true then ((yAT.f k x y).bind fun t => some (bt.1, t, true)) else some (([] : List NI), ([] : List (List Int)), false)) (out3 (mrgP x y) (cps x y)) ∧ Ev (fun k => yBO.f k x y) (out3 (mrgP x y) (cps x y)) := by
  have lx := tier_len tx
  have ly := tier_len ty
  obtain ⟨p, hp, p1, p2, p3, p4⟩ := merge_ x y (tier_srt tx) (tier_calm ty) (tier_KB tx) (tier_KB ty) zx zy (by omega) (by omega)
  obtain ⟨c3, c4⟩ := cps_ x y (by omega) (by omega)
  have hp2 : p = mrgP x y := hp
  rw [← hp2]
  have h3 := peaceful_ x y (by omega)
  have h4 := addedTo_ x y (by omega)
  rw [h3, h4] at p3
  have p5 := Option.some.inj p3
  rw [← p5] at p4
  have hl1 : (x.filter (fun n => !clashB y n)).length ≤ x.length := List.length_filter_le _ _
  have hl2 : ((y.filter (fun n => !clashB x n)).filter (fun n => !hasB x n)).length ≤ y.length := Nat.le_trans (List.length_filter_le _ _) (List.length_filter_le _ _)
  unfold yBO.f out3
  cases ht : tierB p with
  | true =>
    have e : tierOr p = (p, true) := by unfold tierOr; rw [if_pos ht]
    rw [e] at p2 p4
    exact ⟨Ev.bind p2 (Ev.pos rfl (Ev.bind c3 (Ev.some rfl))), Ev.have h3 (Ev.have h4 (Ev.pos (by omega) (Ev.bind p4 (Ev.pos rfl (Ev.bind c4 (Ev.some rfl))))))⟩
  | false =>
    have e : tierOr p = ([], false) := by unfold tierOr; rw [if_neg (by rw [ht]; simp)]
    rw [e] at p2 p4
    exact ⟨Ev.bind p2 (Ev.neg (by simp) (Ev.some rfl)), Ev.have h3 (Ev.have h4 (Ev.pos (by omega) (Ev.bind p4 (Ev.neg (by simp) (Ev.some rfl)))))⟩
end Go.Proofs.Ytgapcmmhbegdeaa.MMrg
end
section
/- NoteAt: what the reference and the program answer, in plain words (out of the pure text of the exact law). No condition. -/
namespace Go.Proofs.Ytgapcmmhbegdeaa.MCNoteAt
open Go.RowKit Go.Proofs.Ytgapcmmhbegdeaa.G Go.Proofs.YtgapcmmhbegdeaaW.PrintWords Go.Proofs.YtgapcmmhbegdeaaW.PrintLast Go.Proofs.Ytgapcmmhbegdeaa.MPure Go.Proofs.Ytgapcmmhbegdeaa.MWord Go.Proofs.Ytgapcmmhbegdeaa.MNote Go.Proofs.Ytgapcmmhbegdeaa.MAt Go.Proofs.Ytgapcmmhbegdeaa.MAt0

/-- What both come to. -/
def noteAtR (l : List NI) (a : Int) : Int × Bool := if tierB l = true ∧ frameB a = true ∧ 0 ≤ idxOf (yAm.p a) l then (idxOf (yAm.p a) l, true) else (0, false)
theorem NoteAt_s (l : List NI) (hl : Sized l) (a : Int) : Ev (fun k => yBQ.f k l a) (noteAtR l a) := by
  unfold yBQ.f noteAtR
  refine Ev.bind (tiGood_ l hl) (Ev.ite (fun h1 => ?_) (fun h1 => Ev.some (by simp [h1])))
  refine Ev.have (tiFrame_ a) (Ev.ite (fun h2 => ?_) (fun h2 => Ev.some (by simp [h2])))
  refine Ev.bind (tiAt_ l hl a) (Ev.ite (fun h3 => Ev.some ?_) (fun h3 => Ev.bind (tiAt_ l hl a) (Ev.some ?_)))
  · rw [if_neg (by omega)]
  · rw [if_pos ⟨h1, h2, by omega⟩]
theorem NoteAt_i (l : List NI) (hl : Sized l) (a : Int) : Ev (fun k => yA2.f k l a) (noteAtR l a) := by
  unfold yA2.f noteAtR
  refine Ev.bind (IsTier_ l hl) (Ev.ite (fun h1 => ?_) (fun h1 => Ev.step (fun _ => yA2.j0.eq_2 ..) (Ev.pos rfl (Ev.some (by simp [h1])))))
  refine Ev.have (isFrame_ a) (Ev.step (fun _ => yA2.j0.eq_2 ..) (Ev.ite (fun h2 => Ev.some ?_) (fun h2 => ?_)))
  · simp only [Bool.not_eq_true'] at h2
    simp [h2]
  · simp only [Bool.not_eq_true', Bool.not_eq_false] at h2
    refine Ev.have rfl (Ev.ite (fun h3 => Ev.some ?_) (fun h3 => Ev.some ?_))
    · rw [if_neg (by omega)]
    · rw [if_pos ⟨h1, h2, by omega⟩]
end Go.Proofs.Ytgapcmmhbegdeaa.MCNoteAt
end
section
/- Sums over what two tiers share: they do not change with the order of the two, and common notes are among what is agreed on. No condition but that the two are tiers. -/
namespace Go.Proofs.Ytgapcmmhbegdeaa.MTP
open Go.RowKit Go.Proofs.Ytgapcmmhbegdeaa.G Go.Proofs.YtgapcmmhbegdeaaW.PrintWords Go.Proofs.YtgapcmmhbegdeaaW.PrintLast Go.Proofs.Ytgapcmmhbegdeaa.MPure Go.Proofs.Ytgapcmmhbegdeaa.MWord Go.Proofs.Ytgapcmmhbegdeaa.MNote Go.Proofs.Ytgapcmmhbegdeaa.MGlossT Go.Proofs.Ytgapcmmhbegdeaa.MShare
open Go.Proofs.Ytgapcmmhbegdeaa.MHas (hasB)
open Go.Proofs.Ytgapcmmhbegdeaa.MMrg (hasB_iff)
open Go.Proofs.Ytgapcmmhbegdeaa.MTier (tier_at note_in tier_lt)
open Go.Proofs.Ytgapcmmhbegdeaa.MCNoteAt (noteAtR)

/-! ### sums -/
def sm {α : Type} (l : List α) (f : α → Int) : Int := (l.map f).foldr (· + ·) 0
theorem sm_nil {α : Type} (f : α → Int) : sm [] f = 0 := rfl
theorem sm_cons {α : Type} (x : α) (l : List α) (f : α → Int) : sm (x :: l) f = f x + sm l f := rfl
theorem sm_app {α : Type} (f : α → Int) (m : List α) : ∀ l : List α, sm (l ++ m) f = sm l f + sm m f
  | [] => by rw [List.nil_append, sm_nil]; omega
  | x :: l => by rw [List.cons_append, sm_cons, sm_cons, sm_app f m l]; omega
theorem sm_add {α : Type} (f g : α → Int) : ∀ l : List α, sm l (fun x => f x + g x) = sm l f + sm l g
  | [] => rfl
  | x :: l => by rw [sm_cons, sm_cons, sm_cons, sm_add f g l]; omega
theorem sm_zero {α : Type} : ∀ l : List α, sm l (fun _ => (0 : Int)) = 0
  | [] => rfl
  | x :: l => by rw [sm_cons, sm_zero l]; rfl
theorem sm_swap {α β : Type} (g : α → β → Int) (b : List β) : ∀ a : List α, sm a (fun x => sm b (fun y => g x y)) = sm b (fun y => sm a (fun x => g x y))
  | [] => by rw [sm_nil]; exact (sm_zero b).symm
  | x :: a => by
    rw [sm_cons, sm_swap g b a, ← sm_add]
    rfl
theorem sm_congr {α : Type} {f g : α → Int} : ∀ {l : List α}, (∀ x, x ∈ l → f x = g x) → sm l f = sm l g
  | [], _ => rfl
  | x :: l, h => by rw [sm_cons, sm_cons, h x (List.mem_cons_self ..), sm_congr (fun y hy => h y (List.mem_cons_of_mem _ hy))]
theorem sm_le {α : Type} {f g : α → Int} : ∀ {l : List α}, (∀ x, x ∈ l → f x ≤ g x) → sm l f ≤ sm l g
  | [], _ => Int.le_refl _
  | x :: l, h => by
    have h1 := h x (List.mem_cons_self ..)
    have h2 := sm_le (fun y hy => h y (List.mem_cons_of_mem _ hy) : ∀ y, y ∈ l → f y ≤ g y)
    rw [sm_cons, sm_cons]
    omega
theorem sm_nonneg {α : Type} {f : α → Int} {l : List α} (h : ∀ x, x ∈ l → 0 ≤ f x) : 0 ≤ sm l f := by
  have := sm_le (f := fun _ => 0) h
  rw [sm_zero] at this
  exact this
theorem sm_one {α : Type} {f : α → Int} : ∀ {l : List α}, (∀ x, x ∈ l → 0 ≤ f x) → ∀ y, y ∈ l → f y ≤ sm l f
  | [], _, _, hy => nomatch hy
  | x :: l, h, y, hy => by
    have h1 := h x (List.mem_cons_self ..)
    have hr : ∀ z, z ∈ l → 0 ≤ f z := fun z hz => h z (List.mem_cons_of_mem _ hz)
    have h2 := sm_nonneg hr
    rw [sm_cons]
    rcases List.mem_cons.1 hy with rfl | hy
    · omega
    · have := sm_one hr y hy
      omega
theorem sm_bound {α : Type} {f : α → Int} (M : Int) : ∀ {l : List α}, (∀ x, x ∈ l → f x ≤ M) → sm l f ≤ M * (l.length : Int)
  | [], _ => by rw [sm_nil]; simp
  | x :: l, h => by
    have h1 := h x (List.mem_cons_self ..)
    have h2 := sm_bound M (fun y hy => h y (List.mem_cons_of_mem _ hy) : ∀ y, y ∈ l → f y ≤ M)
    rw [sm_cons, List.length_cons]
    have e : M * ((l.length + 1 : Nat) : Int) = M * (l.length : Int) + M := by
      rw [Int.natCast_add, Int.mul_add]
      simp
    rw [e]
    omega
theorem sm_filter {α : Type} (f : α → Int) (p : α → Bool) : ∀ l : List α, sm (l.filter p) f = sm l (fun x => if p x = true then f x else 0)
  | [] => rfl
  | x :: l => by
    rw [sm_cons, List.filter_cons]
    by_cases h : p x = true
    · rw [if_pos h, if_pos h, sm_cons, sm_filter f p l]
    · rw [if_neg h, if_neg h, sm_filter f p l]
      omega

/-! ### frames that are shared -/
def w1 (d : DI) : Int := d.f1 - d.f0
def gq (q : Bool → Bool) (x y : NI) : Int := if shareB q x y = true then mn x.f1 y.f1 - mx x.f0 y.f0 else 0
theorem in_sum (q : Bool → Bool) (n : NI) : ∀ y : List NI, sm (shareIn q n y) w1 = sm y (gq q n)
  | [] => rfl
  | m :: y => by
    rw [sm_cons, ← in_sum q n y]
    unfold shareIn
    rw [List.filterMap_cons]
    unfold share1 gq
    by_cases h : shareB q n m = true
    · rw [if_pos h, if_pos h]
      rfl
    · rw [if_neg h, if_neg h]
      exact (Int.zero_add _).symm
theorem share_sum (q : Bool → Bool) (y : List NI) : ∀ x : List NI, sm (share q x y) w1 = sm x (fun n => sm y (gq q n))
  | [] => rfl
  | n :: x => by
    rw [sm_cons, ← share_sum q y x, ← in_sum, ← sm_app]
    unfold share
    rw [List.flatMap_cons]
theorem mx_comm (a b : Int) : mx a b = mx b a := by unfold mx; split <;> split <;> omega
theorem mn_comm (a b : Int) : mn a b = mn b a := by unfold mn; split <;> split <;> omega
theorem gq_comm (q : Bool → Bool) (x y : NI) : gq q x y = gq q y x := by
  unfold gq shareB
  rw [mx_comm x.f0, mn_comm x.f1, show (x.f2.toList == y.f2.toList) = (y.f2.toList == x.f2.toList) from Bool.eq_iff_iff.2 (by rw [beq_iff_eq, beq_iff_eq]; exact eq_comm)]
theorem gq_nonneg (q : Bool → Bool) (x y : NI) : 0 ≤ gq q x y := by
  unfold gq shareB
  split
  · rename_i h
    rw [Bool.and_eq_true, decide_eq_true_eq] at h
    omega
  · exact Int.le_refl _
theorem sum_comm (q : Bool → Bool) (x y : List NI) : sm (share q x y) w1 = sm (share q y x) w1 := by
  rw [share_sum, share_sum, sm_swap]
  exact sm_congr (fun n _ => sm_congr (fun m _ => gq_comm q m n))
/-- What stands in a shared span. -/
theorem share_mem {q : Bool → Bool} {x y : List NI} {d : DI} (h : d ∈ share q x y) : ∃ n, n ∈ x ∧ ∃ m, m ∈ y ∧ mx n.f0 m.f0 < mn n.f1 m.f1 ∧ q (n.f2.toList == m.f2.toList) = true ∧ d = ⟨mx n.f0 m.f0, mn n.f1 m.f1⟩ := by
  obtain ⟨n, hn, h⟩ := List.mem_flatMap.1 h
  obtain ⟨m, hm, h⟩ := List.mem_filterMap.1 h
  unfold share1 at h
  split at h
  · rename_i hs
    unfold shareB at hs
    rw [Bool.and_eq_true, decide_eq_true_eq] at hs
    exact ⟨n, hn, m, hm, hs.1, hs.2, (Option.some.inj h).symm⟩
  · cases h
theorem note_of {l : List NI} (h : tierB l = true) {n : NI} (hn : n ∈ l) : 0 ≤ n.f0 ∧ n.f0 < n.f1 ∧ n.f1 ≤ 99999 := by
  obtain ⟨i, hi, rfl⟩ := List.mem_iff_getElem.1 hn
  have := note_in (tier_at h hi).1
  rw [atN_eq l i hi] at this
  exact this
theorem span_of {q : Bool → Bool} {x y : List NI} (hx : tierB x = true) (hy : tierB y = true) {d : DI} (h : d ∈ share q x y) : 0 ≤ d.f0 ∧ d.f0 < d.f1 ∧ d.f1 ≤ 99999 := by
  obtain ⟨n, hn, m, hm, h1, -, rfl⟩ := share_mem h
  have h2 := note_of hx hn
  have h3 := note_of hy hm
  have h4 : mn n.f1 m.f1 ≤ n.f1 := by unfold mn; split <;> omega
  have h5 : n.f0 ≤ mx n.f0 m.f0 := by unfold mx; split <;> omega
  exact ⟨by show 0 ≤ mx n.f0 m.f0; omega, h1, by show mn n.f1 m.f1 ≤ 99999; omega⟩
theorem fold_sum : ∀ (l : List DI) (s : Int), (∀ d, d ∈ l → 0 ≤ d.f0 ∧ d.f0 < d.f1 ∧ d.f1 ≤ 99999) → 0 ≤ s → s + 100000 * (l.length : Int) ≤ 4611686018427387904 → l.foldl (fun s d => wrap64 (s + wrap64 (d.f1 - d.f0))) s = s + sm l w1
  | [], s, _, _, _ => by rw [sm_nil, List.foldl_nil]; omega
  | d :: l, s, h, h0, h1 => by
    have hd := h d (List.mem_cons_self ..)
    rw [List.length_cons] at h1
    have e1 : wrap64 (d.f1 - d.f0) = d.f1 - d.f0 := wrap_in (by omega) (by omega)
    have e2 : wrap64 (s + (d.f1 - d.f0)) = s + (d.f1 - d.f0) := wrap_in (by omega) (by omega)
    rw [List.foldl_cons, e1, e2, fold_sum l _ (fun x hx => h x (List.mem_cons_of_mem _ hx)) (by omega) (by omega), sm_cons]
    show _ = s + (d.f1 - d.f0 + _)
    omega
theorem fr_sum (q : Bool → Bool) {x y : List NI} (hx : tierB x = true) (hy : tierB y = true) : fr (share q x y) = sm (share q x y) w1 := by
  have h := share_bound q x y (tier_short hx) (tier_short hy)
  have := fold_sum (share q x y) 0 (fun d hd => span_of hx hy hd) (Int.le_refl _) (by omega)
  rw [Int.zero_add] at this
  exact this
theorem fr_comm (q : Bool → Bool) {x y : List NI} (hx : tierB x = true) (hy : tierB y = true) : fr (share q y x) = fr (share q x y) := by
  rw [fr_sum q hx hy, fr_sum q hy hx, sum_comm]
theorem fr_zero (q : Bool → Bool) {x y : List NI} (hx : tierB x = true) (hy : tierB y = true) : decide (fr (share q x y) > 0) = decide (share q x y ≠ []) := by
  rw [fr_sum q hx hy]
  have hp : ∀ d, d ∈ share q x y → 0 < w1 d := fun d hd => by
    have := (span_of hx hy hd).2.1
    unfold w1
    omega
  generalize share q x y = l at hp
  cases l with
  | nil => rfl
  | cons d l =>
    have h1 := hp d (List.mem_cons_self ..)
    have h2 := sm_nonneg (l := l) (fun z hz => Int.le_of_lt (hp z (List.mem_cons_of_mem _ hz)))
    rw [sm_cons, decide_eq_true (by omega), decide_eq_true (by simp)]
/-- The frames of the common notes are agreed on. -/
def cmn (x y : List NI) : List NI := x.filter (fun n => hasB y n == true)
def w2 (n : NI) : Int := n.f1 - n.f0
theorem common_le {x y : List NI} (hx : tierB x = true) (hy : tierB y = true) : sm (cmn x y) w2 ≤ fr (share yesQ x y) := by
  rw [fr_sum yesQ hx hy, share_sum]
  unfold cmn
  rw [sm_filter]
  refine sm_le (fun n hn => ?_)
  by_cases h : (hasB y n == true) = true
  · rw [if_pos h]
    have hm := (hasB_iff y n).1 (beq_iff_eq.1 h)
    have h1 := sm_one (fun m _ => gq_nonneg yesQ n m : ∀ m, m ∈ y → 0 ≤ gq yesQ n m) n hm
    have hb := note_of hx hn
    have e1 : mx n.f0 n.f0 = n.f0 := by unfold mx; split <;> rfl
    have e2 : mn n.f1 n.f1 = n.f1 := by unfold mn; split <;> rfl
    have e : gq yesQ n n = w2 n := by
      unfold gq shareB
      rw [e1, e2, if_pos]
      · rfl
      · rw [Bool.and_eq_true, decide_eq_true_eq]
        exact ⟨hb.2.1, by unfold yesQ; exact beq_iff_eq.2 rfl⟩
    rw [e] at h1
    exact h1
  · rw [if_neg h]
    exact sm_nonneg (fun m _ => gq_nonneg yesQ n m)
theorem parts_len (x y : List NI) : (x.filter (fun n => hasB y n == true)).length + (x.filter (fun n => hasB y n == false)).length = x.length := by
  induction x with
  | nil => rfl
  | cons n x ih =>
    rw [List.filter_cons, List.filter_cons]
    cases h : hasB y n with
    | true =>
      rw [if_pos (by rfl), if_neg (by decide)]
      simp only [List.length_cons]
      omega
    | false =>
      rw [if_neg (by decide), if_pos (by rfl)]
      simp only [List.length_cons]
      omega

/-! ### the note at a frame -/
theorem at_note {l : List NI} (h : tierB l = true) {n : NI} (hn : n ∈ l) {f : Int} (h0 : n.f0 ≤ f) (h1 : f < n.f1) : ∃ i : Nat, i < l.length ∧ noteAtR l f = ((i : Int), true) ∧ atN l i = n := by
  obtain ⟨i, hi, rfl⟩ := List.mem_iff_getElem.1 hn
  have hb := note_of h (List.getElem_mem hi)
  have hit : ∀ m : NI, yAm.p f m = true ↔ m.f0 ≤ f ∧ f ≤ wrap64 (m.f1 - 1) := fun m => by
    show decide (m.f0 ≤ f ∧ f ≤ wrap64 (m.f1 - 1)) = true ↔ _
    rw [decide_eq_true_eq]
  have w : ∀ j, j < l.length → wrap64 ((atN l j).f1 - 1) = (atN l j).f1 - 1 := fun j hj => by
    have := note_of h (atN_mem hj)
    exact wrap_in (by omega) (by omega)
  have e := atN_eq l i hi
  have key : idxOf (yAm.p f) l = (i : Int) := by
    refine idxOf_hit z58 hi ?_ ?_
    · show yAm.p f (atN l i) = true
      rw [hit, w i hi, e]
      omega
    · intro j hj
      show yAm.p f (atN l j) = false
      rw [← Bool.not_eq_true, hit, w j (by omega)]
      have := MJoin.tier_before h hj hi
      rw [e] at this
      omega
  refine ⟨i, hi, ?_, e⟩
  unfold noteAtR
  rw [key, if_pos ⟨h, by unfold frameB; rw [decide_eq_true_eq]; omega, Int.natCast_nonneg i⟩]
/-- What the first dispute is. -/
theorem first_of {x y : List NI} (hx : tierB x = true) (hy : tierB y = true) {d : DI} (hd : d ∈ share notQ x y) : ∃ i k : Nat, i < x.length ∧ k < y.length ∧ noteAtR x d.f0 = ((i : Int), true) ∧ noteAtR y d.f0 = ((k : Int), true) ∧ ¬ (atN x i).f2.toList = (atN y k).f2.toList := by
  obtain ⟨n, hn, m, hm, h1, h2, rfl⟩ := share_mem hd
  have h3 : n.f0 ≤ mx n.f0 m.f0 := by unfold mx; split <;> omega
  have h4 : m.f0 ≤ mx n.f0 m.f0 := by unfold mx; split <;> omega
  have h5 : mn n.f1 m.f1 ≤ n.f1 := by unfold mn; split <;> omega
  have h6 : mn n.f1 m.f1 ≤ m.f1 := by unfold mn; split <;> omega
  obtain ⟨i, hi, e1, e2⟩ := at_note hx hn (f := mx n.f0 m.f0) h3 (by omega)
  obtain ⟨k, hk, e3, e4⟩ := at_note hy hm (f := mx n.f0 m.f0) h4 (by omega)
  refine ⟨i, k, hi, hk, e1, e3, ?_⟩
  rw [e2, e4]
  intro he
  unfold notQ at h2
  rw [he] at h2
  simp at h2

/-! ### a tier merged with itself -/
theorem self_mrg {x : List NI} (h : tierB x = true) : MMrg.mrgP x x = x ∧ MConfL.cps x x = [] := by
  have hc := MJoin.tier_calm h
  have hk : MMrg.keep x x = x := by
    unfold MMrg.keep
    rw [List.filter_eq_self]
    intro n hn
    rw [MMrg.calm_clash hc hn]
    rfl
  refine ⟨?_, ?_⟩
  · unfold MMrg.mrgP
    rw [hk]
    have hf : MJoin.fresh x x = [] := by
      unfold MJoin.fresh
      rw [List.filter_eq_nil_iff]
      intro n hn
      rw [(hasB_iff x n).2 hn, Bool.not_true, Bool.false_and]
      decide
    rw [hf]
    rfl
  · rw [List.eq_nil_iff_forall_not_mem]
    intro q hq
    obtain ⟨a, k, ha, hk, hcf, -⟩ := (MConfL.mem_cps x x q).1 hq
    rw [hc _ (atN_mem ha) _ (atN_mem hk)] at hcf
    exact absurd hcf (by decide)
end Go.Proofs.Ytgapcmmhbegdeaa.MTP
end
section
/- MergeOver: what the reference and the program answer, in plain words (out of the pure text of the exact law). No condition. -/
namespace Go.Proofs.Ytgapcmmhbegdeaa.MCMergeOver
open Go.RowKit Go.Proofs.Ytgapcmmhbegdeaa.G Go.Proofs.YtgapcmmhbegdeaaW.PrintWords Go.Proofs.YtgapcmmhbegdeaaW.PrintLast Go.Proofs.Ytgapcmmhbegdeaa.MPure Go.Proofs.Ytgapcmmhbegdeaa.MWord Go.Proofs.Ytgapcmmhbegdeaa.MNote Go.Proofs.Ytgapcmmhbegdeaa.MSort Go.Proofs.Ytgapcmmhbegdeaa.MTier Go.Proofs.Ytgapcmmhbegdeaa.MJoin
open Go.Proofs.Ytgapcmmhbegdeaa.MHas (hasB meHas_)

theorem tier_len {l : List NI} (h : tierB l = true) : l.length ≤ 1000 := by
  unfold tierB at h
  simp only [Bool.and_eq_true, decide_eq_true_eq] at h
  omega
/-- What is kept of a tier. -/
def kept (base a b : List NI) : List NI := a.filter (fun n => !yAM.p base b n)
theorem meKept_ (base a b : List NI) (h0 : base.length ≤ 140737488351232) (ha : a.length ≤ 4398046511104) (hb : b.length ≤ 140737488351232) : Ev (fun k => yAe.f k base a b) (kept base a b) := by
  have key : ∀ d i : Nat, i + d = a.length → ∀ out : List NI, out.length ≤ i → Ev (fun k => yAe.l0 k base b out a (a.length : Int) (i : Int)) (out ++ kept base (a.drop i) b) := by
    intro d
    induction d with
    | zero =>
      intro i hi out _
      rw [List.drop_eq_nil_of_le (by omega)]
      exact Ev.step (fun _ => yAe.l0.eq_2 ..) (Ev.neg (by omega) (Ev.some (by simp [kept])))
    | succ d ih =>
      intro i hi out ho
      have e : rd_T58 a (i : Int) = a[i]'(by omega) := by
        show a.getD i z58 = _
        rw [List.getD_eq_getElem?_getD, List.getElem?_eq_getElem (by omega)]
        rfl
      rw [List.drop_eq_getElem_cons (show i < a.length by omega), ← e]
      have h1 := ih (i + 1) (by omega) out (by omega)
      have h2 := ih (i + 1) (by omega) (out ++ [rd_T58 a (i : Int)]) (by rw [List.length_append]; simp; omega)
      rw [← wrap_succ (by omega)] at h1 h2
      rw [List.append_assoc, List.singleton_append] at h2
      have k1 : yAM.p base b (rd_T58 a (i : Int)) = true → kept base (rd_T58 a (i : Int) :: a.drop (i + 1)) b = kept base (a.drop (i + 1)) b := fun h => by
        unfold kept
        rw [List.filter_cons, if_neg (by rw [h]; simp)]
      have k2 : yAM.p base b (rd_T58 a (i : Int)) = false → kept base (rd_T58 a (i : Int) :: a.drop (i + 1)) b = rd_T58 a (i : Int) :: kept base (a.drop (i + 1)) b := fun h => by
        unfold kept
        rw [List.filter_cons, if_pos (by rw [h]; rfl)]
      have hp : yAM.p base b (rd_T58 a (i : Int)) = (hasB base (rd_T58 a (i : Int)) && !hasB b (rd_T58 a (i : Int))) := rfl
      have yes : Ev (fun k => yAe.j1 k base b out a (a.length : Int) (i : Int) true (rd_T58 a (i : Int)).f0 (rd_T58 a (i : Int)).f1 (rd_T58 a (i : Int)).f2) (out ++ rd_T58 a (i : Int) :: kept base (a.drop (i + 1)) b) := Ev.step (fun _ => yAe.j1.eq_2 ..) (Ev.pos rfl (Ev.pos (by omega) h2))
      have no : Ev (fun k => yAe.j1 k base b out a (a.length : Int) (i : Int) false (rd_T58 a (i : Int)).f0 (rd_T58 a (i : Int)).f1 (rd_T58 a (i : Int)).f2) (out ++ kept base (a.drop (i + 1)) b) := Ev.step (fun _ => yAe.j1.eq_2 ..) (Ev.neg (by decide) h1)
      refine Ev.step (fun _ => yAe.l0.eq_2 ..) (Ev.pos (by omega) (Ev.pos (by omega) (Ev.pos (by omega) (Ev.bind (meHas_ base h0 _) (Ev.ite (fun he => Ev.bind (meHas_ b hb _) ?_) (fun he => ?_))))))
      · cases hf : hasB b (rd_T58 a (i : Int)) with
        | true =>
          rw [k2 (by rw [hp, he, hf]; rfl)]
          exact yes
        | false =>
          rw [k1 (by rw [hp, he, hf]; rfl)]
          exact no
      · rw [k2 (by rw [hp, Bool.eq_false_iff.2 he]; rfl)]
        exact yes
  have h := key a.length 0 (by omega) [] (Nat.zero_le _)
  rw [List.nil_append, List.drop_zero] at h
  exact h
theorem kept_length (base a b : List NI) : (kept base a b).length ≤ a.length := List.length_filter_le _ _
theorem merged2_ (x y : List NI) (sx : Srt x 0 x.length) (cy : MJoin.Calm y) (kx : KB x) (ky : KB y) (zx : Sized x) (zy : Sized y) (lx : x.length ≤ 1000) (ly : y.length ≤ 1000) : ∃ (r : List NI) (c : List (List Int)) (q : Bool), (r.length ≤ 2000 ∧ c.length ≤ 1000000 ∧ (∀ z, z ∈ c → z.length = 2) ∧ Sized r ∧ (q = true → tierB r = true)) ∧
    Ev (fun k => (yBP.f k x y).bind fun bt => if bt.2 = true then ((yAT.f k x y).bind fun t => some (bt.1, t, true)) else some (([] : List NI), ([] : List (List Int)), false)) (r, c, q) ∧ Ev (fun k => yBO.f k x y) (r, c, q) := by
  obtain ⟨p, hpe, p1, p2, p3, p4⟩ := merge_ x y sx cy kx ky zx zy lx ly
  obtain ⟨c, c1, c2, c3, c4⟩ := MConf.pairs_ x y lx ly
  have zp : Sized p := ⟨by omega, fun n hn => by
    rw [hpe] at hn
    rcases List.mem_append.1 ((puts_perm _ _).mem_iff.1 hn) with h | h
    · exact zx.2 n (List.mem_filter.1 h).1
    · exact zy.2 n (List.mem_filter.1 (fresh_mem h)).1⟩
  have h3 := peaceful_ x y (by omega)
  have h4 := addedTo_ x y (by omega)
  rw [h3, h4] at p3
  have p5 := Option.some.inj p3
  rw [← p5] at p4
  have hl1 : (x.filter (fun n => !clashB y n)).length ≤ x.length := List.length_filter_le _ _
  have hl2 : ((y.filter (fun n => !clashB x n)).filter (fun n => !hasB x n)).length ≤ y.length := Nat.le_trans (List.length_filter_le _ _) (List.length_filter_le _ _)
  unfold yBO.f
  cases ht : tierB p with
  | true =>
    have e : tierOr p = (p, true) := by unfold tierOr; rw [if_pos ht]
    rw [e] at p2 p4
    exact ⟨p, c, true, ⟨p1, c1, c2, zp, fun _ => ht⟩, Ev.bind p2 (Ev.pos rfl (Ev.bind c3 (Ev.some rfl))), Ev.have h3 (Ev.have h4 (Ev.pos (by omega) (Ev.bind p4 (Ev.pos rfl (Ev.bind c4 (Ev.some rfl))))))⟩
  | false =>
    have e : tierOr p = ([], false) := by unfold tierOr; rw [if_neg (by rw [ht]; simp)]
    rw [e] at p2 p4
    exact ⟨[], [], false, ⟨Nat.zero_le _, Nat.zero_le _, (fun z h => nomatch h), ⟨Nat.zero_le _, fun n h => nomatch h⟩, fun h => nomatch h⟩, Ev.bind p2 (Ev.neg (by simp) (Ev.some rfl)), Ev.have h3 (Ev.have h4 (Ev.pos (by omega) (Ev.bind p4 (Ev.neg (by simp) (Ev.some rfl)))))⟩
theorem Over_ (base a b : List NI) (h0 : Sized base) (ha : Sized a) (hb : Sized b) : ∃ (r : List NI) (c : List (List Int)) (q : Bool), (r.length ≤ 2000 ∧ c.length ≤ 1000000 ∧ (∀ z, z ∈ c → z.length = 2) ∧ Sized r ∧ (q = true → tierB r = true ∧ tierB a = true)) ∧ Ev (fun k => yAn.f k base a b) (r, c, q) ∧ Ev (fun k => yAM.f k base a b) (r, c, q) := by
  unfold yAn.f yAM.f
  have t0 := tiGood_ base h0
  have t1 := MHas.meBoth_ a b ha hb
  have i0 := IsTier_ base h0
  have i1 := IsTier_ a ha
  have i2 := IsTier_ b hb
  cases e0 : tierB base with
  | false =>
    rw [e0] at t0 i0
    exact ⟨[], [], false, ⟨Nat.zero_le _, Nat.zero_le _, (fun z h => nomatch h), ⟨Nat.zero_le _, fun n h => nomatch h⟩, fun h => nomatch h⟩, Ev.bind t0 (Ev.neg (by simp) (Ev.step (fun _ => yAn.j0.eq_2 ..) (Ev.pos rfl (Ev.some rfl)))), Ev.bind i0 (Ev.neg (by simp) (Ev.some rfl))⟩
  | true =>
    rw [e0] at t0 i0
    cases e1 : tierB a with
    | false =>
      rw [e1] at t1 i1
      exact ⟨[], [], false, ⟨Nat.zero_le _, Nat.zero_le _, (fun z h => nomatch h), ⟨Nat.zero_le _, fun n h => nomatch h⟩, fun h => nomatch h⟩, Ev.bind t0 (Ev.pos rfl (Ev.bind t1 (Ev.step (fun _ => yAn.j0.eq_2 ..) (Ev.pos (by simp) (Ev.some rfl))))), Ev.bind i0 (Ev.pos rfl (Ev.bind i1 (Ev.neg (by simp) (Ev.some rfl))))⟩
    | true =>
      rw [e1] at t1 i1
      cases e2 : tierB b with
      | false =>
        rw [e2] at t1 i2
        exact ⟨[], [], false, ⟨Nat.zero_le _, Nat.zero_le _, (fun z h => nomatch h), ⟨Nat.zero_le _, fun n h => nomatch h⟩, fun h => nomatch h⟩, Ev.bind t0 (Ev.pos rfl (Ev.bind t1 (Ev.step (fun _ => yAn.j0.eq_2 ..) (Ev.pos (by simp) (Ev.some rfl))))), Ev.bind i0 (Ev.pos rfl (Ev.bind i1 (Ev.pos rfl (Ev.bind i2 (Ev.neg (by simp) (Ev.some rfl))))))⟩
      | true =>
        rw [e2] at t1 i2
        have n1 := tier_len e1
        have n2 := tier_len e2
        have l1 := kept_length base a b
        have l2 := kept_length base b a
        obtain ⟨r, c, q, ⟨r1, c1, c2, z2, ht⟩, r2, r3⟩ := merged2_ (kept base a b) (kept base b a) (srt_filter (tier_srt e1) _) (calm_filter (tier_calm e2) _) (KB_filter (tier_KB e1) _) (KB_filter (tier_KB e2) _) (sized_filter ha _) (sized_filter hb _) (by omega) (by omega)
        have b0 := h0.1
        have m1 := meKept_ base a b (by omega) (by omega) (by omega)
        have m2 := meKept_ base b a (by omega) (by omega) (by omega)
        exact ⟨r, c, q, ⟨r1, c1, c2, z2, fun h => ⟨ht h, rfl⟩⟩, Ev.bind t0 (Ev.pos rfl (Ev.bind t1 (Ev.step (fun _ => yAn.j0.eq_2 ..) (Ev.neg (by simp) (Ev.bind m1 (Ev.bind m2 r2)))))), Ev.bind i0 (Ev.pos rfl (Ev.bind i1 (Ev.pos rfl (Ev.bind i2 (Ev.pos rfl (Ev.pos (by omega) r3))))))⟩
/-- A tier merged with itself over itself. -/
theorem self_ (x : List NI) (hx : Sized x) (h : tierB x = true) : Ev (fun k => yAM.f k x x x) (x, [], true) := by
  have hk : kept x x x = x := by
    unfold kept
    rw [List.filter_eq_self]
    intro n _
    show (!(hasB x n && !hasB x n)) = true
    cases hasB x n <;> rfl
  have hm := (MMrg.mergedC_ x x h h hx hx).2
  obtain ⟨e1, e2⟩ := MTP.self_mrg h
  rw [e1, e2] at hm
  have eo : out3 x [] = (x, [], true) := by unfold out3; rw [if_pos h]
  rw [eo] at hm
  have hm2 : Ev (fun k => yBO.f k (kept x x x) (kept x x x)) (x, [], true) := by rw [hk]; exact hm
  have i0 := Ev.eq (IsTier_ x hx) h
  have n1 := tier_len h
  have l1 := kept_length x x x
  unfold yAM.f
  exact Ev.bind i0 (Ev.pos rfl (Ev.bind i0 (Ev.pos rfl (Ev.bind i0 (Ev.pos rfl (Ev.pos (by omega) hm2))))))
end Go.Proofs.Ytgapcmmhbegdeaa.MCMergeOver
end
section
/- OnlyIn: what the reference and the program answer, in plain words (out of the pure text of the exact law). No condition. -/
namespace Go.Proofs.Ytgapcmmhbegdeaa.MCOnlyIn
open Go.RowKit Go.Proofs.Ytgapcmmhbegdeaa.G Go.Proofs.YtgapcmmhbegdeaaW.PrintWords Go.Proofs.YtgapcmmhbegdeaaW.PrintLast Go.Proofs.Ytgapcmmhbegdeaa.MPure Go.Proofs.Ytgapcmmhbegdeaa.MWord Go.Proofs.Ytgapcmmhbegdeaa.MNote Go.Proofs.Ytgapcmmhbegdeaa.MHas Go.Proofs.Ytgapcmmhbegdeaa.MPart

def parR (l m : List NI) : List NI × Bool := if (tierB l && tierB m) = true then (l.filter (fun x => hasB m x == false), true) else ([], false)
theorem par_s (l m : List NI) (hl : Sized l) (hm : Sized m) : Ev (fun k => yBR.f k l m) (parR l m) := by
  unfold yBR.f parR
  refine Ev.bind (meBoth_ l m hl hm) (Ev.ite (fun h => ?_) (fun h => Ev.some (by rw [if_neg h])))
  rw [if_pos h]
  rw [Bool.and_eq_true] at h
  have h1 := tier_length h.1
  have h2 := tier_length h.2
  exact Ev.bind (mePart_ l m (by omega) (by omega) false) (Ev.some rfl)
theorem par_i (l m : List NI) (hl : Sized l) (hm : Sized m) : Ev (fun k => yAj.f k l m) (parR l m) := by
  unfold yAj.f parR
  refine Ev.bind (IsTier_ l hl) (Ev.ite (fun h => ?_) (fun h => Ev.some (by simp [h])))
  refine Ev.bind (IsTier_ m hm) (Ev.ite (fun h2 => ?_) (fun h2 => Ev.some (by simp [h2])))
  have h1 := tier_length h
  refine Ev.pos (by omega) (Ev.some ?_)
  rw [h, h2]
  have e : (fun x => !yAj.p m x) = (fun x => hasB m x == false) := funext fun x => by
    show (!(hasB m x)) = _
    cases hasB m x <;> rfl
  rw [e]
  rfl
theorem parR_length (l m : List NI) : (parR l m).1.length ≤ l.length := by
  unfold parR
  split
  · exact List.length_filter_le _ _
  · exact Nat.zero_le _
end Go.Proofs.Ytgapcmmhbegdeaa.MCOnlyIn
end
section
/- What the laws draw: every cursor's function answers, and what it answers. No condition. -/
namespace Go.Proofs.Ytgapcmmhbegdeaa.MDraw
open Go.RowKit Go.Proofs.Ytgapcmmhbegdeaa.G Go.Proofs.YtgapcmmhbegdeaaW.PrintWords Go.Proofs.YtgapcmmhbegdeaaW.PrintLast Go.Proofs.Ytgapcmmhbegdeaa.MPure

/-- The bytes that come in. -/
def Bytes (s : List Int) : Prop := ∀ a, a ∈ s → (Lit.int .u8 a).wf = true
theorem Bytes.at {s : List Int} (h : Bytes s) (i : Int) (h0 : 0 ≤ i) (h1 : i < (s.length : Int)) : 0 ≤ rd s i ∧ rd s i ≤ 255 := by
  have hm : rd s i ∈ s := by
    show s.getD i.toNat 0 ∈ s
    rw [List.getD_eq_getElem?_getD, List.getElem?_eq_getElem (show i.toNat < s.length by omega)]
    exact List.getElem_mem _
  have := h _ hm
  simp only [Lit.wf, Bool.and_eq_true, decide_eq_true_eq] at this
  exact this
theorem and_255 (x : Int) : 0 ≤ Go.bits .and .u64 x 255 ∧ Go.bits .and .u64 x 255 ≤ 255 := by
  have h : ((BitVec.ofInt IntKind.u64.bits x) &&& (BitVec.ofInt IntKind.u64.bits 255)).toNat ≤ 255 := by
    rw [BitVec.toNat_and]
    exact Nat.le_trans Nat.and_le_right (by decide)
  unfold Go.bits
  simp only
  generalize ((BitVec.ofInt IntKind.u64.bits x) &&& (BitVec.ofInt IntKind.u64.bits 255)).toNat = n at h
  have e : IntKind.u64.wrap (n : Int) = (n : Int) := by
    have h1 : (0 : Int) ≤ n := by omega
    have h2 : (n : Int) ≤ 255 := by omega
    generalize (n : Int) = z at h1 h2
    unfold IntKind.wrap
    simp [IntKind.signed, IntKind.bits]
    omega
  rw [e]
  omega
theorem next_ (s : List Int) (hs : Bytes s) (a d : Int) (h0 : 0 ≤ a) (h1 : a ≤ 1000000000000000) : ∃ v d', yA7.f s a d = some (v, a + 1, d') ∧ 0 ≤ v ∧ v ≤ 255 := by
  have hw : wrap64 (a + 1) = a + 1 := wrap_in (by omega) (by omega)
  unfold yA7.f
  rw [hw]
  split
  · rename_i h
    have hr := hs.at a h0 h
    have hv : wrap64 (rd s a) = rd s a := wrap_in (by omega) (by omega)
    rw [if_pos (by omega), hv]
    exact ⟨_, _, rfl, hr.1, hr.2⟩
  · split
    · exact ⟨_, _, rfl, by omega, by omega⟩
    · have hb := and_255 ((IntKind.u64.wrap ((IntKind.u64.wrap ((IntKind.u64.wrap (d * 6364136223846793005)) + 0)) + 1442695040888963407)) / 1099511627776)
      refine ⟨_, _, rfl, ?_, ?_⟩
      · rw [wrap_in (by omega) (by omega)]; exact hb.1
      · rw [wrap_in (by omega) (by omega)]; exact hb.2
theorem pick_ (s : List Int) (hs : Bytes s) (a d n : Int) (h0 : 0 ≤ a) (h1 : a ≤ 1000000000000) : ∃ v a' d', yAN.f s a d n = some (v, a', d') ∧ 0 ≤ v ∧ v ≤ 65535 ∧ (1 ≤ n → v < n) ∧ a ≤ a' ∧ a' ≤ a + 2 := by
  unfold yAN.f
  split
  · exact ⟨_, _, _, rfl, by omega, by omega, fun h => by omega, by omega, by omega⟩
  · rename_i hn
    obtain ⟨v, d1, e1, v0, v1⟩ := next_ s hs a d h0 (by omega)
    rw [e1]
    simp only [Option.bind_some]
    split
    · obtain ⟨u, d2, e2, u0, u1⟩ := next_ s hs (a + 1) d1 (by omega) (by omega)
      rw [e2]
      simp only [Option.bind_some]
      rw [if_neg (by omega), wrap_in (show -9223372036854775808 ≤ v * 256 by omega) (by omega), wrap_in (show -9223372036854775808 ≤ v * 256 + u by omega) (by omega)]
      have t0 := Int.tmod_nonneg n (show 0 ≤ v * 256 + u by omega)
      have t1 := Int.tmod_lt_of_pos (v * 256 + u) (show 0 < n by omega)
      have t2 : Int.tmod (v * 256 + u) n ≤ v * 256 + u := by
        rw [Int.tmod_eq_emod_of_nonneg (by omega)]
        have := Int.mul_ediv_add_emod (v * 256 + u) n
        have h3 : 0 ≤ (v * 256 + u) / n := Int.ediv_nonneg (by omega) (by omega)
        have h4 : 0 ≤ n * ((v * 256 + u) / n) := Int.mul_nonneg (by omega) h3
        omega
      exact ⟨_, _, _, rfl, t0, by omega, fun _ => t1, by omega, by omega⟩
    · rw [if_neg (by omega)]
      have t0 := Int.tmod_nonneg n v0
      have t1 := Int.tmod_lt_of_pos v (show 0 < n by omega)
      have t2 : Int.tmod v n ≤ v := by
        rw [Int.tmod_eq_emod_of_nonneg v0]
        have := Int.mul_ediv_add_emod v n
        have h3 : 0 ≤ v / n := Int.ediv_nonneg v0 (by omega)
        have h4 : 0 ≤ n * (v / n) := Int.mul_nonneg (by omega) h3
        omega
      exact ⟨_, _, _, rfl, t0, by omega, fun _ => t1, by omega, by omega⟩
theorem one_ (s : List Int) (hs : Bytes s) (a d n : Int) (h0 : 0 ≤ a) (h1 : a ≤ 1000000000000) : ∃ v a' d', yAr.f s a d n = some (v, a', d') ∧ a ≤ a' ∧ a' ≤ a + 2 := by
  obtain ⟨v, a', d', e, _, _, _, g1, g2⟩ := pick_ s hs a d n h0 h1
  unfold yAr.f
  rw [e]
  exact ⟨_, _, _, rfl, g1, g2⟩
theorem among_ (s : List Int) (hs : Bytes s) (a d : Int) (l : List Int) (hl : 0 < l.length) (h0 : 0 ≤ a) (h1 : a ≤ 1000000000000) : ∃ v a' d', yAQ.f s a d l = some (v, a', d') ∧ v ∈ l ∧ a ≤ a' ∧ a' ≤ a + 2 := by
  obtain ⟨v, a', d', e, v0, _, v1, g1, g2⟩ := pick_ s hs a d (l.length : Int) h0 h1
  have hv := v1 (by omega)
  unfold yAQ.f
  rw [e]
  simp only [Option.bind_some]
  rw [if_pos v0, if_pos hv]
  refine ⟨_, _, _, rfl, ?_, g1, g2⟩
  show l.getD v.toNat 0 ∈ l
  rw [List.getD_eq_getElem?_getD, List.getElem?_eq_getElem (show v.toNat < l.length by omega)]
  exact List.getElem_mem _
theorem of_ (s : List Int) (hs : Bytes s) (a d : Int) (l : List ByteArray) (hl : 0 < l.length) (h0 : 0 ≤ a) (h1 : a ≤ 1000000000000) : ∃ v a' d', yAl.f s a d l = some (v, a', d') ∧ v ∈ l ∧ a ≤ a' ∧ a' ≤ a + 2 := by
  obtain ⟨v, a', d', e, v0, _, v1, g1, g2⟩ := pick_ s hs a d (l.length : Int) h0 h1
  have hv := v1 (by omega)
  unfold yAl.f
  rw [e]
  simp only [Option.bind_some]
  rw [if_pos v0, if_pos hv]
  refine ⟨_, _, _, rfl, ?_, g1, g2⟩
  show l.getD v.toNat ByteArray.empty ∈ l
  rw [List.getD_eq_getElem?_getD, List.getElem?_eq_getElem (show v.toNat < l.length by omega)]
  exact List.getElem_mem _
/-- A number of the machine. -/
def I64 (z : Int) : Prop := -9223372036854775808 ≤ z ∧ z ≤ 9223372036854775807
theorem wrap_i64 (z : Int) : I64 (wrap64 z) := by unfold I64 wrap64; omega
end Go.Proofs.Ytgapcmmhbegdeaa.MDraw
end
section
/- The drawn tiers: every draw answers with notes that are sized. No condition. -/
namespace Go.Proofs.Ytgapcmmhbegdeaa.MDrawT
open Go.RowKit Go.Proofs.Ytgapcmmhbegdeaa.G Go.Proofs.YtgapcmmhbegdeaaW.PrintWords Go.Proofs.YtgapcmmhbegdeaaW.PrintLast Go.Proofs.Ytgapcmmhbegdeaa.MPure Go.Proofs.Ytgapcmmhbegdeaa.MWord Go.Proofs.Ytgapcmmhbegdeaa.MNote Go.Proofs.Ytgapcmmhbegdeaa.MDraw

theorem note_ (s : List Int) (hs : Bytes s) (a d f : Int) (h0 : 0 ≤ a) (h1 : a ≤ 100000000000) : ∃ x y g a' d', yBF.f s a d f = some (x, y, g, a', d') ∧ g.size ≤ 100 ∧ a ≤ a' ∧ a' ≤ a + 10 := by
  obtain ⟨v1, a1, d1, e1, m1, p1, q1⟩ := among_ s hs a d [1, 5, 8, 20] (by decide) h0 (by omega)
  obtain ⟨v2, a2, d2, e2, m2, p2, q2⟩ := of_ s hs a1 d1 [(⟨#[72, 79, 85, 83, 69]⟩ : ByteArray), (⟨#[71, 79]⟩ : ByteArray), (⟨#[73]⟩ : ByteArray), (⟨#[89, 79, 85]⟩ : ByteArray), (⟨#[71, 79]⟩ : ByteArray), (⟨#[71, 73, 86, 69]⟩ : ByteArray), (⟨#[66, 79, 79, 75]⟩ : ByteArray)] (by decide) (by omega) (by omega)
  obtain ⟨v3, a3, d3, e3, _, _, _, p3, q3⟩ := pick_ s hs a2 d2 60 (by omega) (by omega)
  have hg : v2.size ≤ 100 := by
    simp only [List.mem_cons, List.not_mem_nil, or_false] at m2
    rcases m2 with rfl | rfl | rfl | rfl | rfl | rfl | rfl <;> decide
  unfold yBF.f
  rw [e1]; simp only [Option.bind_some]; rw [e2]; simp only [Option.bind_some]; rw [e3]; simp only [Option.bind_some]
  split
  · obtain ⟨v4, a4, d4, e4, m4, p4, q4⟩ := among_ s hs a3 d3 [f, wrap64 (f - 1), 100000] (by simp) (by omega) (by omega)
    rw [e4]
    exact ⟨_, _, _, _, _, rfl, hg, by show a ≤ a4; omega, by show a4 ≤ a + 10; omega⟩
  · split
    · obtain ⟨v4, a4, d4, e4, m4, p4, q4⟩ := of_ s hs a3 d3 [(⟨#[]⟩ : ByteArray), (⟨#[103, 111]⟩ : ByteArray), (⟨#[78, 73, 78, 69, 76, 69, 84, 84, 82]⟩ : ByteArray)] (by decide) (by omega) (by omega)
      rw [e4]
      refine ⟨_, _, _, _, _, rfl, ?_, by show a ≤ a4; omega, by show a4 ≤ a + 10; omega⟩
      simp only [List.mem_cons, List.not_mem_nil, or_false] at m4
      show v4.size ≤ 100
      rcases m4 with rfl | rfl | rfl <;> decide
    · split
      · obtain ⟨v4, a4, d4, e4, m4, p4, q4⟩ := among_ s hs a3 d3 [(-1), (-9223372036854775808)] (by decide) (by omega) (by omega)
        rw [e4]
        exact ⟨_, _, _, _, _, rfl, hg, by show a ≤ a4; omega, by show a4 ≤ a + 10; omega⟩
      · exact ⟨_, _, _, _, _, rfl, hg, by show a ≤ a3; omega, by show a3 ≤ a + 10; omega⟩
/-- Notes with short texts. -/
def Short (l : List NI) : Prop := ∀ x, x ∈ l → x.f2.size ≤ 100
theorem Short.sized {l : List NI} (h : Short l) (hl : l.length ≤ 100) : Sized l := ⟨by omega, fun x hx => Nat.le_trans (h x hx) (by decide)⟩
theorem Short.snoc {l : List NI} (h : Short l) {x : NI} (hx : x.f2.size ≤ 100) : Short (l ++ [x]) := fun y hy => by
  rcases List.mem_append.1 hy with hy | hy
  · exact h y hy
  · obtain rfl := List.mem_singleton.1 hy; exact hx
theorem most_ (a b : Int) : ∃ v, yAc.f a b = some v := by
  unfold yAc.f
  split <;> exact ⟨_, rfl⟩
theorem least_ (a b : Int) : ∃ v, yAp.f a b = some v := by
  unfold yAp.f
  split <;> exact ⟨_, rfl⟩
theorem tier_loop (s : List Int) (hs : Bytes s) : ∀ (n : Nat) (l : List NI) (f m a d : Int), l.length + n = m.toNat → m ≤ 60 → Short l → 0 ≤ a → a + 20 * n ≤ 10000000000 → ∃ r a' d', Ev (fun k => yAK.l0 k l f m s a d) (r, a', d') ∧ r.length ≤ l.length + n ∧ Short r ∧ a ≤ a' ∧ a' ≤ a + 20 * n := by
  intro n
  induction n with
  | zero =>
    intro l f m a d hl hm hS h0 h1
    exact ⟨l, a, d, Ev.step (fun _ => yAK.l0.eq_2 ..) (Ev.neg (by omega) (Ev.some rfl)), by omega, hS, by omega, by omega⟩
  | succ n ih =>
    intro l f m a d hl hm hS h0 h1
    obtain ⟨x, y, g, a1, d1, e1, hg, p1, q1⟩ := note_ s hs a d f h0 (by omega)
    have step : ∀ (b : Bool) (a2 d2 : Int), a1 ≤ a2 → a2 ≤ a1 + 2 → (b = true → 0 < l.length) → ∃ r a' d', Ev (fun k => yAK.j2 k l m (l.length : Int) b s a2 d2 x y g) (r, a', d') ∧ r.length ≤ l.length + (n + 1) ∧ Short r ∧ a ≤ a' ∧ a' ≤ a + 20 * ((n + 1 : Nat) : Int) := by
      intro b a2 d2 pa qa hb
      obtain ⟨v5, e5⟩ := most_ 0 y
      obtain ⟨v6, e6⟩ := least_ 90000 v5
      obtain ⟨v7, a7, d7, e7, _, p7, q7⟩ := among_ s hs a2 d2 [0, 0, 2, 5] (by decide) (by omega) (by omega)
      cases b with
      | true =>
        have hpos := hb rfl
        have hp := wrap_pred (i := l.length) hpos (by omega)
        have hmem : rd_T58 l ((l.length - 1 : Nat) : Int) ∈ l := by
          show l.getD (l.length - 1) z58 ∈ l
          rw [List.getD_eq_getElem?_getD, List.getElem?_eq_getElem (show l.length - 1 < l.length by omega)]
          exact List.getElem_mem _
        have hsm := hS _ hmem
        obtain ⟨r, a', d', er, hr, hSr, pr, qr⟩ := ih (l ++ [⟨x, y, (rd_T58 l ((l.length - 1 : Nat) : Int)).f2⟩]) (wrap64 (v6 + v7)) m a7 d7 (by rw [List.length_append]; show l.length + 1 + n = _; omega) hm (hS.snoc hsm) (by omega) (by omega)
        refine ⟨r, a', d', Ev.step (fun _ => yAK.j2.eq_2 ..) (Ev.pos rfl ?_), by rw [List.length_append] at hr; show r.length ≤ _; have : ([⟨x, y, (rd_T58 l ((l.length - 1 : Nat) : Int)).f2⟩] : List NI).length = 1 := rfl; omega, hSr, by omega, by omega⟩
        rw [hp]
        exact Ev.pos (by omega) (Ev.pos (by omega) (Ev.pos (by omega) (Ev.have e5 (Ev.have e6 (Ev.have e7 er)))))
      | false =>
        obtain ⟨r, a', d', er, hr, hSr, pr, qr⟩ := ih (l ++ [⟨x, y, g⟩]) (wrap64 (v6 + v7)) m a7 d7 (by rw [List.length_append]; show l.length + 1 + n = _; omega) hm (hS.snoc hg) (by omega) (by omega)
        refine ⟨r, a', d', Ev.step (fun _ => yAK.j2.eq_2 ..) (Ev.neg (by decide) ?_), by rw [List.length_append] at hr; have : ([⟨x, y, g⟩] : List NI).length = 1 := rfl; omega, hSr, by omega, by omega⟩
        exact Ev.pos (by omega) (Ev.have e5 (Ev.have e6 (Ev.have e7 er)))
    by_cases hpos : 0 < l.length
    · obtain ⟨b, a2, d2, e2, p2, q2⟩ := one_ s hs a1 d1 4 (by omega) (by omega)
      obtain ⟨r, a', d', er, hr, hSr, pr, qr⟩ := step b a2 d2 p2 q2 (fun _ => hpos)
      exact ⟨r, a', d', Ev.step (fun _ => yAK.l0.eq_2 ..) (Ev.pos (by omega) (Ev.have e1 (Ev.pos (by omega) (Ev.have e2 er)))), hr, hSr, pr, qr⟩
    · obtain ⟨r, a', d', er, hr, hSr, pr, qr⟩ := step false a1 d1 (by omega) (by omega) (fun h => (nomatch h))
      exact ⟨r, a', d', Ev.step (fun _ => yAK.l0.eq_2 ..) (Ev.pos (by omega) (Ev.have e1 (Ev.neg (by omega) er))), hr, hSr, pr, qr⟩
/-- A drawn tier: at most 41 notes with short texts. -/
theorem tier_ (s : List Int) (hs : Bytes s) (a d : Int) (h0 : 0 ≤ a) (h1 : a ≤ 1000000000) : ∃ r a' d', Ev (fun k => yAK.f k s a d) (r, a', d') ∧ r.length ≤ 60 ∧ Short r ∧ a ≤ a' ∧ a' ≤ a + 2000 := by
  obtain ⟨v1, a1, d1, e1, _, _, _, p1, q1⟩ := pick_ s hs a d 10 h0 (by omega)
  obtain ⟨v2, a2, d2, e2, v20, _, v21, p2, q2⟩ := pick_ s hs a1 d1 8 (by omega) (by omega)
  obtain ⟨b, a3, d3, e3, p3, q3⟩ := one_ s hs a2 d2 12 (by omega) (by omega)
  have hv2 := v21 (by omega)
  have go : ∀ (m a4 d4 : Int), 0 ≤ m → m ≤ 60 → a ≤ a4 → a4 ≤ a + 10 → ∃ r a' d', Ev (fun k => yAK.j0 k [] v1 m s a4 d4) (r, a', d') ∧ r.length ≤ 60 ∧ Short r ∧ a ≤ a' ∧ a' ≤ a + 2000 := by
    intro m a4 d4 hm0 hm pa qa
    obtain ⟨r, a', d', er, hr, hSr, pr, qr⟩ := tier_loop s hs m.toNat [] v1 m a4 d4 (by simp) hm (fun x hx => (nomatch hx)) (by omega) (by omega)
    exact ⟨r, a', d', Ev.step (fun _ => yAK.j0.eq_2 ..) er, by have : ([] : List NI).length = 0 := rfl; omega, hSr, by omega, by omega⟩
  cases b with
  | true =>
    obtain ⟨v4, a4, d4, e4, v40, _, v41, p4, q4⟩ := pick_ s hs a3 d3 2 (by omega) (by omega)
    have hv4 := v41 (by omega)
    obtain ⟨r, a', d', er, hr, hSr, pr, qr⟩ := go (wrap64 (40 + v4)) a4 d4 (by rw [wrap_in (by omega) (by omega)]; omega) (by rw [wrap_in (by omega) (by omega)]; omega) (by omega) (by omega)
    refine ⟨r, a', d', ?_, hr, hSr, pr, qr⟩
    unfold yAK.f
    exact Ev.have e1 (Ev.have e2 (Ev.have e3 (Ev.pos rfl (Ev.have e4 er))))
  | false =>
    obtain ⟨r, a', d', er, hr, hSr, pr, qr⟩ := go v2 a3 d3 v20 (by omega) (by omega) (by omega)
    refine ⟨r, a', d', ?_, hr, hSr, pr, qr⟩
    unfold yAK.f
    exact Ev.have e1 (Ev.have e2 (Ev.have e3 (Ev.neg (show ¬ false = true by decide) er)))
end Go.Proofs.Ytgapcmmhbegdeaa.MDrawT
end
section
/- Tiers that are drawn out of others: every draw answers with notes that are sized. No condition. -/
namespace Go.Proofs.Ytgapcmmhbegdeaa.MDrawC
open Go.RowKit Go.Proofs.Ytgapcmmhbegdeaa.G Go.Proofs.YtgapcmmhbegdeaaW.PrintWords Go.Proofs.YtgapcmmhbegdeaaW.PrintLast Go.Proofs.Ytgapcmmhbegdeaa.MPure Go.Proofs.Ytgapcmmhbegdeaa.MWord Go.Proofs.Ytgapcmmhbegdeaa.MNote Go.Proofs.Ytgapcmmhbegdeaa.MDraw Go.Proofs.Ytgapcmmhbegdeaa.MDrawT

theorem rd_mem (s : List NI) (n : Int) (h0 : 0 ≤ n) (h : n < (s.length : Int)) : rd_T58 s n ∈ s := by
  show s.getD n.toNat z58 ∈ s
  rw [List.getD_eq_getElem?_getD, List.getElem?_eq_getElem (show n.toNat < s.length by omega)]
  exact List.getElem_mem _
theorem changed_loop (s : List Int) (hs : Bytes s) (L : List NI) (hL : L.length ≤ 70) (hS : Short L) : ∀ (n i : Nat) (o : List NI) (a d : Int), i + n = L.length → o.length ≤ i → Short o → 0 ≤ a → a + 20 * n ≤ 1000000 → ∃ r a' d', Ev (fun k => yAC.l0 k o L (L.length : Int) (i : Int) s a d) (r, a', d') ∧ r.length ≤ 71 ∧ Short r ∧ a ≤ a' ∧ a' ≤ a + 20 * n + 30 := by
  intro n
  induction n with
  | zero =>
    intro i o a d hi ho hSo h0 h1
    have fin : ∀ (b : Bool) (a1 d1 : Int), a ≤ a1 → a1 ≤ a + 2 → (b = true → 0 < o.length) → ∃ r a' d', Ev (fun k => yAC.j3 k o (o.length : Int) b s a1 d1) (r, a', d') ∧ r.length ≤ 71 ∧ Short r ∧ a ≤ a' ∧ a' ≤ a + 30 := by
      intro b a1 d1 p1 q1 hb
      cases b with
      | true =>
        have h2 := hb rfl
        have w1 : wrap64 ((o.length : Int) - 1) = (o.length : Int) - 1 := wrap_in (by omega) (by omega)
        obtain ⟨v, a2, d2, e2, -, -, -, p2, q2⟩ := pick_ s hs a1 d1 4 (by omega) (by omega)
        obtain ⟨x, y, g, a3, d3, e3, hg, p3, q3⟩ := note_ s hs a2 d2 (wrap64 ((rd_T58 o (wrap64 ((o.length : Int) - 1))).f1 + v)) (by omega) (by omega)
        refine ⟨o ++ [⟨x, y, g⟩], a3, d3, Ev.step (fun _ => yAC.j3.eq_2 ..) (Ev.pos rfl (Ev.pos (by omega) (Ev.pos (by omega) (Ev.have e2 (Ev.have e3 (Ev.pos (by omega) (Ev.some rfl))))))), by rw [List.length_append, List.length_singleton]; omega, hSo.snoc hg, by omega, by omega⟩
      | false => exact ⟨o, a1, d1, Ev.step (fun _ => yAC.j3.eq_2 ..) (Ev.neg (by decide) (Ev.some rfl)), by omega, hSo, p1, by omega⟩
    by_cases c1 : (o.length : Int) > 0
    · by_cases c2 : (o.length : Int) < 40
      · obtain ⟨b, a1, d1, e1, p1, q1⟩ := one_ s hs a d 2 h0 (by omega)
        obtain ⟨r, a', d', er, hr, hSr, pr, qr⟩ := fin b a1 d1 p1 q1 (fun _ => by omega)
        exact ⟨r, a', d', Ev.step (fun _ => yAC.l0.eq_2 ..) (Ev.neg (by omega) (Ev.pos c1 (Ev.pos c2 (Ev.have e1 er)))), hr, hSr, pr, by omega⟩
      · obtain ⟨r, a', d', er, hr, hSr, pr, qr⟩ := fin false a d (by omega) (by omega) (fun h => (nomatch h))
        exact ⟨r, a', d', Ev.step (fun _ => yAC.l0.eq_2 ..) (Ev.neg (by omega) (Ev.pos c1 (Ev.neg c2 er))), hr, hSr, pr, by omega⟩
    · obtain ⟨r, a', d', er, hr, hSr, pr, qr⟩ := fin false a d (by omega) (by omega) (fun h => (nomatch h))
      exact ⟨r, a', d', Ev.step (fun _ => yAC.l0.eq_2 ..) (Ev.neg (by omega) (Ev.neg c1 er)), hr, hSr, pr, by omega⟩
  | succ n ih =>
    intro i o a d hi ho hSo h0 h1
    have hw : wrap64 ((i : Int) + 1) = ((i + 1 : Nat) : Int) := wrap_succ (by omega)
    have hm := hS _ (rd_mem L (i : Int) (by omega) (by omega))
    obtain ⟨v, a1, d1, e1, -, -, -, p1, q1⟩ := pick_ s hs a d 6 h0 (by omega)
    have skip : ∀ (a2 d2 : Int), a ≤ a2 → a2 ≤ a + 6 → ∃ r a' d', Ev (fun k => yAC.l0 k o L (L.length : Int) (wrap64 ((i : Int) + 1)) s a2 d2) (r, a', d') ∧ r.length ≤ 71 ∧ Short r ∧ a ≤ a' ∧ a' ≤ a + 20 * ((n + 1 : Nat) : Int) + 30 := by
      intro a2 d2 pa qa
      obtain ⟨r, a', d', er, hr, hSr, pr, qr⟩ := ih (i + 1) o a2 d2 (by omega) (by omega) hSo (by omega) (by omega)
      rw [hw]
      exact ⟨r, a', d', er, hr, hSr, by omega, by omega⟩
    have put : ∀ (b : Bool) (z0 z1 : Int) (z2 : ByteArray) (a2 d2 : Int), z2.size ≤ 100 → a ≤ a2 → a2 ≤ a + 6 → ∃ r a' d', Ev (fun k => yAC.j2 k o L (L.length : Int) (i : Int) b s a2 d2 z0 z1 z2) (r, a', d') ∧ r.length ≤ 71 ∧ Short r ∧ a ≤ a' ∧ a' ≤ a + 20 * ((n + 1 : Nat) : Int) + 30 := by
      intro b z0 z1 z2 a2 d2 hz pa qa
      cases b with
      | true =>
        obtain ⟨r, a', d', er, hr, hSr, pr, qr⟩ := ih (i + 1) (o ++ [⟨z0, z1, z2⟩]) a2 d2 (by omega) (by rw [List.length_append, List.length_singleton]; omega) (hSo.snoc hz) (by omega) (by omega)
        rw [← hw] at er
        exact ⟨r, a', d', Ev.step (fun _ => yAC.j2.eq_2 ..) (Ev.pos rfl (Ev.pos (by omega) er)), hr, hSr, by omega, by omega⟩
      | false =>
        obtain ⟨r, a', d', er, h⟩ := skip a2 d2 pa qa
        exact ⟨r, a', d', Ev.step (fun _ => yAC.j2.eq_2 ..) (Ev.neg (by decide) er), h⟩
    have next : ∀ (z0 z1 : Int) (z2 : ByteArray) (a2 d2 : Int), z2.size ≤ 100 → a ≤ a2 → a2 ≤ a + 6 → ∃ r a' d', Ev (fun k => yAC.j1 k o L (L.length : Int) (i : Int) s a2 d2 z0 z1 z2) (r, a', d') ∧ r.length ≤ 71 ∧ Short r ∧ a ≤ a' ∧ a' ≤ a + 20 * ((n + 1 : Nat) : Int) + 30 := by
      intro z0 z1 z2 a2 d2 hz pa qa
      by_cases c0 : (o.length : Int) = 0
      · obtain ⟨r, a', d', er, h⟩ := put true z0 z1 z2 a2 d2 hz pa qa
        exact ⟨r, a', d', Ev.step (fun _ => yAC.j1.eq_2 ..) (Ev.pos c0 er), h⟩
      · have w1 : wrap64 ((o.length : Int) - 1) = (o.length : Int) - 1 := wrap_in (by omega) (by omega)
        obtain ⟨r, a', d', er, h⟩ := put (decide (((rd_T58 o (wrap64 ((o.length : Int) - 1))).f1) ≤ z0)) z0 z1 z2 a2 d2 hz pa qa
        exact ⟨r, a', d', Ev.step (fun _ => yAC.j1.eq_2 ..) (Ev.neg c0 (Ev.pos (by omega) (Ev.pos (by omega) er))), h⟩
    by_cases c0 : v = 0
    · obtain ⟨r, a', d', er, h⟩ := skip a1 d1 (by omega) (by omega)
      exact ⟨r, a', d', Ev.step (fun _ => yAC.l0.eq_2 ..) (Ev.pos (by omega) (Ev.pos (by omega) (Ev.pos (by omega) (Ev.have e1 (Ev.pos c0 er))))), h⟩
    · by_cases c1 : v = 1
      · obtain ⟨g, a2, d2, e2, mg, p2, q2⟩ := of_ s hs a1 d1 [(⟨#[71, 79]⟩ : ByteArray), (⟨#[73]⟩ : ByteArray), (⟨#[66, 79, 79, 75]⟩ : ByteArray)] (by decide) (by omega) (by omega)
        have hg : g.size ≤ 100 := by
          simp only [List.mem_cons, List.not_mem_nil, or_false] at mg
          rcases mg with rfl | rfl | rfl <;> decide
        obtain ⟨r, a', d', er, h⟩ := next (rd_T58 L (i : Int)).f0 (rd_T58 L (i : Int)).f1 g a2 d2 hg (by omega) (by omega)
        exact ⟨r, a', d', Ev.step (fun _ => yAC.l0.eq_2 ..) (Ev.pos (by omega) (Ev.pos (by omega) (Ev.pos (by omega) (Ev.have e1 (Ev.neg c0 (Ev.pos c1 (Ev.have e2 er))))))), h⟩
      · by_cases c2 : v = 2
        · obtain ⟨u, a2, d2, e2, -, -, -, p2, q2⟩ := pick_ s hs a1 d1 3 (by omega) (by omega)
          obtain ⟨t, et⟩ := most_ (wrap64 (((rd_T58 L (i : Int)).f0) + 1)) (wrap64 (((rd_T58 L (i : Int)).f1) - u))
          obtain ⟨r, a', d', er, h⟩ := next (rd_T58 L (i : Int)).f0 t (rd_T58 L (i : Int)).f2 a2 d2 hm (by omega) (by omega)
          exact ⟨r, a', d', Ev.step (fun _ => yAC.l0.eq_2 ..) (Ev.pos (by omega) (Ev.pos (by omega) (Ev.pos (by omega) (Ev.have e1 (Ev.neg c0 (Ev.neg c1 (Ev.pos c2 (Ev.have e2 (Ev.have et er))))))))), h⟩
        · obtain ⟨r, a', d', er, h⟩ := next (rd_T58 L (i : Int)).f0 (rd_T58 L (i : Int)).f1 (rd_T58 L (i : Int)).f2 a1 d1 hm (by omega) (by omega)
          exact ⟨r, a', d', Ev.step (fun _ => yAC.l0.eq_2 ..) (Ev.pos (by omega) (Ev.pos (by omega) (Ev.pos (by omega) (Ev.have e1 (Ev.neg c0 (Ev.neg c1 (Ev.neg c2 er))))))), h⟩
theorem changed_ (s : List Int) (hs : Bytes s) (L : List NI) (hL : L.length ≤ 70) (hS : Short L) (a d : Int) (h0 : 0 ≤ a) (h1 : a ≤ 100000) : ∃ r a' d', Ev (fun k => yAC.f k s a d L) (r, a', d') ∧ r.length ≤ 71 ∧ Short r ∧ a ≤ a' ∧ a' ≤ a + 2000 := by
  obtain ⟨r, a', d', er, hr, hSr, pr, qr⟩ := changed_loop s hs L hL hS L.length 0 [] a d (by omega) (Nat.le_refl _) (fun x hx => nomatch hx) h0 (by omega)
  exact ⟨r, a', d', er, hr, hSr, pr, by omega⟩
theorem DrawCommonNotes_ (s : List Int) (hs : Bytes s) : ∃ x y, Ev (fun k => yAa.f k s) (x, y) ∧ x.length ≤ 60 ∧ Short x ∧ y.length ≤ 71 ∧ Short y := by
  obtain ⟨x, a1, d1, e1, hl, hS, p1, q1⟩ := tier_ s hs 0 0 (by omega) (by omega)
  have go : ∀ (b : Bool) (a2 d2 : Int), 0 ≤ a2 → a2 ≤ 10000 → ∃ y, Ev (fun k => yAa.j0 k x b s a2 d2) (x, y) ∧ y.length ≤ 71 ∧ Short y := by
    intro b a2 d2 h0 h1
    cases b with
    | true =>
      obtain ⟨y, a3, d3, e3, hy, hSy, p3, q3⟩ := changed_ s hs x (by omega) hS a2 d2 h0 (by omega)
      exact ⟨y, Ev.step (fun _ => yAa.j0.eq_2 ..) (Ev.pos rfl (Ev.bind e3 (Ev.some rfl))), hy, hSy⟩
    | false =>
      obtain ⟨y, a3, d3, e3, hy, hSy, p3, q3⟩ := tier_ s hs a2 d2 h0 (by omega)
      exact ⟨y, Ev.step (fun _ => yAa.j0.eq_2 ..) (Ev.neg (by decide) (Ev.bind e3 (Ev.some rfl))), by omega, hSy⟩
  unfold yAa.f
  cases ht : tierB x with
  | true =>
    obtain ⟨b, a2, d2, e2, p2, q2⟩ := one_ s hs a1 d1 6 (by omega) (by omega)
    obtain ⟨y, er, hy, hSy⟩ := go (!b) a2 d2 (by omega) (by omega)
    exact ⟨x, y, Ev.bind e1 (Ev.bind (tiGood_ x (hS.sized (by omega))) (Ev.pos ht (Ev.have e2 er))), hl, hS, hy, hSy⟩
  | false =>
    obtain ⟨y, er, hy, hSy⟩ := go false a1 d1 (by omega) (by omega)
    exact ⟨x, y, Ev.bind e1 (Ev.bind (tiGood_ x (hS.sized (by omega))) (Ev.neg (by rw [ht]; decide) er)), hl, hS, hy, hSy⟩
end Go.Proofs.Ytgapcmmhbegdeaa.MDrawC
end
section
/- What is drawn for MergeOver: three lists of notes, short ones. No condition but that the code is bytes. -/
namespace Go.Proofs.Ytgapcmmhbegdeaa.MDrawO
open Go.RowKit Go.Proofs.Ytgapcmmhbegdeaa.G Go.Proofs.YtgapcmmhbegdeaaW.PrintWords Go.Proofs.YtgapcmmhbegdeaaW.PrintLast Go.Proofs.Ytgapcmmhbegdeaa.MPure Go.Proofs.Ytgapcmmhbegdeaa.MWord Go.Proofs.Ytgapcmmhbegdeaa.MNote Go.Proofs.Ytgapcmmhbegdeaa.MDraw Go.Proofs.Ytgapcmmhbegdeaa.MDrawT Go.Proofs.Ytgapcmmhbegdeaa.MDrawC

theorem DrawMergeOver_ (s : List Int) (hs : Bytes s) : ∃ w x y, Ev (fun k => yAf.f k s) (w, x, y) ∧ w.length ≤ 60 ∧ Short w ∧ x.length ≤ 71 ∧ Short x ∧ y.length ≤ 71 ∧ Short y := by
  obtain ⟨w, a1, d1, e1, hl, hS, p1, q1⟩ := tier_ s hs 0 0 (by omega) (by omega)
  have go : ∀ (b : Bool) (a2 d2 : Int), 0 ≤ a2 → a2 ≤ 10000 → ∃ x y, Ev (fun k => yAf.j0 k w b s a2 d2) (w, x, y) ∧ x.length ≤ 71 ∧ Short x ∧ y.length ≤ 71 ∧ Short y := by
    intro b a2 d2 h0 h1
    cases b with
    | true =>
      obtain ⟨x, a3, d3, e3, hx, hSx, p3, q3⟩ := changed_ s hs w (by omega) hS a2 d2 h0 (by omega)
      obtain ⟨y, a4, d4, e4, hy, hSy, p4, q4⟩ := changed_ s hs w (by omega) hS a3 d3 (by omega) (by omega)
      exact ⟨x, y, Ev.step (fun _ => yAf.j0.eq_2 ..) (Ev.pos rfl (Ev.bind e3 (Ev.bind e4 (Ev.some rfl)))), hx, hSx, hy, hSy⟩
    | false =>
      obtain ⟨x, a3, d3, e3, hx, hSx, p3, q3⟩ := tier_ s hs a2 d2 h0 (by omega)
      obtain ⟨y, a4, d4, e4, hy, hSy, p4, q4⟩ := tier_ s hs a3 d3 (by omega) (by omega)
      exact ⟨x, y, Ev.step (fun _ => yAf.j0.eq_2 ..) (Ev.neg (by decide) (Ev.bind e3 (Ev.bind e4 (Ev.some rfl)))), by omega, hSx, by omega, hSy⟩
  unfold yAf.f
  cases ht : tierB w with
  | true =>
    obtain ⟨b, a2, d2, e2, p2, q2⟩ := one_ s hs a1 d1 8 (by omega) (by omega)
    obtain ⟨x, y, er, h⟩ := go (!b) a2 d2 (by omega) (by omega)
    exact ⟨w, x, y, Ev.bind e1 (Ev.bind (tiGood_ w (hS.sized (by omega))) (Ev.pos ht (Ev.have e2 er))), hl, hS, h⟩
  | false =>
    obtain ⟨x, y, er, h⟩ := go false a1 d1 (by omega) (by omega)
    exact ⟨w, x, y, Ev.bind e1 (Ev.bind (tiGood_ w (hS.sized (by omega))) (Ev.neg (by rw [ht]; decide) er)), hl, hS, h⟩
end Go.Proofs.Ytgapcmmhbegdeaa.MDrawO
end
section
/- The laws' other comparison of lists of lists: a list is like itself. No condition. -/
namespace Go.Proofs.Ytgapcmmhbegdeaa.MQLists2
open Go.RowKit Go.Proofs.Ytgapcmmhbegdeaa.G Go.Proofs.YtgapcmmhbegdeaaW.PrintWords Go.Proofs.YtgapcmmhbegdeaaW.PrintLast Go.Proofs.Ytgapcmmhbegdeaa.MPure

theorem qInts_ (l : List Int) (hl : l.length ≤ 140737488351232) : Ev (fun k => yA3.f k l l) true := by
  unfold yA3.f
  refine Ev.pos rfl ?_
  have h := loop_all0 (L := fun k i => yA3.l0 k l l (l.length : Int) i) l.length (fun _ => true) true (Ev.step (fun _ => yA3.l0.eq_2 ..) (Ev.neg (by omega) (Ev.some rfl)))
    (fun i hi _ r ih => by
      rw [← wrap_succ (by omega)] at ih
      exact Ev.step (fun _ => yA3.l0.eq_2 ..) (Ev.pos (by omega) (Ev.pos (by omega) (Ev.pos (by omega) (Ev.pos (by omega) (Ev.pos rfl ih))))))
    (fun _ _ h => by cases h)
  exact Ev.eq h (by simp)
theorem qLists_ (l : List (List Int)) (hl : l.length ≤ 140737488351232) (h2 : ∀ x, x ∈ l → x.length ≤ 140737488351232) : Ev (fun k => yAx.f k l l) true := by
  unfold yAx.f
  refine Ev.pos rfl ?_
  have h := loop_all0 (L := fun k i => yAx.l0 k l l (l.length : Int) i) l.length (fun _ => true) true (Ev.step (fun _ => yAx.l0.eq_2 ..) (Ev.neg (by omega) (Ev.some rfl)))
    (fun i hi _ r ih => by
      rw [← wrap_succ (by omega)] at ih
      have hm : (l.getD i []) ∈ l := by
        rw [List.getD_eq_getElem?_getD, List.getElem?_eq_getElem hi]
        exact List.getElem_mem _
      exact Ev.step (fun _ => yAx.l0.eq_2 ..) (Ev.pos (by omega) (Ev.pos (by omega) (Ev.pos (by omega) (Ev.pos (by omega) (Ev.bind (qInts_ _ (h2 _ hm)) (Ev.pos rfl ih)))))))
    (fun _ _ h => by cases h)
  exact Ev.eq h (by simp)
end Go.Proofs.Ytgapcmmhbegdeaa.MQLists2
end
section
/- The laws' comparison of notes: a list is like itself. No condition. -/
namespace Go.Proofs.Ytgapcmmhbegdeaa.MQNotes
open Go.RowKit Go.Proofs.Ytgapcmmhbegdeaa.G Go.Proofs.YtgapcmmhbegdeaaW.PrintWords Go.Proofs.YtgapcmmhbegdeaaW.PrintLast Go.Proofs.Ytgapcmmhbegdeaa.MPure Go.Proofs.Ytgapcmmhbegdeaa.MWord Go.Proofs.Ytgapcmmhbegdeaa.MNote

theorem qNotes_ (l : List NI) (hl : l.length ≤ 140737488351232) : Ev (fun k => yAh.f k l l) true := by
  unfold yAh.f
  refine Ev.pos rfl ?_
  have h := loop_all0 (L := fun k i => yAh.l0 k l l (l.length : Int) i) l.length (fun _ => true) true (Ev.step (fun _ => yAh.l0.eq_2 ..) (Ev.neg (by omega) (Ev.some rfl)))
    (fun i hi _ r ih => by
      rw [← wrap_succ (by omega)] at ih
      exact Ev.step (fun _ => yAh.l0.eq_2 ..) (Ev.pos (by omega) (Ev.pos (by omega) (Ev.pos (by omega) (Ev.pos (by omega) (Ev.neg (by simp) ih))))))
    (fun _ _ h => by cases h)
  exact Ev.eq h (by simp)
end Go.Proofs.Ytgapcmmhbegdeaa.MQNotes
end
