/- Plain laws of the functions that the claim's functions call: what they compute, with no program in sight. No condition. -/
import Derived.Test.YtgapcmmhbegdeaaWAll
import Derived.Lib.Bytealg
import Derived.Test.YtgapcmmhbegdeaaMBase
import Derived.Test.YtgapcmmhbegdeaaG2
import Derived.Test.YtgapcmmhbegdeaaG6
import Derived.Test.YtgapcmmhbegdeaaG0
import Derived.Test.YtgapcmmhbegdeaaG1
import Derived.Test.YtgapcmmhbegdeaaG4
import Derived.Test.YtgapcmmhbegdeaaG5
import Derived.Test.YtgapcmmhbegdeaaG7
import Derived.Test.YtgapcmmhbegdeaaG3
import Derived.Test.YtgapcmmhbegdeaaG8
import Derived.Test.YtgapcmmhbegdeaaG12
import Derived.Test.YtgapcmmhbegdeaaG13
import Derived.Test.YtgapcmmhbegdeaaG17
import Derived.Test.YtgapcmmhbegdeaaG18
import Derived.Test.YtgapcmmhbegdeaaG16
import Derived.Test.YtgapcmmhbegdeaaG19
import Derived.Test.YtgapcmmhbegdeaaG22
import Derived.Test.YtgapcmmhbegdeaaG14
import Derived.Test.YtgapcmmhbegdeaaG15
import Derived.Test.YtgapcmmhbegdeaaG20
import Derived.Test.YtgapcmmhbegdeaaG21
section
/- Plain lemmas on rounds, lists and numbers, for the laws' pure statements: no program in sight. -/
namespace Go.Proofs.Ytgapcmmhbegdeaa.MPure
open Go.RowKit Go.Proofs.YtgapcmmhbegdeaaW.PrintWords Go.Proofs.YtgapcmmhbegdeaaW.PrintLast

theorem Ev.pos {α : Type} {c : Prop} [Decidable c] {f g : Nat → Option α} {r : α} (h : c) (k : Ev f r) : Ev (fun n => if c then f n else g n) r := by
  simpa only [if_pos h] using k
theorem Ev.neg {α : Type} {c : Prop} [Decidable c] {f g : Nat → Option α} {r : α} (h : ¬ c) (k : Ev g r) : Ev (fun n => if c then f n else g n) r := by
  simpa only [if_neg h] using k
theorem Ev.some {α : Type} {a r : α} (h : a = r) : Ev (fun _ => Option.some a) r := h ▸ Ev.now a
theorem Ev.have {α β : Type} {a : Option α} {x : α} {f : Nat → α → Option β} {r : β} (h : a = .some x) (k : Ev (fun n => f n x) r) : Ev (fun n => a.bind (f n)) r := by
  subst h
  exact k
theorem Ev.ite {α : Type} {c : Prop} [Decidable c] {f g : Nat → Option α} {r : α} (h : c → Ev f r) (k : ¬ c → Ev g r) : Ev (fun n => if c then f n else g n) r := by
  by_cases hc : c
  · exact Ev.pos hc (h hc)
  · exact Ev.neg hc (k hc)
theorem Ev.eq {α : Type} {g : Nat → Option α} {a r : α} (k : Ev g a) (h : a = r) : Ev g r := h ▸ k
theorem wrap_in {n : Int} (h : -9223372036854775808 ≤ n) (h' : n ≤ 9223372036854775807) : wrap64 n = n := by unfold wrap64; omega
theorem wrap_succ {i : Nat} (h : i ≤ 9223372036854775806) : wrap64 ((i : Int) + 1) = ((i + 1 : Nat) : Int) := by unfold wrap64; omega
theorem wrap_pred {i : Nat} (h0 : 0 < i) (h : i ≤ 9223372036854775806) : wrap64 ((i : Int) - 1) = ((i - 1 : Nat) : Int) := by unfold wrap64; omega
/-- A loop that stops with 'false' at the first place at which p does not hold, and answers e behind the last one. -/
theorem loop_all {L : Nat → Int → Option Bool} (n : Nat) (p : Nat → Bool) (e : Bool) (hend : Ev (fun k => L k (n : Int)) e)
    (hyes : ∀ i : Nat, i < n → p i = true → ∀ r, Ev (fun k => L k ((i + 1 : Nat) : Int)) r → Ev (fun k => L k (i : Int)) r) (hno : ∀ i : Nat, i < n → p i = false → Ev (fun k => L k (i : Int)) false) :
    ∀ d i : Nat, i + d = n → Ev (fun k => L k (i : Int)) ((List.range' i d).all p && e)
  | 0, i, h => by
    have : i = n := by omega
    subst this
    simpa using hend
  | d + 1, i, h => by
    have hi : i < n := by omega
    cases hp : p i with
    | true =>
      have ih := loop_all n p e hend hyes hno d (i + 1) (by omega)
      have := hyes i hi hp _ ih
      simpa [List.range'_succ, hp] using this
    | false =>
      have := hno i hi hp
      simpa [List.range'_succ, hp] using this
/-- The same from its begin. -/
theorem loop_all0 {L : Nat → Int → Option Bool} (n : Nat) (p : Nat → Bool) (e : Bool) (hend : Ev (fun k => L k (n : Int)) e)
    (hyes : ∀ i : Nat, i < n → p i = true → ∀ r, Ev (fun k => L k ((i + 1 : Nat) : Int)) r → Ev (fun k => L k (i : Int)) r) (hno : ∀ i : Nat, i < n → p i = false → Ev (fun k => L k (i : Int)) false) :
    Ev (fun k => L k 0) ((List.range n).all p && e) := by
  have h := loop_all n p e hend hyes hno n 0 (by omega)
  rw [← List.range_eq_range'] at h
  exact h

theorem all_congr {n : Nat} {p q : Nat → Bool} (h : ∀ i, i < n → p i = q i) : (List.range n).all p = (List.range n).all q := by
  rw [Bool.eq_iff_iff]
  simp only [List.all_eq_true, List.mem_range]
  constructor
  · exact fun H i hi => by rw [← h i hi]; exact H i hi
  · exact fun H i hi => by rw [h i hi]; exact H i hi

end Go.Proofs.Ytgapcmmhbegdeaa.MPure
end
section
/- Loops that search, by lists alone. -/
namespace Go.Proofs.Ytgapcmmhbegdeaa.MAt0
open Go.RowKit Go.Proofs.YtgapcmmhbegdeaaW.PrintWords Go.Proofs.YtgapcmmhbegdeaaW.PrintLast Go.Proofs.Ytgapcmmhbegdeaa.MPure

theorem idxOf_congr {α : Type} {p q : α → Bool} {l : List α} (h : ∀ x, x ∈ l → p x = q x) : idxOf p l = idxOf q l := by
  have : l.findIdx? p = l.findIdx? q := by
    induction l with
    | nil => rfl
    | cons x l ih =>
      rw [List.findIdx?_cons, List.findIdx?_cons, h x List.mem_cons_self, ih (fun y hy => h y (List.mem_cons_of_mem _ hy))]
  unfold idxOf
  rw [this]
theorem idxOf_range {α : Type} (p : α → Bool) (l : List α) : -1 ≤ idxOf p l ∧ idxOf p l < (l.length : Int) := by
  unfold idxOf
  cases h : l.findIdx? p with
  | none => exact ⟨by decide, by show (-1 : Int) < _; omega⟩
  | some i =>
    have := (List.findIdx?_eq_some_iff_getElem.1 h).1
    exact ⟨by show (-1 : Int) ≤ (i : Int); omega, by show (i : Int) < _; omega⟩

end Go.Proofs.Ytgapcmmhbegdeaa.MAt0
end
section
/- Words: what the printed functions on texts of some letters come to. -/
namespace Go.Proofs.Ytgapcmmhbegdeaa.MWord
open Go.RowKit Go.Proofs.Ytgapcmmhbegdeaa.G Go.Proofs.YtgapcmmhbegdeaaW.PrintWords Go.Proofs.YtgapcmmhbegdeaaW.PrintLast Go.Proofs.Ytgapcmmhbegdeaa.MPure

/-- 1 to 8 bytes, of each of which p holds. -/
def wordB (p : Int → Bool) (s : ByteArray) : Bool := (List.range s.size).all (fun i => p (bt s (i : Int))) && decide (1 ≤ (s.size : Int) ∧ (s.size : Int) ≤ 8)
def capB (c : Int) : Bool := decide (65 ≤ c ∧ c ≤ 90)
theorem l1In_ (a b c : Int) : yAc.f a b c = some (decide (b ≤ a ∧ a ≤ c)) := by
  unfold yAc.f
  by_cases h : a ≥ b
  · rw [if_pos h]; simp [show b ≤ a from h]
  · rw [if_neg h]; simp [show ¬ b ≤ a from h]
theorem within_ (a b c : Int) : yAd.f a b c = some (decide (b ≤ a ∧ a ≤ c)) := by
  unfold yAd.f
  by_cases h : a ≥ b
  · rw [if_pos h]; simp [show b ≤ a from h]
  · rw [if_neg h]; simp [show ¬ b ≤ a from h]

/-- Which bytes are among some letters. -/
def amongB (ls : ByteArray) (c : Int) : Bool := decide (0 ≤ Lib.indexByte ls.data.toList c.toNat.toUInt8)
theorem hasOnly_ (s ls : ByteArray) (hs : s.size ≤ 140737488351232) : Ev (fun k => yAb.f k s ls) ((List.range s.size).all (fun i => amongB ls (bt s (i : Int)))) := by
  refine Ev.eq (loop_all0 (L := fun k i => yAb.l0 k s ls (s.size : Int) i) s.size (fun i => amongB ls (bt s (i : Int))) true ?_ ?_ ?_) (Bool.and_true _)
  · refine Ev.step (f := fun _ => _) (fun k => ?_) (Ev.some rfl)
    simp only [yAb.l0]
    rw [if_neg (by omega)]
  · intro i hi hp r hr
    refine Ev.step (f := fun k => yAb.l0 k s ls (s.size : Int) ((i + 1 : Nat) : Int)) (fun k => ?_) hr
    simp only [amongB, decide_eq_true_eq] at hp
    simp only [yAb.l0, yAm.f, Option.bind_some]
    rw [if_pos (by omega), if_pos (by omega), if_pos (by omega), if_neg (by omega), wrap_succ (by omega)]
  · intro i hi hp
    refine Ev.step (f := fun k => some false) (fun k => ?_) (Ev.some rfl)
    simp only [amongB, decide_eq_false_iff_not] at hp
    simp only [yAb.l0, yAm.f, Option.bind_some]
    rw [if_pos (by omega), if_pos (by omega), if_pos (by omega), if_pos (by omega)]
theorem isWordOf_ (s ls : ByteArray) (hs : s.size ≤ 140737488351232) : Ev (fun k => yAy.f k s ls) (wordB (amongB ls) s) := by
  unfold yAy.f
  refine Ev.have (within_ _ _ _) (Ev.ite (fun h => ?_) (fun h => ?_))
  · refine Ev.bind (hasOnly_ s ls hs) (Ev.some ?_)
    simp only [wordB]
    rw [h, Bool.and_true]
  · refine Ev.some ?_
    simp only [wordB]
    rw [Bool.eq_false_iff.2 h, Bool.and_false]
/-- The capital letters, as the program has them. -/
theorem caps (c : Int) (h0 : 0 ≤ c) (h1 : c ≤ 255) : amongB (⟨#[65, 66, 67, 68, 69, 70, 71, 72, 73, 74, 75, 76, 77, 78, 79, 80, 81, 82, 83, 84, 85, 86, 87, 88, 89, 90]⟩ : ByteArray) c = capB c := by
  have key : ∀ n : Nat, n < 256 → amongB (⟨#[65, 66, 67, 68, 69, 70, 71, 72, 73, 74, 75, 76, 77, 78, 79, 80, 81, 82, 83, 84, 85, 86, 87, 88, 89, 90]⟩ : ByteArray) (n : Int) = capB (n : Int) := by decide +kernel
  obtain ⟨n, rfl⟩ := Int.eq_ofNat_of_zero_le h0
  exact key n (by omega)
theorem wordB_congr {p q : Int → Bool} (h : ∀ c, 0 ≤ c → c ≤ 255 → p c = q c) (s : ByteArray) : wordB p s = wordB q s := by
  unfold wordB
  rw [all_congr (fun i _ => h _ (bt_range s _).1 (bt_range s _).2)]
theorem isWord_ (s : ByteArray) (hs : s.size ≤ 140737488351232) : Ev (fun k => yAy.f k s (⟨#[65, 66, 67, 68, 69, 70, 71, 72, 73, 74, 75, 76, 77, 78, 79, 80, 81, 82, 83, 84, 85, 86, 87, 88, 89, 90]⟩ : ByteArray)) (wordB capB s) :=
  Ev.eq (isWordOf_ s _ hs) (wordB_congr caps s)

end Go.Proofs.Ytgapcmmhbegdeaa.MWord
end
section
/- What the printed functions on notes and tiers come to, by numbers and lists alone: words, notes, tiers, the copies and the comparison that the exact laws use. -/
namespace Go.Proofs.Ytgapcmmhbegdeaa.MNote
open Go.RowKit Go.Proofs.Ytgapcmmhbegdeaa.G Go.Proofs.YtgapcmmhbegdeaaW.PrintWords Go.Proofs.YtgapcmmhbegdeaaW.PrintLast Go.Proofs.Ytgapcmmhbegdeaa.MPure Go.Proofs.Ytgapcmmhbegdeaa.MWord

theorem fsWord_ (s : ByteArray) (hs : s.size ≤ 140737488351232) : Ev (fun k => yAe.f k s) (wordB capB s) := by
  refine loop_all0 (L := fun k i => yAe.l0 k s i) s.size (fun i => capB (bt s (i : Int))) _ ?_ ?_ ?_
  · refine Ev.step (f := fun _ => _) (fun k => ?_) (Ev.some rfl)
    simp only [yAe.l0]
    rw [if_neg (by omega), l1In_]
    rfl
  · intro i hi hp r hr
    refine Ev.step (f := fun k => yAe.l0 k s ((i + 1 : Nat) : Int)) (fun k => ?_) hr
    simp only [capB, decide_eq_true_eq] at hp
    simp only [yAe.l0]
    rw [if_pos (by omega), if_pos (by omega), if_neg (by omega), if_neg (by omega), wrap_succ (by omega)]
  · intro i hi hp
    simp only [capB, decide_eq_false_iff_not] at hp
    by_cases h : bt s (i : Int) < 65
    · refine Ev.step (f := fun k => some false) (fun k => ?_) (Ev.some rfl)
      simp only [yAe.l0]
      rw [if_pos (by omega), if_pos (by omega), if_pos h]
    · refine Ev.step (f := fun k => some false) (fun k => ?_) (Ev.some rfl)
      simp only [yAe.l0]
      rw [if_pos (by omega), if_pos (by omega), if_neg h, if_pos (by omega)]

/-! ### notes -/
def frameB (n : Int) : Bool := decide (0 ≤ n ∧ n ≤ 99999)
def noteB (f t : Int) (g : ByteArray) : Bool := frameB f && frameB t && decide (f < t) && wordB capB g
theorem tiFrame_ (a : Int) : yAj.f a = some (frameB a) := by
  unfold yAj.f
  rw [l1In_]
  rfl
theorem isFrame_ (a : Int) : yAT.f a = some (frameB a) := by
  unfold yAT.f
  rw [within_]
  rfl
theorem tiNote_ (f t : Int) (g : ByteArray) (hg : g.size ≤ 140737488351232) : Ev (fun k => yA1.f k f t g) (noteB f t g) := by
  unfold yA1.f noteB
  refine Ev.have (tiFrame_ _) (Ev.ite (fun h => ?_) (fun h => Ev.some (by rw [Bool.eq_false_iff.2 h]; rfl)))
  refine Ev.have (tiFrame_ _) (Ev.ite (fun h2 => ?_) (fun h2 => Ev.some (by rw [Bool.eq_false_iff.2 h2]; simp)))
  refine Ev.ite (fun h3 => ?_) (fun h3 => Ev.some (by simp [h3]))
  exact Ev.bind (fsWord_ g hg) (Ev.some (by simp [h, h2, h3]))
theorem IsNote_ (f t : Int) (g : ByteArray) (hg : g.size ≤ 140737488351232) : Ev (fun k => yA0.f k f t g) (noteB f t g) := by
  unfold yA0.f noteB
  refine Ev.have (isFrame_ _) (Ev.ite (fun h => ?_) (fun h => Ev.some (by rw [Bool.eq_false_iff.2 h]; rfl)))
  refine Ev.have (isFrame_ _) (Ev.ite (fun h2 => ?_) (fun h2 => Ev.some (by rw [Bool.eq_false_iff.2 h2]; simp)))
  refine Ev.ite (fun h3 => ?_) (fun h3 => Ev.some (by simp [h3]))
  exact Ev.bind (isWord_ g hg) (Ev.some (by simp [h, h2, h3]))
/-! ### tiers -/
abbrev NI := S58
abbrev NL := S127
def atN (l : List NI) (i : Nat) : NI := l.getD i z58
theorem atN_mem {l : List NI} {i : Nat} (h : i < l.length) : atN l i ∈ l := by
  unfold atN
  rw [List.getD_eq_getElem?_getD, List.getElem?_eq_getElem h]
  exact List.getElem_mem h
/-- What the notes' texts bear. -/
def Sized (l : List NI) : Prop := l.length ≤ 140737488351232 ∧ ∀ x, x ∈ l → x.f2.size ≤ 140737488351232
def tierP (l : List NI) (i : Nat) : Bool := noteB (atN l i).f0 (atN l i).f1 (atN l i).f2 && (decide (i = 0) || decide ((atN l (i - 1)).f1 ≤ (atN l i).f0))
def tierB (l : List NI) : Bool := (List.range l.length).all (tierP l) && decide ((l.length : Int) ≤ 40)

theorem tiGood_ (l : List NI) (hl : Sized l) : Ev (fun k => yAK.f k l) (tierB l) := by
  obtain ⟨hn, hs⟩ := hl
  refine loop_all0 (L := fun k i => yAK.l0 k l l (l.length : Int) i) l.length (tierP l) _ ?_ ?_ ?_
  · exact Ev.step (fun _ => yAK.l0.eq_2 ..) (Ev.neg (by omega) (Ev.some rfl))
  · intro i hi hp r hr
    simp only [tierP, Bool.and_eq_true] at hp
    refine Ev.step (fun _ => yAK.l0.eq_2 ..) (Ev.pos (by omega) (Ev.pos (by omega) (Ev.pos (by omega) (Ev.bind (tiNote_ _ _ _ (hs _ (atN_mem hi))) (Ev.pos hp.1 (Ev.ite (fun h0 => ?_) (fun h0 => ?_)))))))
    · rw [wrap_pred (by omega) (by omega)]
      refine Ev.pos (by omega) (Ev.pos (by omega) (Ev.neg ?_ ?_))
      · have := hp.2
        simp only [Bool.or_eq_true, decide_eq_true_eq] at this
        have h : (atN l (i - 1)).f1 ≤ (atN l i).f0 := by
          rcases this with h | h
          · omega
          · exact h
        exact Int.not_lt.2 h
      · rw [wrap_succ (by omega)]
        exact hr
    · rw [wrap_succ (by omega)]
      exact hr
  · intro i hi hp
    refine Ev.step (fun _ => yAK.l0.eq_2 ..) (Ev.pos (by omega) (Ev.pos (by omega) (Ev.pos (by omega) (Ev.bind (tiNote_ _ _ _ (hs _ (atN_mem hi))) (Ev.ite (fun h1 => ?_) (fun _ => Ev.some rfl))))))
    simp only [tierP, Bool.and_eq_false_iff, Bool.or_eq_false_iff, decide_eq_false_iff_not] at hp
    rcases hp with hp | ⟨hp, hq⟩
    · exact absurd (h1.symm.trans hp) (by decide)
    · refine Ev.pos (by omega) ?_
      rw [wrap_pred (by omega) (by omega)]
      exact Ev.pos (by omega) (Ev.pos (by omega) (Ev.pos (Int.not_le.1 hq) (Ev.some rfl)))
theorem IsTier_ (l : List NI) (hl : Sized l) : Ev (fun k => yAJ.f k l) (tierB l) := by
  obtain ⟨hn, hs⟩ := hl
  refine loop_all0 (L := fun k i => yAJ.l0 k l l (l.length : Int) i) l.length (tierP l) _ ?_ ?_ ?_
  · exact Ev.step (fun _ => yAJ.l0.eq_2 ..) (Ev.neg (by omega) (Ev.some rfl))
  · intro i hi hp r hr
    simp only [tierP, Bool.and_eq_true] at hp
    refine Ev.step (fun _ => yAJ.l0.eq_2 ..) (Ev.pos (by omega) (Ev.pos (by omega) (Ev.pos (by omega) (Ev.bind (IsNote_ _ _ _ (hs _ (atN_mem hi))) (Ev.pos hp.1 (Ev.ite (fun h0 => ?_) (fun h0 => ?_)))))))
    · rw [wrap_pred (by omega) (by omega)]
      refine Ev.pos (by omega) (Ev.pos (by omega) (Ev.neg ?_ ?_))
      · have := hp.2
        simp only [Bool.or_eq_true, decide_eq_true_eq] at this
        have h : (atN l (i - 1)).f1 ≤ (atN l i).f0 := by
          rcases this with h | h
          · omega
          · exact h
        exact Int.not_lt.2 h
      · rw [wrap_succ (by omega)]
        exact hr
    · rw [wrap_succ (by omega)]
      exact hr
  · intro i hi hp
    refine Ev.step (fun _ => yAJ.l0.eq_2 ..) (Ev.pos (by omega) (Ev.pos (by omega) (Ev.pos (by omega) (Ev.bind (IsNote_ _ _ _ (hs _ (atN_mem hi))) (Ev.ite (fun h1 => ?_) (fun _ => Ev.some rfl))))))
    simp only [tierP, Bool.and_eq_false_iff, Bool.or_eq_false_iff, decide_eq_false_iff_not] at hp
    rcases hp with hp | ⟨hp, hq⟩
    · exact absurd (h1.symm.trans hp) (by decide)
    · refine Ev.pos (by omega) ?_
      rw [wrap_pred (by omega) (by omega)]
      exact Ev.pos (by omega) (Ev.pos (by omega) (Ev.pos (Int.not_le.1 hq) (Ev.some rfl)))

/-! ### what the exact laws do with notes: sizes, copies, comparison -/
def conv (x : NL) : NI := ⟨x.f0, x.f1, x.f2⟩
/-- What a law's notes bear, as the row tells it. -/
def Given (l : List NL) : Prop := (∀ a_, a_ ∈ l → gT127 a_) ∧ l.length * 32 ≤ 140737488351232
theorem Given.sized {l : List NL} (h : Given l) : Sized (l.map conv) := by
  obtain ⟨h1, h2⟩ := h
  refine ⟨by rw [List.length_map]; omega, fun x hx => ?_⟩
  obtain ⟨y, hy, rfl⟩ := List.mem_map.1 hx
  exact (h1 y hy).2.2
end Go.Proofs.Ytgapcmmhbegdeaa.MNote
end
section
/- Ranges of frames. -/
namespace Go.Proofs.Ytgapcmmhbegdeaa.MCut
open Go.RowKit Go.Proofs.Ytgapcmmhbegdeaa.G Go.Proofs.YtgapcmmhbegdeaaW.PrintWords Go.Proofs.YtgapcmmhbegdeaaW.PrintLast Go.Proofs.Ytgapcmmhbegdeaa.MPure Go.Proofs.Ytgapcmmhbegdeaa.MWord Go.Proofs.Ytgapcmmhbegdeaa.MNote

def rangeB (a b : Int) : Bool := frameB a && frameB b && decide (a < b)
theorem isRange_ (a b : Int) : yA3.f a b = some (rangeB a b) := by
  unfold yA3.f rangeB
  rw [isFrame_, isFrame_]
  simp only [Option.bind_some]
  cases frameB a <;> cases frameB b <;> simp
end Go.Proofs.Ytgapcmmhbegdeaa.MCut
end
section
/- Windows of frames: what the reference and the program take for one. -/
namespace Go.Proofs.Ytgapcmmhbegdeaa.MWin
open Go.RowKit Go.Proofs.Ytgapcmmhbegdeaa.G Go.Proofs.YtgapcmmhbegdeaaW.PrintWords Go.Proofs.YtgapcmmhbegdeaaW.PrintLast Go.Proofs.Ytgapcmmhbegdeaa.MPure Go.Proofs.Ytgapcmmhbegdeaa.MWord Go.Proofs.Ytgapcmmhbegdeaa.MNote Go.Proofs.Ytgapcmmhbegdeaa.MCut

def windowB (a b : Int) : Bool := rangeB a b && decide (b - a ≤ 200)
theorem windowB_in {a b : Int} (h : windowB a b = true) : 0 ≤ a ∧ a < b ∧ b ≤ 99999 ∧ b - a ≤ 200 := by
  simp only [windowB, rangeB, frameB, Bool.and_eq_true, decide_eq_true_eq] at h
  omega
theorem isWindow_ (a b : Int) : yAi.f a b = some (windowB a b) := by
  unfold yAi.f windowB
  rw [isRange_]
  simp only [Option.bind_some]
  cases h : rangeB a b with
  | false => simp
  | true =>
    simp only [rangeB, frameB, Bool.and_eq_true, decide_eq_true_eq] at h
    rw [if_pos rfl, wrap_in (by omega) (by omega)]
    simp
theorem agFrame_ (a : Int) : yAp.f a = some (frameB a) := by
  unfold yAp.f
  rw [l1In_]
  rfl
theorem agWindow_ (a b : Int) : yAs.f a b = some (windowB a b) := by
  unfold yAs.f windowB rangeB
  rw [agFrame_, agFrame_]
  simp only [Option.bind_some]
  cases h1 : frameB a with
  | false => simp
  | true =>
    rw [if_pos rfl]
    cases h2 : frameB b with
    | false => simp
    | true =>
      simp only [frameB, decide_eq_true_eq] at h1 h2
      rw [if_pos rfl, wrap_in (by omega) (by omega), l1In_]
      simp only [Option.bind_some, Bool.true_and]
      congr 1
      rw [Bool.eq_iff_iff]
      simp only [Bool.and_eq_true, decide_eq_true_eq]
      omega
theorem wrap_step {x : Int} (h0 : 0 ≤ x) (h1 : x ≤ 99999) : wrap64 (x + 1) = x + 1 := wrap_in (by omega) (by omega)
end Go.Proofs.Ytgapcmmhbegdeaa.MWin
end
section
/- The gloss at a frame: the reference's search and the program's, by lists alone. -/
namespace Go.Proofs.Ytgapcmmhbegdeaa.MGloss
open Go.RowKit Go.Proofs.Ytgapcmmhbegdeaa.G Go.Proofs.YtgapcmmhbegdeaaW.PrintWords Go.Proofs.YtgapcmmhbegdeaaW.PrintLast Go.Proofs.Ytgapcmmhbegdeaa.MPure Go.Proofs.Ytgapcmmhbegdeaa.MWord Go.Proofs.Ytgapcmmhbegdeaa.MNote Go.Proofs.Ytgapcmmhbegdeaa.MAt0

/-- Whether a frame lies in a note. -/
def inB (a : Int) (x : NI) : Bool := decide (x.f0 ≤ a ∧ a < x.f1)
/-- The gloss at a frame, or the empty text. -/
def glossB (l : List NI) (a : Int) : ByteArray := if 0 ≤ idxOf (inB a) l then (atN l (idxOf (inB a) l).toNat).f2 else ⟨#[]⟩
theorem agGloss_ (l : List NI) (hl : Sized l) (a : Int) : Ev (fun k => yAR.f k l a) (glossB l a) := by
  obtain ⟨hn, _⟩ := hl
  have key : ∀ d i : Nat, i + d = l.length → (∀ j, j < i → inB a (atN l j) = false) → Ev (fun k => yAR.l0 k a l (l.length : Int) (i : Int)) (glossB l a) := by
    intro d
    induction d with
    | zero =>
      intro i hi hb
      obtain rfl : i = l.length := by omega
      refine Ev.step (fun _ => yAR.l0.eq_2 ..) (Ev.neg (by omega) (Ev.some ?_))
      unfold glossB
      rw [idxOf_miss z58 hb, if_neg (by decide)]
    | succ d ih =>
      intro i hi hb
      cases hp : inB a (atN l i) with
      | true =>
        have hq := hp
        simp only [inB, decide_eq_true_eq] at hq
        refine Ev.step (fun _ => yAR.l0.eq_2 ..) (Ev.pos (by omega) (Ev.pos (by omega) (Ev.pos (by omega) (Ev.pos hq.1 (Ev.pos hq.2 (Ev.some ?_))))))
        unfold glossB
        rw [idxOf_hit z58 (i := i) (by omega) hp hb, if_pos (by omega)]
        rfl
      | false =>
        have hq := hp
        simp only [inB, decide_eq_false_iff_not] at hq
        have hr := ih (i + 1) (by omega) (fun j hj => by
          by_cases e : j = i
          · subst e; exact hp
          · exact hb j (by omega))
        rw [← wrap_succ (by omega)] at hr
        refine Ev.step (fun _ => yAR.l0.eq_2 ..) (Ev.pos (by omega) (Ev.pos (by omega) (Ev.pos (by omega) (Ev.ite (fun h1 => Ev.neg (fun h2 => hq ⟨h1, h2⟩) hr) (fun _ => hr)))))
  exact key l.length 0 (by omega) (fun j hj => absurd hj (Nat.not_lt_zero _))
theorem tier_bounds {l : List NI} (h : tierB l = true) {x : NI} (hx : x ∈ l) : 0 ≤ x.f0 ∧ x.f0 < x.f1 ∧ x.f1 ≤ 99999 := by
  simp only [tierB, Bool.and_eq_true, List.all_eq_true, List.mem_range] at h
  obtain ⟨i, hi, rfl⟩ := List.mem_iff_getElem.1 hx
  have := h.1 i hi
  have e : atN l i = l[i] := by
    unfold atN
    rw [List.getD_eq_getElem?_getD, List.getElem?_eq_getElem hi]
    rfl
  simp only [tierP, noteB, frameB, Bool.and_eq_true, decide_eq_true_eq, e] at this
  omega
/-- In a tier both searches stop at the same notes. -/
theorem noteAt_in {l : List NI} (h : tierB l = true) (a : Int) : idxOf (yAa.p a) l = idxOf (inB a) l := by
  refine idxOf_congr (fun x hx => ?_)
  have := tier_bounds h hx
  unfold yAa.p inB
  rw [wrap_in (by omega) (by omega)]
  rw [decide_eq_decide]
  omega
theorem glossAt_ (l : List NI) (h : tierB l = true) (a : Int) : yAr.f l a = some (glossB l a) := by
  have e := noteAt_in h a
  have hr := idxOf_range (inB a) l
  unfold yAr.f yAa.f glossB
  rw [e]
  simp only [Option.bind_some]
  by_cases h0 : idxOf (inB a) l < 0
  · rw [if_pos h0, if_neg (by omega)]
  · rw [if_neg h0, if_pos (by omega), if_pos (by omega), if_pos (by omega)]
    rfl
end Go.Proofs.Ytgapcmmhbegdeaa.MGloss
end
section
/- How often two tiers have the same gloss. No condition. -/
namespace Go.Proofs.Ytgapcmmhbegdeaa.MSame
open Go.RowKit Go.Proofs.Ytgapcmmhbegdeaa.G Go.Proofs.YtgapcmmhbegdeaaW.PrintWords Go.Proofs.YtgapcmmhbegdeaaW.PrintLast Go.Proofs.Ytgapcmmhbegdeaa.MPure Go.Proofs.Ytgapcmmhbegdeaa.MWord Go.Proofs.Ytgapcmmhbegdeaa.MNote Go.Proofs.Ytgapcmmhbegdeaa.MCut Go.Proofs.Ytgapcmmhbegdeaa.MWin Go.Proofs.Ytgapcmmhbegdeaa.MAt0 Go.Proofs.Ytgapcmmhbegdeaa.MGloss

/-- The rounds at which both have the same gloss. -/
def sameN (x y : List NI) : Nat → Int → Int
  | 0, _ => 0
  | d + 1, a => (if (glossB x a).toList = (glossB y a).toList then 1 else 0) + sameN x y d (a + 1)
theorem sameN_bounds (x y : List NI) : ∀ (d : Nat) (a : Int), 0 ≤ sameN x y d a ∧ sameN x y d a ≤ (d : Int)
  | 0, _ => by simp [sameN]
  | d + 1, a => by
    have h := sameN_bounds x y d (a + 1)
    have e : sameN x y (d + 1) a = (if (glossB x a).toList = (glossB y a).toList then 1 else 0) + sameN x y d (a + 1) := rfl
    rw [e]
    split <;> omega
theorem same_loops (x y : List NI) (hx : Sized x) (hy : Sized y) (tx : tierB x = true) (ty : tierB y = true) (b : Int) (hb : b ≤ 99999) : ∀ (d : Nat) (a s : Int), a + d = b → 0 ≤ a → 0 ≤ s → s + d ≤ 1000 → Ev (fun k => yAh.l0 k x y b s a) (s + sameN x y d a) ∧ Ev (fun k => yAS.l0 k x y b s a) (s + sameN x y d a) := by
  intro d
  induction d with
  | zero =>
    intro a s hd ha h0 h1
    exact ⟨Ev.step (fun _ => yAh.l0.eq_2 ..) (Ev.neg (by omega) (Ev.some (by simp [sameN]))), Ev.step (fun _ => yAS.l0.eq_2 ..) (Ev.neg (by omega) (Ev.some (by simp [sameN])))⟩
  | succ d ih =>
    intro a s hd ha h0 h1
    have hw := wrap_step (x := a) (by omega) (by omega)
    have hs : wrap64 (s + 1) = s + 1 := wrap_in (by omega) (by omega)
    have es : sameN x y (d + 1) a = (if (glossB x a).toList = (glossB y a).toList then 1 else 0) + sameN x y d (a + 1) := rfl
    by_cases he : (glossB x a).toList = (glossB y a).toList
    · obtain ⟨g1, g2⟩ := ih (a + 1) (s + 1) (by omega) (by omega) (by omega) (by omega)
      rw [es, if_pos he, ← Int.add_assoc]
      refine ⟨Ev.step (fun _ => yAh.l0.eq_2 ..) (Ev.pos (by omega) (Ev.bind (agGloss_ x hx a) (Ev.bind (agGloss_ y hy a) (Ev.pos he ?_)))), Ev.step (fun _ => yAS.l0.eq_2 ..) (Ev.pos (by omega) (Ev.have (glossAt_ x tx a) (Ev.have (glossAt_ y ty a) (Ev.pos he ?_))))⟩
      · rw [hw, hs]; exact g1
      · rw [hw, hs]; exact g2
    · obtain ⟨g1, g2⟩ := ih (a + 1) s (by omega) (by omega) h0 (by omega)
      rw [es, if_neg he, Int.zero_add]
      refine ⟨Ev.step (fun _ => yAh.l0.eq_2 ..) (Ev.pos (by omega) (Ev.bind (agGloss_ x hx a) (Ev.bind (agGloss_ y hy a) (Ev.neg he ?_)))), Ev.step (fun _ => yAS.l0.eq_2 ..) (Ev.pos (by omega) (Ev.have (glossAt_ x tx a) (Ev.have (glossAt_ y ty a) (Ev.neg he ?_))))⟩
      · rw [hw]; exact g1
      · rw [hw]; exact g2
theorem Same_ (x y : List NI) (hx : Sized x) (hy : Sized y) (tx : tierB x = true) (ty : tierB y = true) (a b : Int) (h : windowB a b = true) : Ev (fun k => yAh.f k x y a b) (sameN x y (b - a).toNat a) ∧ Ev (fun k => yAS.f k x y a b) (sameN x y (b - a).toNat a) := by
  have hw := windowB_in h
  obtain ⟨s1, s2⟩ := same_loops x y hx hy tx ty b (by omega) (b - a).toNat a 0 (by omega) (by omega) (by omega) (by omega)
  rw [Int.zero_add] at s1 s2
  exact ⟨s1, s2⟩
end Go.Proofs.Ytgapcmmhbegdeaa.MSame
end
section
/- What the laws do with rows of rows of notes, and which rows of rows are tiers. -/
namespace Go.Proofs.Ytgapcmmhbegdeaa.MNoteSS
open Go.RowKit Go.Proofs.Ytgapcmmhbegdeaa.G Go.Proofs.YtgapcmmhbegdeaaW.PrintWords Go.Proofs.YtgapcmmhbegdeaaW.PrintLast Go.Proofs.Ytgapcmmhbegdeaa.MPure Go.Proofs.Ytgapcmmhbegdeaa.MWord Go.Proofs.Ytgapcmmhbegdeaa.MNote

theorem drop_get {α : Type} (l : List (List α)) (i : Nat) (h : i < l.length) : l.drop i = l.getD i [] :: l.drop (i + 1) := by
  rw [List.drop_eq_getElem_cons h, List.getD_eq_getElem?_getD, List.getElem?_eq_getElem h]
  rfl
theorem get_mem {α : Type} (l : List (List α)) (i : Nat) (h : i < l.length) : l.getD i [] ∈ l := by
  rw [List.getD_eq_getElem?_getD, List.getElem?_eq_getElem h]
  exact List.getElem_mem h
/-- What a law's rows of rows bear. -/
def GivenSS (l : List (List NL)) : Prop := (∀ a_, a_ ∈ l → Given a_) ∧ l.length * 24 ≤ 140737488351232
def convS (l : List (List NL)) : List (List NI) := l.map (fun q => q.map conv)
theorem convS_length (l : List (List NL)) : (convS l).length = l.length := by simp [convS]
/-! ### which rows of rows are tiers -/
def SizedSS (l : List (List NI)) : Prop := l.length ≤ 140737488351232 ∧ ∀ q, q ∈ l → Sized q
theorem GivenSS.sized {l : List (List NL)} (h : GivenSS l) : SizedSS (convS l) := by
  refine ⟨by rw [convS_length]; have := h.2; omega, fun q hq => ?_⟩
  obtain ⟨y, hy, rfl⟩ := List.mem_map.1 hq
  exact (h.1 y hy).sized
def tiersB (l : List (List NI)) : Bool := decide (1 ≤ (l.length : Int) ∧ (l.length : Int) ≤ 5) && l.all tierB
theorem agTiers_ (l : List (List NI)) (hl : SizedSS l) : Ev (fun k => yAV.f k l) (tiersB l) := by
  obtain ⟨hn, hs⟩ := hl
  unfold yAV.f
  have h := loop_all0 (L := fun k i => yAV.l0 k l l (l.length : Int) i) l.length (fun i => tierB (l.getD i [])) (decide (1 ≤ (l.length : Int) ∧ (l.length : Int) ≤ 5))
    (Ev.step (fun _ => yAV.l0.eq_2 ..) (Ev.neg (by omega) (Ev.have (l1In_ _ _ _) (Ev.some rfl))))
    (fun i hi hp r ih => by
      rw [← wrap_succ (by omega)] at ih
      exact Ev.step (fun _ => yAV.l0.eq_2 ..) (Ev.pos (by omega) (Ev.pos (by omega) (Ev.pos (by omega) (Ev.bind (tiGood_ _ (hs _ (get_mem l i hi))) (Ev.pos hp ih))))))
    (fun i hi hp => Ev.step (fun _ => yAV.l0.eq_2 ..) (Ev.pos (by omega) (Ev.pos (by omega) (Ev.pos (by omega) (Ev.bind (tiGood_ _ (hs _ (get_mem l i hi))) (Ev.neg (by show ¬ tierB (l.getD i []) = true; rw [hp]; decide) (Ev.some rfl)))))))
  refine Ev.eq h ?_
  unfold tiersB
  rw [Bool.and_comm]
  congr 1
  rw [Bool.eq_iff_iff, List.all_eq_true, List.all_eq_true]
  constructor
  · intro H x hx
    obtain ⟨j, hj, rfl⟩ := List.mem_iff_getElem.1 hx
    have := H j (List.mem_range.2 hj)
    rwa [List.getD_eq_getElem?_getD, List.getElem?_eq_getElem hj] at this
  · intro H j hj
    exact H _ (get_mem l j (List.mem_range.1 hj))
theorem all_ : ∀ (l : List (List NI)), (∀ q, q ∈ l → Sized q) → Ev (fun k => yAN.all k l) (l.all tierB)
  | [], _ => Ev.some rfl
  | q :: l, h => Ev.bind (IsTier_ q (h q (List.mem_cons_self ..))) (Ev.bind (all_ l (fun x hx => h x (List.mem_cons_of_mem _ hx))) (Ev.some rfl))
theorem areTiers_ (l : List (List NI)) (hl : SizedSS l) : Ev (fun k => yAN.f k l) (tiersB l) := by
  unfold yAN.f tiersB
  refine Ev.have (within_ _ _ _) (Ev.ite (fun h => ?_) (fun h => ?_))
  · rw [h, Bool.true_and]
    exact all_ l hl.2
  · rw [Bool.eq_false_iff.2 h, Bool.false_and]
    exact Ev.some rfl
theorem tiersB_in {l : List (List NI)} (h : tiersB l = true) : 1 ≤ l.length ∧ l.length ≤ 5 ∧ ∀ q, q ∈ l → tierB q = true := by
  unfold tiersB at h
  simp only [Bool.and_eq_true, decide_eq_true_eq, List.all_eq_true] at h
  exact ⟨by omega, by omega, h.2⟩
end Go.Proofs.Ytgapcmmhbegdeaa.MNoteSS
end
section
/- BestAnnotator: what the reference and the program answer, in plain words. No condition. -/
namespace Go.Proofs.Ytgapcmmhbegdeaa.MBest
open Go.RowKit Go.Proofs.Ytgapcmmhbegdeaa.G Go.Proofs.YtgapcmmhbegdeaaW.PrintWords Go.Proofs.YtgapcmmhbegdeaaW.PrintLast Go.Proofs.Ytgapcmmhbegdeaa.MPure Go.Proofs.Ytgapcmmhbegdeaa.MWord Go.Proofs.Ytgapcmmhbegdeaa.MNote Go.Proofs.Ytgapcmmhbegdeaa.MWin Go.Proofs.Ytgapcmmhbegdeaa.MSame Go.Proofs.Ytgapcmmhbegdeaa.MNoteSS

/-- How often a row agrees with the rows of a list that is numbered from j on, its own number i left out. -/
def rowSum (x : List NI) (i : Int) (d : Nat) (a : Int) : List (List NI) → Int → Int
  | [], _ => 0
  | y :: l, j => (if j = i then 0 else sameN x y d a) + rowSum x i d a l (j + 1)
/-- The first row of the greatest sum. -/
def bestOf (T : List (List NI)) (d : Nat) (a : Int) : List (List NI) → Int → Int → Int → Int × Int
  | [], _, b, m => (b, m)
  | x :: l, i, b, m => if rowSum x i d a T 0 > m then bestOf T d a l (i + 1) i (rowSum x i d a T 0) else bestOf T d a l (i + 1) b m
theorem inner_s (T : List (List NI)) (hT : SizedSS T) (ht : tiersB T = true) (a b : Int) (hw : windowB a b = true) (best most i : Int) (x : List NI) (hx : x ∈ T) (r : Int × Int × Bool) : ∀ (n j : Nat) (s : Int), j + n = T.length → 0 ≤ s → s + 200 * n ≤ 100000 →
    Ev (fun k => if s + rowSum x i (b - a).toNat a (T.drop j) j > most then yAG.l0 k T a b i (s + rowSum x i (b - a).toNat a (T.drop j) j) T (T.length : Int) (wrap64 (i + 1)) else yAG.l0 k T a b best most T (T.length : Int) (wrap64 (i + 1))) r →
    Ev (fun k => yAG.l1 k T a b best most i x s T (T.length : Int) i T (T.length : Int) (j : Int)) r := by
  obtain ⟨h1, h2, h3⟩ := tiersB_in ht
  have hwin := windowB_in hw
  intro n
  induction n with
  | zero =>
    intro j s hj hs hs2 hr
    have e : T.drop j = [] := List.drop_eq_nil_of_le (by omega)
    rw [e] at hr
    have e2 : s + rowSum x i (b - a).toNat a [] j = s := by show s + 0 = s; omega
    rw [e2] at hr
    exact Ev.step (fun _ => yAG.l1.eq_2 ..) (Ev.neg (by omega) hr)
  | succ n ih =>
    intro j s hj hs hs2 hr
    have hm := get_mem T j (by omega)
    rw [drop_get T j (by omega)] at hr
    have e : rowSum x i (b - a).toNat a (T.getD j [] :: T.drop (j + 1)) j = (if (j : Int) = i then 0 else sameN x (T.getD j []) (b - a).toNat a) + rowSum x i (b - a).toNat a (T.drop (j + 1)) ((j : Int) + 1) := rfl
    rw [e] at hr
    have hb := sameN_bounds x (T.getD j []) (b - a).toNat a
    by_cases hi : (j : Int) = i
    · rw [if_pos hi, Int.zero_add] at hr
      refine Ev.step (fun _ => yAG.l1.eq_2 ..) (Ev.pos (by omega) (Ev.pos (by omega) (Ev.pos (by omega) (Ev.pos hi ?_))))
      rw [wrap_succ (by omega)]
      exact ih (j + 1) s (by omega) hs (by omega) hr
    · rw [if_neg hi, ← Int.add_assoc] at hr
      refine Ev.step (fun _ => yAG.l1.eq_2 ..) (Ev.pos (by omega) (Ev.pos (by omega) (Ev.pos (by omega) (Ev.neg hi (Ev.bind (Same_ x (T.getD j []) (hT.2 x hx) (hT.2 _ hm) (h3 x hx) (h3 _ hm) a b hw).1 ?_)))))
      rw [wrap_succ (by omega), wrap_in (show -9223372036854775808 ≤ s + sameN x (T.getD j []) (b - a).toNat a by omega) (by omega)]
      exact ih (j + 1) _ (by omega) (by omega) (by omega) hr
theorem outer_s (T : List (List NI)) (hT : SizedSS T) (ht : tiersB T = true) (a b : Int) (hw : windowB a b = true) : ∀ (n i : Nat) (best most : Int), i + n = T.length →
    Ev (fun k => yAG.l0 k T a b best most T (T.length : Int) (i : Int)) ((bestOf T (b - a).toNat a (T.drop i) i best most).1, (bestOf T (b - a).toNat a (T.drop i) i best most).2, true) := by
  obtain ⟨h1, h2, h3⟩ := tiersB_in ht
  intro n
  induction n with
  | zero =>
    intro i best most hi
    have e : T.drop i = [] := List.drop_eq_nil_of_le (by omega)
    rw [e]
    exact Ev.step (fun _ => yAG.l0.eq_2 ..) (Ev.neg (by omega) (Ev.some rfl))
  | succ n ih =>
    intro i best most hi
    have hm := get_mem T i (by omega)
    rw [drop_get T i (by omega)]
    refine Ev.step (fun _ => yAG.l0.eq_2 ..) (Ev.pos (by omega) (Ev.pos (by omega) (Ev.pos (by omega) (inner_s T hT ht a b hw best most i (T.getD i []) hm _ T.length 0 0 (by omega) (by omega) (by omega) ?_))))
    rw [List.drop_zero, Int.zero_add, wrap_succ (by omega)]
    refine Ev.ite (fun h => ?_) (fun h => ?_)
    · have e : bestOf T (b - a).toNat a (T.getD i [] :: T.drop (i + 1)) i best most = bestOf T (b - a).toNat a (T.drop (i + 1)) ((i + 1 : Nat) : Int) i (rowSum (T.getD i []) i (b - a).toNat a T 0) := if_pos h
      rw [e]
      exact ih (i + 1) _ _ (by omega)
    · have e : bestOf T (b - a).toNat a (T.getD i [] :: T.drop (i + 1)) i best most = bestOf T (b - a).toNat a (T.drop (i + 1)) ((i + 1 : Nat) : Int) best most := if_neg h
      rw [e]
      exact ih (i + 1) _ _ (by omega)
theorem inner_i (T : List (List NI)) (hT : SizedSS T) (ht : tiersB T = true) (a b : Int) (hw : windowB a b = true) (best most i : Int) (x : List NI) (hx : x ∈ T) (r : Int × Int × Bool) : ∀ (n j : Nat) (s : Int), j + n = T.length → 0 ≤ s → s + 200 * n ≤ 100000 →
    Ev (fun k => if s + rowSum x i (b - a).toNat a (T.drop j) j > most then yAH.l0 k T a b i (s + rowSum x i (b - a).toNat a (T.drop j) j) T (T.length : Int) (wrap64 (i + 1)) else yAH.l0 k T a b best most T (T.length : Int) (wrap64 (i + 1))) r →
    Ev (fun k => yAH.l1 k T a b best most i x s T (T.length : Int) i T (T.length : Int) (j : Int)) r := by
  obtain ⟨h1, h2, h3⟩ := tiersB_in ht
  have hwin := windowB_in hw
  intro n
  induction n with
  | zero =>
    intro j s hj hs hs2 hr
    have e : T.drop j = [] := List.drop_eq_nil_of_le (by omega)
    rw [e] at hr
    have e2 : s + rowSum x i (b - a).toNat a [] j = s := by show s + 0 = s; omega
    rw [e2] at hr
    exact Ev.step (fun _ => yAH.l1.eq_2 ..) (Ev.neg (by omega) hr)
  | succ n ih =>
    intro j s hj hs hs2 hr
    have hm := get_mem T j (by omega)
    rw [drop_get T j (by omega)] at hr
    have e : rowSum x i (b - a).toNat a (T.getD j [] :: T.drop (j + 1)) j = (if (j : Int) = i then 0 else sameN x (T.getD j []) (b - a).toNat a) + rowSum x i (b - a).toNat a (T.drop (j + 1)) ((j : Int) + 1) := rfl
    rw [e] at hr
    have hb := sameN_bounds x (T.getD j []) (b - a).toNat a
    by_cases hi : (j : Int) = i
    · rw [if_pos hi, Int.zero_add] at hr
      refine Ev.step (fun _ => yAH.l1.eq_2 ..) (Ev.pos (by omega) (Ev.pos (by omega) (Ev.pos (by omega) (Ev.pos hi ?_))))
      rw [wrap_succ (by omega)]
      exact ih (j + 1) s (by omega) hs (by omega) hr
    · rw [if_neg hi, ← Int.add_assoc] at hr
      refine Ev.step (fun _ => yAH.l1.eq_2 ..) (Ev.pos (by omega) (Ev.pos (by omega) (Ev.pos (by omega) (Ev.neg hi (Ev.bind (Same_ x (T.getD j []) (hT.2 x hx) (hT.2 _ hm) (h3 x hx) (h3 _ hm) a b hw).2 ?_)))))
      rw [wrap_succ (by omega), wrap_in (show -9223372036854775808 ≤ s + sameN x (T.getD j []) (b - a).toNat a by omega) (by omega)]
      exact ih (j + 1) _ (by omega) (by omega) (by omega) hr
theorem outer_i (T : List (List NI)) (hT : SizedSS T) (ht : tiersB T = true) (a b : Int) (hw : windowB a b = true) : ∀ (n i : Nat) (best most : Int), i + n = T.length →
    Ev (fun k => yAH.l0 k T a b best most T (T.length : Int) (i : Int)) ((bestOf T (b - a).toNat a (T.drop i) i best most).1, (bestOf T (b - a).toNat a (T.drop i) i best most).2, true) := by
  obtain ⟨h1, h2, h3⟩ := tiersB_in ht
  intro n
  induction n with
  | zero =>
    intro i best most hi
    have e : T.drop i = [] := List.drop_eq_nil_of_le (by omega)
    rw [e]
    exact Ev.step (fun _ => yAH.l0.eq_2 ..) (Ev.neg (by omega) (Ev.some rfl))
  | succ n ih =>
    intro i best most hi
    have hm := get_mem T i (by omega)
    rw [drop_get T i (by omega)]
    refine Ev.step (fun _ => yAH.l0.eq_2 ..) (Ev.pos (by omega) (Ev.pos (by omega) (Ev.pos (by omega) (inner_i T hT ht a b hw best most i (T.getD i []) hm _ T.length 0 0 (by omega) (by omega) (by omega) ?_))))
    rw [List.drop_zero, Int.zero_add, wrap_succ (by omega)]
    refine Ev.ite (fun h => ?_) (fun h => ?_)
    · have e : bestOf T (b - a).toNat a (T.getD i [] :: T.drop (i + 1)) i best most = bestOf T (b - a).toNat a (T.drop (i + 1)) ((i + 1 : Nat) : Int) i (rowSum (T.getD i []) i (b - a).toNat a T 0) := if_pos h
      rw [e]
      exact ih (i + 1) _ _ (by omega)
    · have e : bestOf T (b - a).toNat a (T.getD i [] :: T.drop (i + 1)) i best most = bestOf T (b - a).toNat a (T.drop (i + 1)) ((i + 1 : Nat) : Int) best most := if_neg h
      rw [e]
      exact ih (i + 1) _ _ (by omega)
def bestR (T : List (List NI)) (a b : Int) : Int × Int × Bool := if (tiersB T && windowB a b) = true then ((bestOf T (b - a).toNat a T 0 0 (-1)).1, (bestOf T (b - a).toNat a T 0 0 (-1)).2, true) else (0, 0, false)
theorem Best_s (T : List (List NI)) (hT : SizedSS T) (a b : Int) : Ev (fun k => yAG.f k T a b) (bestR T a b) := by
  unfold yAG.f bestR
  cases h1 : tiersB T with
  | false => exact Ev.bind (Ev.eq (agTiers_ T hT) h1) (Ev.neg (by decide) (Ev.step (fun _ => yAG.j0.eq_2 ..) (Ev.pos rfl (Ev.some rfl))))
  | true =>
    cases h2 : windowB a b with
    | false => exact Ev.bind (Ev.eq (agTiers_ T hT) h1) (Ev.pos rfl (Ev.have ((agWindow_ a b).trans (congrArg some h2)) (Ev.step (fun _ => yAG.j0.eq_2 ..) (Ev.pos rfl (Ev.some rfl)))))
    | true =>
      have h := outer_s T hT h1 a b h2 T.length 0 0 (-1) (by omega)
      rw [List.drop_zero] at h
      exact Ev.bind (Ev.eq (agTiers_ T hT) h1) (Ev.pos rfl (Ev.have ((agWindow_ a b).trans (congrArg some h2)) (Ev.step (fun _ => yAG.j0.eq_2 ..) (Ev.neg (by decide) h))))
theorem Best_i (T : List (List NI)) (hT : SizedSS T) (a b : Int) : Ev (fun k => yAH.f k T a b) (bestR T a b) := by
  unfold yAH.f bestR
  cases h1 : tiersB T with
  | false => exact Ev.bind (Ev.eq (areTiers_ T hT) h1) (Ev.neg (by decide) (Ev.step (fun _ => yAH.j0.eq_2 ..) (Ev.pos rfl (Ev.some rfl))))
  | true =>
    cases h2 : windowB a b with
    | false => exact Ev.bind (Ev.eq (areTiers_ T hT) h1) (Ev.pos rfl (Ev.have ((isWindow_ a b).trans (congrArg some h2)) (Ev.step (fun _ => yAH.j0.eq_2 ..) (Ev.pos rfl (Ev.some rfl)))))
    | true =>
      have h := outer_i T hT h1 a b h2 T.length 0 0 (-1) (by omega)
      rw [List.drop_zero] at h
      exact Ev.bind (Ev.eq (areTiers_ T hT) h1) (Ev.pos rfl (Ev.have ((isWindow_ a b).trans (congrArg some h2)) (Ev.step (fun _ => yAH.j0.eq_2 ..) (Ev.neg (by decide) h))))
end Go.Proofs.Ytgapcmmhbegdeaa.MBest
end
section
/- What the laws draw: every cursor's function answers, and what it answers. No condition. -/
namespace Go.Proofs.Ytgapcmmhbegdeaa.MDraw
open Go.RowKit Go.Proofs.Ytgapcmmhbegdeaa.G Go.Proofs.YtgapcmmhbegdeaaW.PrintWords Go.Proofs.YtgapcmmhbegdeaaW.PrintLast Go.Proofs.Ytgapcmmhbegdeaa.MPure

/-- The bytes that come in. -/
def Bytes (s : List Int) : Prop := ∀ a, a ∈ s → (Lit.int .u8 a).wf = true
theorem Bytes.at {s : List Int} (h : Bytes s) (i : Int) (h0 : 0 ≤ i) (h1 : i < (s.length : Int)) : 0 ≤ rd s i ∧ rd s i ≤ 255 := by
  have hm : rd s i ∈ s := by
    show s.getD i.toNat 0 ∈ s
    rw [List.getD_eq_getElem?_getD, List.getElem?_eq_getElem (show i.toNat < s.length by omega)]
    exact List.getElem_mem _
  have := h _ hm
  simp only [Lit.wf, Bool.and_eq_true, decide_eq_true_eq] at this
  exact this
theorem and_255 (x : Int) : 0 ≤ Go.bits .and .u64 x 255 ∧ Go.bits .and .u64 x 255 ≤ 255 := by
  have h : ((BitVec.ofInt IntKind.u64.bits x) &&& (BitVec.ofInt IntKind.u64.bits 255)).toNat ≤ 255 := by
    rw [BitVec.toNat_and]
    exact Nat.le_trans Nat.and_le_right (by decide)
  unfold Go.bits
  simp only
  generalize ((BitVec.ofInt IntKind.u64.bits x) &&& (BitVec.ofInt IntKind.u64.bits 255)).toNat = n at h
  have e : IntKind.u64.wrap (n : Int) = (n : Int) := by
    have h1 : (0 : Int) ≤ n := by omega
    have h2 : (n : Int) ≤ 255 := by omega
    generalize (n : Int) = z at h1 h2
    unfold IntKind.wrap
    simp [IntKind.signed, IntKind.bits]
    omega
  rw [e]
  omega
theorem next_ (s : List Int) (hs : Bytes s) (a d : Int) (h0 : 0 ≤ a) (h1 : a ≤ 1000000000000000) : ∃ v d', yAk.f s a d = some (v, a + 1, d') ∧ 0 ≤ v ∧ v ≤ 255 := by
  have hw : wrap64 (a + 1) = a + 1 := wrap_in (by omega) (by omega)
  unfold yAk.f
  rw [hw]
  split
  · rename_i h
    have hr := hs.at a h0 h
    have hv : wrap64 (rd s a) = rd s a := wrap_in (by omega) (by omega)
    rw [if_pos (by omega), hv]
    exact ⟨_, _, rfl, hr.1, hr.2⟩
  · split
    · exact ⟨_, _, rfl, by omega, by omega⟩
    · have hb := and_255 ((IntKind.u64.wrap ((IntKind.u64.wrap ((IntKind.u64.wrap (d * 6364136223846793005)) + 0)) + 1442695040888963407)) / 1099511627776)
      refine ⟨_, _, rfl, ?_, ?_⟩
      · rw [wrap_in (by omega) (by omega)]; exact hb.1
      · rw [wrap_in (by omega) (by omega)]; exact hb.2
theorem pick_ (s : List Int) (hs : Bytes s) (a d n : Int) (h0 : 0 ≤ a) (h1 : a ≤ 1000000000000) : ∃ v a' d', yAD.f s a d n = some (v, a', d') ∧ 0 ≤ v ∧ v ≤ 65535 ∧ (1 ≤ n → v < n) ∧ a ≤ a' ∧ a' ≤ a + 2 := by
  unfold yAD.f
  split
  · exact ⟨_, _, _, rfl, by omega, by omega, fun h => by omega, by omega, by omega⟩
  · rename_i hn
    obtain ⟨v, d1, e1, v0, v1⟩ := next_ s hs a d h0 (by omega)
    rw [e1]
    simp only [Option.bind_some]
    split
    · obtain ⟨u, d2, e2, u0, u1⟩ := next_ s hs (a + 1) d1 (by omega) (by omega)
      rw [e2]
      simp only [Option.bind_some]
      rw [if_neg (by omega), wrap_in (show -9223372036854775808 ≤ v * 256 by omega) (by omega), wrap_in (show -9223372036854775808 ≤ v * 256 + u by omega) (by omega)]
      have t0 := Int.tmod_nonneg n (show 0 ≤ v * 256 + u by omega)
      have t1 := Int.tmod_lt_of_pos (v * 256 + u) (show 0 < n by omega)
      have t2 : Int.tmod (v * 256 + u) n ≤ v * 256 + u := by
        rw [Int.tmod_eq_emod_of_nonneg (by omega)]
        have := Int.mul_ediv_add_emod (v * 256 + u) n
        have h3 : 0 ≤ (v * 256 + u) / n := Int.ediv_nonneg (by omega) (by omega)
        have h4 : 0 ≤ n * ((v * 256 + u) / n) := Int.mul_nonneg (by omega) h3
        omega
      exact ⟨_, _, _, rfl, t0, by omega, fun _ => t1, by omega, by omega⟩
    · rw [if_neg (by omega)]
      have t0 := Int.tmod_nonneg n v0
      have t1 := Int.tmod_lt_of_pos v (show 0 < n by omega)
      have t2 : Int.tmod v n ≤ v := by
        rw [Int.tmod_eq_emod_of_nonneg v0]
        have := Int.mul_ediv_add_emod v n
        have h3 : 0 ≤ v / n := Int.ediv_nonneg v0 (by omega)
        have h4 : 0 ≤ n * (v / n) := Int.mul_nonneg (by omega) h3
        omega
      exact ⟨_, _, _, rfl, t0, by omega, fun _ => t1, by omega, by omega⟩
theorem one_ (s : List Int) (hs : Bytes s) (a d n : Int) (h0 : 0 ≤ a) (h1 : a ≤ 1000000000000) : ∃ v a' d', yAP.f s a d n = some (v, a', d') ∧ a ≤ a' ∧ a' ≤ a + 2 := by
  obtain ⟨v, a', d', e, _, _, _, g1, g2⟩ := pick_ s hs a d n h0 h1
  unfold yAP.f
  rw [e]
  exact ⟨_, _, _, rfl, g1, g2⟩
theorem among_ (s : List Int) (hs : Bytes s) (a d : Int) (l : List Int) (hl : 0 < l.length) (h0 : 0 ≤ a) (h1 : a ≤ 1000000000000) : ∃ v a' d', yAA.f s a d l = some (v, a', d') ∧ v ∈ l ∧ a ≤ a' ∧ a' ≤ a + 2 := by
  obtain ⟨v, a', d', e, v0, _, v1, g1, g2⟩ := pick_ s hs a d (l.length : Int) h0 h1
  have hv := v1 (by omega)
  unfold yAA.f
  rw [e]
  simp only [Option.bind_some]
  rw [if_pos v0, if_pos hv]
  refine ⟨_, _, _, rfl, ?_, g1, g2⟩
  show l.getD v.toNat 0 ∈ l
  rw [List.getD_eq_getElem?_getD, List.getElem?_eq_getElem (show v.toNat < l.length by omega)]
  exact List.getElem_mem _
theorem of_ (s : List Int) (hs : Bytes s) (a d : Int) (l : List ByteArray) (hl : 0 < l.length) (h0 : 0 ≤ a) (h1 : a ≤ 1000000000000) : ∃ v a' d', yAU.f s a d l = some (v, a', d') ∧ v ∈ l ∧ a ≤ a' ∧ a' ≤ a + 2 := by
  obtain ⟨v, a', d', e, v0, _, v1, g1, g2⟩ := pick_ s hs a d (l.length : Int) h0 h1
  have hv := v1 (by omega)
  unfold yAU.f
  rw [e]
  simp only [Option.bind_some]
  rw [if_pos v0, if_pos hv]
  refine ⟨_, _, _, rfl, ?_, g1, g2⟩
  show l.getD v.toNat ByteArray.empty ∈ l
  rw [List.getD_eq_getElem?_getD, List.getElem?_eq_getElem (show v.toNat < l.length by omega)]
  exact List.getElem_mem _
/-- A number of the machine. -/
def I64 (z : Int) : Prop := -9223372036854775808 ≤ z ∧ z ≤ 9223372036854775807
theorem wrap_i64 (z : Int) : I64 (wrap64 z) := by unfold I64 wrap64; omega
end Go.Proofs.Ytgapcmmhbegdeaa.MDraw
end
section
/- The drawn tiers: every draw answers with notes that are sized. No condition. -/
namespace Go.Proofs.Ytgapcmmhbegdeaa.MDrawT
open Go.RowKit Go.Proofs.Ytgapcmmhbegdeaa.G Go.Proofs.YtgapcmmhbegdeaaW.PrintWords Go.Proofs.YtgapcmmhbegdeaaW.PrintLast Go.Proofs.Ytgapcmmhbegdeaa.MPure Go.Proofs.Ytgapcmmhbegdeaa.MWord Go.Proofs.Ytgapcmmhbegdeaa.MNote Go.Proofs.Ytgapcmmhbegdeaa.MDraw

theorem note_ (s : List Int) (hs : Bytes s) (a d f : Int) (h0 : 0 ≤ a) (h1 : a ≤ 100000000000) : ∃ x y g a' d', yA2.f s a d f = some (x, y, g, a', d') ∧ g.size ≤ 100 ∧ a ≤ a' ∧ a' ≤ a + 10 := by
  obtain ⟨v1, a1, d1, e1, m1, p1, q1⟩ := among_ s hs a d [1, 5, 8, 20] (by decide) h0 (by omega)
  obtain ⟨v2, a2, d2, e2, m2, p2, q2⟩ := of_ s hs a1 d1 [(⟨#[72, 79, 85, 83, 69]⟩ : ByteArray), (⟨#[71, 79]⟩ : ByteArray), (⟨#[73]⟩ : ByteArray), (⟨#[89, 79, 85]⟩ : ByteArray), (⟨#[71, 79]⟩ : ByteArray), (⟨#[71, 73, 86, 69]⟩ : ByteArray), (⟨#[66, 79, 79, 75]⟩ : ByteArray)] (by decide) (by omega) (by omega)
  obtain ⟨v3, a3, d3, e3, _, _, _, p3, q3⟩ := pick_ s hs a2 d2 60 (by omega) (by omega)
  have hg : v2.size ≤ 100 := by
    simp only [List.mem_cons, List.not_mem_nil, or_false] at m2
    rcases m2 with rfl | rfl | rfl | rfl | rfl | rfl | rfl <;> decide
  unfold yA2.f
  rw [e1]; simp only [Option.bind_some]; rw [e2]; simp only [Option.bind_some]; rw [e3]; simp only [Option.bind_some]
  split
  · obtain ⟨v4, a4, d4, e4, m4, p4, q4⟩ := among_ s hs a3 d3 [f, wrap64 (f - 1), 100000] (by simp) (by omega) (by omega)
    rw [e4]
    exact ⟨_, _, _, _, _, rfl, hg, by show a ≤ a4; omega, by show a4 ≤ a + 10; omega⟩
  · split
    · obtain ⟨v4, a4, d4, e4, m4, p4, q4⟩ := of_ s hs a3 d3 [(⟨#[]⟩ : ByteArray), (⟨#[103, 111]⟩ : ByteArray), (⟨#[78, 73, 78, 69, 76, 69, 84, 84, 82]⟩ : ByteArray)] (by decide) (by omega) (by omega)
      rw [e4]
      refine ⟨_, _, _, _, _, rfl, ?_, by show a ≤ a4; omega, by show a4 ≤ a + 10; omega⟩
      simp only [List.mem_cons, List.not_mem_nil, or_false] at m4
      show v4.size ≤ 100
      rcases m4 with rfl | rfl | rfl <;> decide
    · split
      · obtain ⟨v4, a4, d4, e4, m4, p4, q4⟩ := among_ s hs a3 d3 [(-1), (-9223372036854775808)] (by decide) (by omega) (by omega)
        rw [e4]
        exact ⟨_, _, _, _, _, rfl, hg, by show a ≤ a4; omega, by show a4 ≤ a + 10; omega⟩
      · exact ⟨_, _, _, _, _, rfl, hg, by show a ≤ a3; omega, by show a3 ≤ a + 10; omega⟩
/-- Notes with short texts. -/
def Short (l : List NI) : Prop := ∀ x, x ∈ l → x.f2.size ≤ 100
theorem Short.sized {l : List NI} (h : Short l) (hl : l.length ≤ 100) : Sized l := ⟨by omega, fun x hx => Nat.le_trans (h x hx) (by decide)⟩
theorem Short.snoc {l : List NI} (h : Short l) {x : NI} (hx : x.f2.size ≤ 100) : Short (l ++ [x]) := fun y hy => by
  rcases List.mem_append.1 hy with hy | hy
  · exact h y hy
  · obtain rfl := List.mem_singleton.1 hy; exact hx
theorem most_ (a b : Int) : ∃ v, yAf.f a b = some v := by
  unfold yAf.f
  split <;> exact ⟨_, rfl⟩
theorem least_ (a b : Int) : ∃ v, yAl.f a b = some v := by
  unfold yAl.f
  split <;> exact ⟨_, rfl⟩
theorem tier_loop (s : List Int) (hs : Bytes s) : ∀ (n : Nat) (l : List NI) (f m a d : Int), l.length + n = m.toNat → m ≤ 60 → Short l → 0 ≤ a → a + 20 * n ≤ 10000000000 → ∃ r a' d', Ev (fun k => yAF.l0 k l f m s a d) (r, a', d') ∧ r.length ≤ l.length + n ∧ Short r ∧ a ≤ a' ∧ a' ≤ a + 20 * n := by
  intro n
  induction n with
  | zero =>
    intro l f m a d hl hm hS h0 h1
    exact ⟨l, a, d, Ev.step (fun _ => yAF.l0.eq_2 ..) (Ev.neg (by omega) (Ev.some rfl)), by omega, hS, by omega, by omega⟩
  | succ n ih =>
    intro l f m a d hl hm hS h0 h1
    obtain ⟨x, y, g, a1, d1, e1, hg, p1, q1⟩ := note_ s hs a d f h0 (by omega)
    have step : ∀ (b : Bool) (a2 d2 : Int), a1 ≤ a2 → a2 ≤ a1 + 2 → (b = true → 0 < l.length) → ∃ r a' d', Ev (fun k => yAF.j2 k l m (l.length : Int) b s a2 d2 x y g) (r, a', d') ∧ r.length ≤ l.length + (n + 1) ∧ Short r ∧ a ≤ a' ∧ a' ≤ a + 20 * ((n + 1 : Nat) : Int) := by
      intro b a2 d2 pa qa hb
      obtain ⟨v5, e5⟩ := most_ 0 y
      obtain ⟨v6, e6⟩ := least_ 90000 v5
      obtain ⟨v7, a7, d7, e7, _, p7, q7⟩ := among_ s hs a2 d2 [0, 0, 2, 5] (by decide) (by omega) (by omega)
      cases b with
      | true =>
        have hpos := hb rfl
        have hp := wrap_pred (i := l.length) hpos (by omega)
        have hmem : rd_T58 l ((l.length - 1 : Nat) : Int) ∈ l := by
          show l.getD (l.length - 1) z58 ∈ l
          rw [List.getD_eq_getElem?_getD, List.getElem?_eq_getElem (show l.length - 1 < l.length by omega)]
          exact List.getElem_mem _
        have hsm := hS _ hmem
        obtain ⟨r, a', d', er, hr, hSr, pr, qr⟩ := ih (l ++ [⟨x, y, (rd_T58 l ((l.length - 1 : Nat) : Int)).f2⟩]) (wrap64 (v6 + v7)) m a7 d7 (by rw [List.length_append]; show l.length + 1 + n = _; omega) hm (hS.snoc hsm) (by omega) (by omega)
        refine ⟨r, a', d', Ev.step (fun _ => yAF.j2.eq_2 ..) (Ev.pos rfl ?_), by rw [List.length_append] at hr; show r.length ≤ _; have : ([⟨x, y, (rd_T58 l ((l.length - 1 : Nat) : Int)).f2⟩] : List NI).length = 1 := rfl; omega, hSr, by omega, by omega⟩
        rw [hp]
        exact Ev.pos (by omega) (Ev.pos (by omega) (Ev.pos (by omega) (Ev.have e5 (Ev.have e6 (Ev.have e7 er)))))
      | false =>
        obtain ⟨r, a', d', er, hr, hSr, pr, qr⟩ := ih (l ++ [⟨x, y, g⟩]) (wrap64 (v6 + v7)) m a7 d7 (by rw [List.length_append]; show l.length + 1 + n = _; omega) hm (hS.snoc hg) (by omega) (by omega)
        refine ⟨r, a', d', Ev.step (fun _ => yAF.j2.eq_2 ..) (Ev.neg (by decide) ?_), by rw [List.length_append] at hr; have : ([⟨x, y, g⟩] : List NI).length = 1 := rfl; omega, hSr, by omega, by omega⟩
        exact Ev.pos (by omega) (Ev.have e5 (Ev.have e6 (Ev.have e7 er)))
    by_cases hpos : 0 < l.length
    · obtain ⟨b, a2, d2, e2, p2, q2⟩ := one_ s hs a1 d1 4 (by omega) (by omega)
      obtain ⟨r, a', d', er, hr, hSr, pr, qr⟩ := step b a2 d2 p2 q2 (fun _ => hpos)
      exact ⟨r, a', d', Ev.step (fun _ => yAF.l0.eq_2 ..) (Ev.pos (by omega) (Ev.have e1 (Ev.pos (by omega) (Ev.have e2 er)))), hr, hSr, pr, qr⟩
    · obtain ⟨r, a', d', er, hr, hSr, pr, qr⟩ := step false a1 d1 (by omega) (by omega) (fun h => (nomatch h))
      exact ⟨r, a', d', Ev.step (fun _ => yAF.l0.eq_2 ..) (Ev.pos (by omega) (Ev.have e1 (Ev.neg (by omega) er))), hr, hSr, pr, qr⟩
/-- A drawn tier: at most 41 notes with short texts. -/
theorem tier_ (s : List Int) (hs : Bytes s) (a d : Int) (h0 : 0 ≤ a) (h1 : a ≤ 1000000000) : ∃ r a' d', Ev (fun k => yAF.f k s a d) (r, a', d') ∧ r.length ≤ 60 ∧ Short r ∧ a ≤ a' ∧ a' ≤ a + 2000 := by
  obtain ⟨v1, a1, d1, e1, _, _, _, p1, q1⟩ := pick_ s hs a d 10 h0 (by omega)
  obtain ⟨v2, a2, d2, e2, v20, _, v21, p2, q2⟩ := pick_ s hs a1 d1 8 (by omega) (by omega)
  obtain ⟨b, a3, d3, e3, p3, q3⟩ := one_ s hs a2 d2 12 (by omega) (by omega)
  have hv2 := v21 (by omega)
  have go : ∀ (m a4 d4 : Int), 0 ≤ m → m ≤ 60 → a ≤ a4 → a4 ≤ a + 10 → ∃ r a' d', Ev (fun k => yAF.j0 k [] v1 m s a4 d4) (r, a', d') ∧ r.length ≤ 60 ∧ Short r ∧ a ≤ a' ∧ a' ≤ a + 2000 := by
    intro m a4 d4 hm0 hm pa qa
    obtain ⟨r, a', d', er, hr, hSr, pr, qr⟩ := tier_loop s hs m.toNat [] v1 m a4 d4 (by simp) hm (fun x hx => (nomatch hx)) (by omega) (by omega)
    exact ⟨r, a', d', Ev.step (fun _ => yAF.j0.eq_2 ..) er, by have : ([] : List NI).length = 0 := rfl; omega, hSr, by omega, by omega⟩
  cases b with
  | true =>
    obtain ⟨v4, a4, d4, e4, v40, _, v41, p4, q4⟩ := pick_ s hs a3 d3 2 (by omega) (by omega)
    have hv4 := v41 (by omega)
    obtain ⟨r, a', d', er, hr, hSr, pr, qr⟩ := go (wrap64 (40 + v4)) a4 d4 (by rw [wrap_in (by omega) (by omega)]; omega) (by rw [wrap_in (by omega) (by omega)]; omega) (by omega) (by omega)
    refine ⟨r, a', d', ?_, hr, hSr, pr, qr⟩
    unfold yAF.f
    exact Ev.have e1 (Ev.have e2 (Ev.have e3 (Ev.pos rfl (Ev.have e4 er))))
  | false =>
    obtain ⟨r, a', d', er, hr, hSr, pr, qr⟩ := go v2 a3 d3 v20 (by omega) (by omega) (by omega)
    refine ⟨r, a', d', ?_, hr, hSr, pr, qr⟩
    unfold yAF.f
    exact Ev.have e1 (Ev.have e2 (Ev.have e3 (Ev.neg (show ¬ false = true by decide) er)))
end Go.Proofs.Ytgapcmmhbegdeaa.MDrawT
end
section
/- Drawn windows and pairs of tiers: every draw answers with notes that are sized. No condition. -/
namespace Go.Proofs.Ytgapcmmhbegdeaa.MDrawW
open Go.RowKit Go.Proofs.Ytgapcmmhbegdeaa.G Go.Proofs.YtgapcmmhbegdeaaW.PrintWords Go.Proofs.YtgapcmmhbegdeaaW.PrintLast Go.Proofs.Ytgapcmmhbegdeaa.MPure Go.Proofs.Ytgapcmmhbegdeaa.MWord Go.Proofs.Ytgapcmmhbegdeaa.MNote Go.Proofs.Ytgapcmmhbegdeaa.MDraw Go.Proofs.Ytgapcmmhbegdeaa.MDrawT

theorem window_ (s : List Int) (hs : Bytes s) (a d : Int) (h0 : 0 ≤ a) (h1 : a ≤ 100000000000) : ∃ x y a' d', yAx.f s a d = some (x, y, a', d') ∧ a ≤ a' ∧ a' ≤ a + 10 := by
  obtain ⟨v1, a1, d1, e1, -, -, -, p1, q1⟩ := pick_ s hs a d 40 h0 (by omega)
  obtain ⟨v2, a2, d2, e2, -, p2, q2⟩ := among_ s hs a1 d1 [0, 0, 5, 10, v1] (by simp) (by omega) (by omega)
  obtain ⟨v3, a3, d3, e3, -, p3, q3⟩ := among_ s hs a2 d2 [10, 20, 40, 1, 60] (by simp) (by omega) (by omega)
  obtain ⟨v4, a4, d4, e4, -, -, -, p4, q4⟩ := pick_ s hs a3 d3 24 (by omega) (by omega)
  obtain ⟨u1, b1, c1, f1, -, r1, t1⟩ := among_ s hs a4 d4 [200, 201, 0, (-1)] (by simp) (by omega) (by omega)
  obtain ⟨u2, b2, c2, f2, -, r2, t2⟩ := among_ s hs a4 d4 [(-1), 99998, (-9223372036854775808)] (by simp) (by omega) (by omega)
  obtain ⟨u3, b3, c3, f3, -, r3, t3⟩ := among_ s hs a4 d4 [99999, 100000, 9223372036854775807] (by simp) (by omega) (by omega)
  unfold yAx.f
  rw [e1]; simp only [Option.bind_some]; rw [e2]; simp only [Option.bind_some]; rw [e3]; simp only [Option.bind_some]; rw [e4]; simp only [Option.bind_some]; rw [f1, f2, f3]; simp only [Option.bind_some]
  split
  · exact ⟨_, _, _, _, rfl, by show a ≤ b1; omega, by show b1 ≤ a + 10; omega⟩
  · split
    · exact ⟨_, _, _, _, rfl, by show a ≤ b2; omega, by show b2 ≤ a + 10; omega⟩
    · split
      · exact ⟨_, _, _, _, rfl, by show a ≤ b3; omega, by show b3 ≤ a + 10; omega⟩
      · exact ⟨_, _, _, _, rfl, by show a ≤ a4; omega, by show a4 ≤ a + 10; omega⟩
theorem gloss_ (s : List Int) (hs : Bytes s) (a d : Int) (h0 : 0 ≤ a) (h1 : a ≤ 100000000000) : ∃ g a' d', yAw.f s a d = some (g, a', d') ∧ g.size ≤ 100 ∧ a ≤ a' ∧ a' ≤ a + 2 := by
  obtain ⟨v1, a1, d1, e1, m1, p1, q1⟩ := of_ s hs a d [(⟨#[83, 85, 78]⟩ : ByteArray), (⟨#[72, 79, 85, 83, 69]⟩ : ByteArray), (⟨#[84, 82, 69, 69]⟩ : ByteArray), (⟨#[82, 65, 73, 78]⟩ : ByteArray), (⟨#[66, 79, 79, 75]⟩ : ByteArray), (⟨#[69, 73, 71, 72, 84, 76, 69, 84]⟩ : ByteArray)] (by decide) h0 (by omega)
  have hg : v1.size ≤ 100 := by
    simp only [List.mem_cons, List.not_mem_nil, or_false] at m1
    rcases m1 with rfl | rfl | rfl | rfl | rfl | rfl <;> decide
  unfold yAw.f
  rw [e1]
  exact ⟨_, _, _, rfl, hg, p1, q1⟩
theorem Short.set {l : List NI} (h : Short l) (i : Nat) {x : NI} (hx : x.f2.size ≤ 100) : Short (l.set i x) := fun y hy => by
  rcases List.mem_or_eq_of_mem_set hy with hy | rfl
  · exact h y hy
  · exact hx
theorem rd_mem (s : List NI) (n : Int) (h0 : 0 ≤ n) (h : n < (s.length : Int)) : rd_T58 s n ∈ s := by
  show s.getD n.toNat z58 ∈ s
  rw [List.getD_eq_getElem?_getD, List.getElem?_eq_getElem (show n.toNat < s.length by omega)]
  exact List.getElem_mem _
theorem two_loop (s : List Int) (hs : Bytes s) (x : List NI) (L : Nat) (hL : L ≤ 60) : ∀ (n i : Nat) (y : List NI) (a d : Int), i + n = L → y.length = L → Short y → 0 ≤ a → a + 20 * n ≤ 10000000000 → ∃ r a' d', Ev (fun k => yAC.l0 k x y (L : Int) (i : Int) s a d) (x, r, a', d') ∧ r.length ≤ 60 ∧ Short r ∧ a ≤ a' ∧ a' ≤ a + 20 * n + 10 := by
  intro n
  induction n with
  | zero =>
    intro i y a d hi hl hS h0 h1
    by_cases hp : (y.length : Int) > 0
    · obtain ⟨b, a1, d1, e1, p1, q1⟩ := one_ s hs a d 4 h0 (by omega)
      cases b with
      | true => exact ⟨y.drop 1, a1, d1, Ev.step (fun _ => yAC.l0.eq_2 ..) (Ev.neg (by omega) (Ev.pos hp (Ev.have e1 (Ev.pos rfl (Ev.pos (by omega) (Ev.some rfl)))))), by rw [List.length_drop]; omega, fun z hz => hS z (List.mem_of_mem_drop hz), by omega, by omega⟩
      | false => exact ⟨y, a1, d1, Ev.step (fun _ => yAC.l0.eq_2 ..) (Ev.neg (by omega) (Ev.pos hp (Ev.have e1 (Ev.neg (show ¬ false = true by decide) (Ev.some rfl))))), by omega, hS, by omega, by omega⟩
    · exact ⟨y, a, d, Ev.step (fun _ => yAC.l0.eq_2 ..) (Ev.neg (by omega) (Ev.neg hp (Ev.some rfl))), by omega, hS, by omega, by omega⟩
  | succ n ih =>
    intro i y a d hi hl hS h0 h1
    have hw : wrap64 ((i : Int) + 1) = ((i + 1 : Nat) : Int) := wrap_succ (by omega)
    have hm := hS _ (rd_mem y (i : Int) (by omega) (by omega))
    obtain ⟨v, a1, d1, e1, -, -, -, p1, q1⟩ := pick_ s hs a d 5 h0 (by omega)
    have next : ∀ (z : NI) (a2 d2 : Int), z.f2.size ≤ 100 → a1 ≤ a2 → a2 ≤ a1 + 4 → ∃ r a' d', Ev (fun k => yAC.l0 k x (y.set (i : Int).toNat z) (L : Int) (wrap64 ((i : Int) + 1)) s a2 d2) (x, r, a', d') ∧ r.length ≤ 60 ∧ Short r ∧ a ≤ a' ∧ a' ≤ a + 20 * ((n + 1 : Nat) : Int) + 10 := by
      intro z a2 d2 hz pa qa
      obtain ⟨r, a', d', er, hr, hSr, pr, qr⟩ := ih (i + 1) (y.set (i : Int).toNat z) a2 d2 (by omega) (by rw [List.length_set]; exact hl) (Short.set hS _ hz) (by omega) (by omega)
      rw [hw]
      exact ⟨r, a', d', er, hr, hSr, by omega, by omega⟩
    have lead : ∀ {r a' d'}, Ev (fun k => if v = 0 then ((yAw.f s a1 d1).bind fun bt131 => (yAC.l0 k x (y.set (i : Int).toNat (⟨(rd_T58 y (i : Int)).f0, (rd_T58 y (i : Int)).f1, bt131.1⟩ : NI)) (L : Int) (wrap64 ((i : Int) + 1)) s bt131.2.1 bt131.2.2)) else (if v = 1 then ((yAD.f s a1 d1 3).bind fun bt135 => ((yAf.f (wrap64 (((rd_T58 y (i : Int)).f0) + 1)) (wrap64 (((rd_T58 y (i : Int)).f1) - bt135.1))).bind fun t138 => (yAC.l0 k x (y.set (i : Int).toNat (⟨(rd_T58 y (i : Int)).f0, t138, (rd_T58 y (i : Int)).f2⟩ : NI)) (L : Int) (wrap64 ((i : Int) + 1)) s bt135.2.1 bt135.2.2))) else (if v = 2 then ((yAD.f s a1 d1 3).bind fun bt140 => ((yAl.f (wrap64 (((rd_T58 y (i : Int)).f1) - 1)) (wrap64 (((rd_T58 y (i : Int)).f0) + bt140.1))).bind fun t143 => (yAC.l0 k x (y.set (i : Int).toNat (⟨t143, (rd_T58 y (i : Int)).f1, (rd_T58 y (i : Int)).f2⟩ : NI)) (L : Int) (wrap64 ((i : Int) + 1)) s bt140.2.1 bt140.2.2))) else (yAC.l0 k x (y.set (i : Int).toNat (⟨(rd_T58 y (i : Int)).f0, (rd_T58 y (i : Int)).f1, (rd_T58 y (i : Int)).f2⟩ : NI)) (L : Int) (wrap64 ((i : Int) + 1)) s a1 d1)))) (x, r, a', d') → Ev (fun k => yAC.l0 k x y (L : Int) (i : Int) s a d) (x, r, a', d') := fun h => Ev.step (fun _ => yAC.l0.eq_2 ..) (Ev.pos (by omega) (Ev.pos (by omega) (Ev.pos (by omega) (Ev.have e1 h))))
    by_cases c0 : v = 0
    · obtain ⟨g, a2, d2, e2, hg, p2, q2⟩ := gloss_ s hs a1 d1 (by omega) (by omega)
      obtain ⟨r, a', d', er, hr, hSr, pr, qr⟩ := next ⟨(rd_T58 y (i : Int)).f0, (rd_T58 y (i : Int)).f1, g⟩ a2 d2 hg p2 (by omega)
      exact ⟨r, a', d', lead (Ev.pos c0 (Ev.have e2 er)), hr, hSr, pr, qr⟩
    · obtain ⟨u, a2, d2, e2, -, -, -, p2, q2⟩ := pick_ s hs a1 d1 3 (by omega) (by omega)
      by_cases c1 : v = 1
      · obtain ⟨t, et⟩ := most_ (wrap64 (((rd_T58 y (i : Int)).f0) + 1)) (wrap64 (((rd_T58 y (i : Int)).f1) - u))
        obtain ⟨r, a', d', er, hr, hSr, pr, qr⟩ := next ⟨(rd_T58 y (i : Int)).f0, t, (rd_T58 y (i : Int)).f2⟩ a2 d2 hm p2 (by omega)
        exact ⟨r, a', d', lead (Ev.neg c0 (Ev.pos c1 (Ev.have e2 (Ev.have et er)))), hr, hSr, pr, qr⟩
      · by_cases c2 : v = 2
        · obtain ⟨t, et⟩ := least_ (wrap64 (((rd_T58 y (i : Int)).f1) - 1)) (wrap64 (((rd_T58 y (i : Int)).f0) + u))
          obtain ⟨r, a', d', er, hr, hSr, pr, qr⟩ := next ⟨t, (rd_T58 y (i : Int)).f1, (rd_T58 y (i : Int)).f2⟩ a2 d2 hm p2 (by omega)
          exact ⟨r, a', d', lead (Ev.neg c0 (Ev.neg c1 (Ev.pos c2 (Ev.have e2 (Ev.have et er))))), hr, hSr, pr, qr⟩
        · obtain ⟨r, a', d', er, hr, hSr, pr, qr⟩ := next ⟨(rd_T58 y (i : Int)).f0, (rd_T58 y (i : Int)).f1, (rd_T58 y (i : Int)).f2⟩ a1 d1 hm (by omega) (by omega)
          exact ⟨r, a', d', lead (Ev.neg c0 (Ev.neg c1 (Ev.neg c2 er))), hr, hSr, pr, qr⟩
theorem twoTiers_ (s : List Int) (hs : Bytes s) (a d : Int) (h0 : 0 ≤ a) (h1 : a ≤ 1000000) : ∃ x y a' d', Ev (fun k => yAC.f k s a d) (x, y, a', d') ∧ x.length ≤ 60 ∧ Short x ∧ y.length ≤ 60 ∧ Short y ∧ a ≤ a' ∧ a' ≤ a + 10000 := by
  obtain ⟨x, a1, d1, e1, hl, hS, p1, q1⟩ := tier_ s hs a d h0 (by omega)
  obtain ⟨b, a2, d2, e2, p2, q2⟩ := one_ s hs a1 d1 3 (by omega) (by omega)
  unfold yAC.f
  cases b with
  | true =>
    obtain ⟨y, a3, d3, e3, hl3, hS3, p3, q3⟩ := tier_ s hs a2 d2 (by omega) (by omega)
    exact ⟨x, y, a3, d3, Ev.bind e1 (Ev.have e2 (Ev.pos rfl (Ev.bind e3 (Ev.some rfl)))), hl, hS, hl3, hS3, by omega, by omega⟩
  | false =>
    obtain ⟨y, a3, d3, e3, hl3, hS3, p3, q3⟩ := two_loop s hs x x.length hl x.length 0 x a2 d2 (by omega) rfl hS (by omega) (by omega)
    refine ⟨x, y, a3, d3, Ev.bind e1 (Ev.have e2 (Ev.neg (show ¬ false = true by decide) (Ev.have rfl (Ev.pos ?_ (Ev.have rfl ?_))))), hl, hS, hl3, hS3, by omega, by omega⟩
    · show ([] : List NI).length + x.length < 4398046511104
      simp; omega
    · rw [List.nil_append]
      exact e3
end Go.Proofs.Ytgapcmmhbegdeaa.MDrawW
end
section
/- MajorityTier: what the reference and the program answer, in plain words. No condition. -/
namespace Go.Proofs.Ytgapcmmhbegdeaa.MMajor
open Go.RowKit Go.Proofs.Ytgapcmmhbegdeaa.G Go.Proofs.YtgapcmmhbegdeaaW.PrintWords Go.Proofs.YtgapcmmhbegdeaaW.PrintLast Go.Proofs.Ytgapcmmhbegdeaa.MPure Go.Proofs.Ytgapcmmhbegdeaa.MWord Go.Proofs.Ytgapcmmhbegdeaa.MNote Go.Proofs.Ytgapcmmhbegdeaa.MWin Go.Proofs.Ytgapcmmhbegdeaa.MAt0 Go.Proofs.Ytgapcmmhbegdeaa.MGloss Go.Proofs.Ytgapcmmhbegdeaa.MNoteSS
open Go.Proofs.Ytgapcmmhbegdeaa.MMap (cnt)

theorem cnt_cons (t : ByteArray) (l : List ByteArray) (s : ByteArray) : cnt (t :: l) s = (if t.toList = s.toList then 1 else 0) + cnt l s := by
  unfold cnt
  rw [List.filter_cons]
  by_cases h : t.toList = s.toList
  · rw [if_pos (by simp [h]), if_pos h, List.length_cons]; omega
  · rw [if_neg (by simp [h]), if_neg h]; omega
theorem cnt_nonneg (l : List ByteArray) (s : ByteArray) : 0 ≤ cnt l s := (MMap.cnt_le l s).1
theorem cnt_app (s : ByteArray) (m : List ByteArray) : ∀ l : List ByteArray, cnt (l ++ m) s = cnt l s + cnt m s
  | [] => by show cnt m s = ((0 : Nat) : Int) + cnt m s; omega
  | x :: l => by rw [List.cons_append, cnt_cons, cnt_cons, cnt_app s m l]; omega
/-- Two texts that differ. -/
theorem cnt_two (g h : ByteArray) (hd : g.toList ≠ h.toList) : ∀ l : List ByteArray, cnt l g + cnt l h ≤ (l.length : Int)
  | [] => by show ((0 : Nat) : Int) + ((0 : Nat) : Int) ≤ ((0 : Nat) : Int); omega
  | x :: l => by
    have ih := cnt_two g h hd l
    rw [cnt_cons, cnt_cons, List.length_cons]
    by_cases h1 : x.toList = g.toList
    · have h2 : ¬ x.toList = h.toList := fun e => hd (h1.symm.trans e)
      rw [if_pos h1, if_neg h2]; omega
    · rw [if_neg h1]
      split <;> omega
theorem bytes_eq {a b : ByteArray} (h : a.toList = b.toList) : a = b := by
  rw [ByteArray.toList_eq, ByteArray.toList_eq] at h
  exact ByteArray.ext (Array.toList_inj.1 h)
/-- The text that more than half have, or the empty one. -/
def majB (gs : List ByteArray) : ByteArray := match gs.find? (fun g => decide (2 * cnt gs g > (gs.length : Int))) with | some g => g | none => ⟨#[]⟩
theorem maj_is {gs : List ByteArray} {g : ByteArray} (hm : g ∈ gs) (h : 2 * cnt gs g > (gs.length : Int)) : majB gs = g := by
  unfold majB
  cases hf : gs.find? (fun g => decide (2 * cnt gs g > (gs.length : Int))) with
  | none =>
    rw [List.find?_eq_none] at hf
    exact absurd (decide_eq_true h) (hf g hm)
  | some q =>
    have hq := List.find?_some hf
    have hq := of_decide_eq_true hq
    apply bytes_eq
    apply Decidable.byContradiction
    intro hn
    have := cnt_two q g hn gs
    omega
theorem maj_not {gs : List ByteArray} (h : ∀ g, g ∈ gs → ¬ 2 * cnt gs g > (gs.length : Int)) : majB gs = ⟨#[]⟩ := by
  unfold majB
  have hf : gs.find? (fun g => decide (2 * cnt gs g > (gs.length : Int))) = none := by
    rw [List.find?_eq_none]
    intro x hx he
    exact h x hx (of_decide_eq_true he)
  rw [hf]
def glS (T : List (List NI)) (a : Int) : List ByteArray := T.map (fun x => glossB x a)
theorem glS_length (T : List (List NI)) (a : Int) : (glS T a).length = T.length := by simp [glS]
theorem mem_glS {T : List (List NI)} {x : List NI} (h : x ∈ T) (a : Int) : glossB x a ∈ glS T a := List.mem_map.2 ⟨x, h, rfl⟩
theorem gloss_size (x : List NI) (hx : Sized x) (a : Int) : (glossB x a).size ≤ 140737488351232 := by
  unfold glossB
  split
  · rename_i h
    have hr := idxOf_range (inB a) x
    have hm : atN x (idxOf (inB a) x).toNat ∈ x := atN_mem (by omega)
    exact hx.2 _ hm
  · exact Nat.zero_le _
theorem maj_size (T : List (List NI)) (hT : SizedSS T) (a : Int) : (majB (glS T a)).size ≤ 140737488351232 := by
  unfold majB
  split
  · rename_i g hg
    have hm := List.mem_of_find?_eq_some hg
    obtain ⟨x, hx, rfl⟩ := List.mem_map.1 hm
    exact gloss_size x (hT.2 x hx) a
  · exact Nat.zero_le _
/-- The program's. -/
theorem go_ (T : List (List NI)) (hT : SizedSS T) (h3 : ∀ q, q ∈ T → tierB q = true) (h5 : T.length ≤ 5) (a : Int) : ∀ (l : List (List NI)) (seen : List ByteArray), (∀ q, q ∈ l → q ∈ T) → seen ++ glS l a = glS T a → (∀ g, ¬ 2 * cnt seen g > (T.length : Int)) →
    yAY.go (T.length : Int) a l seen = some (majB (glS T a)) := by
  intro l
  induction l with
  | nil =>
    intro seen hl hs hn
    have e : seen = glS T a := by rw [← hs]; simp [glS]
    subst e
    rw [maj_not (fun g _ => by rw [glS_length]; exact hn g)]
    rfl
  | cons x l ih =>
    intro seen hl hs hn
    have hx := hl x (List.mem_cons_self ..)
    have hs2 : (seen ++ [glossB x a]) ++ glS l a = glS T a := by rw [← hs, List.append_assoc]; rfl
    have hle : cnt (seen ++ [glossB x a]) (glossB x a) ≤ cnt (glS T a) (glossB x a) := by
      rw [← hs2, cnt_app _ (glS l a)]
      have := cnt_nonneg (glS l a) (glossB x a)
      omega
    have hcl := MMap.cnt_le (seen ++ [glossB x a]) (glossB x a)
    have hlen : (seen ++ [glossB x a]).length ≤ 5 := by
      have h1 := congrArg List.length hs2
      rw [List.length_append, glS_length, glS_length] at h1
      omega
    unfold yAY.go
    rw [glossAt_ x (h3 x hx) a, Option.bind_some, if_pos (Nat.le_trans (gloss_size x (hT.2 x hx) a) (by omega)), wrap_in (by omega) (by omega)]
    by_cases hg : 2 * cnt (seen ++ [glossB x a]) (glossB x a) > (T.length : Int)
    · rw [if_pos hg, maj_is (gs := glS T a) (g := glossB x a) (mem_glS hx a) (by rw [glS_length]; omega)]
    · rw [if_neg hg]
      refine ih _ (fun q hq => hl q (List.mem_cons_of_mem _ hq)) hs2 (fun g => ?_)
      have hc := MMap.cnt_step seen (glossB x a) g
      by_cases he : (glossB x a).toList == g.toList
      · rw [MMap.cnt_same he]
        exact hg
      · rw [hc, if_neg he]
        exact hn g
theorem majority_ (T : List (List NI)) (hT : SizedSS T) (h : tiersB T = true) (a : Int) : yAY.f T a = some (majB (glS T a)) := by
  obtain ⟨h1, h2, h3⟩ := tiersB_in h
  unfold yAY.f
  rw [if_pos (by omega)]
  exact go_ T hT h3 h2 a T [] (fun q hq => hq) rfl (fun g => by show ¬ 2 * ((0 : Nat) : Int) > _; omega)
/-- The reference's. -/
theorem agMajor_ (T : List (List NI)) (hT : SizedSS T) (h : tiersB T = true) (a : Int) : Ev (fun k => yAQ.f k T a) (majB (glS T a)) := by
  obtain ⟨h1, h2, h3⟩ := tiersB_in h
  have inner : ∀ (x : ByteArray) (i : Int) (r : ByteArray) (n j : Nat) (c : Int), j + n = T.length → 0 ≤ c → c ≤ j →
      Ev (fun k => if 2 * (c + cnt (glS (T.drop j) a) x) > (T.length : Int) then some x else yAQ.l0 k T a T (T.length : Int) (wrap64 (i + 1))) r → Ev (fun k => yAQ.l1 k T a x c T (T.length : Int) i T (T.length : Int) (j : Int)) r := by
    intro x i r n
    induction n with
    | zero =>
      intro j c hj hc hc2 hr
      have e : T.drop j = [] := List.drop_eq_nil_of_le (by omega)
      rw [e] at hr
      have e2 : c + cnt (glS [] a) x = c := by show c + ((0 : Nat) : Int) = c; omega
      rw [e2] at hr
      refine Ev.step (fun _ => yAQ.l1.eq_2 ..) (Ev.neg (by omega) ?_)
      rw [wrap_in (by omega) (by omega)]
      exact hr
    | succ n ih =>
      intro j c hj hc hc2 hr
      have hm := get_mem T j (by omega)
      rw [drop_get T j (by omega)] at hr
      have e : glS (T.getD j [] :: T.drop (j + 1)) a = glossB (T.getD j []) a :: glS (T.drop (j + 1)) a := rfl
      rw [e, cnt_cons] at hr
      refine Ev.step (fun _ => yAQ.l1.eq_2 ..) (Ev.pos (by omega) (Ev.pos (by omega) (Ev.pos (by omega) (Ev.bind (agGloss_ _ (hT.2 _ hm) a) ?_))))
      by_cases hg : (glossB (T.getD j []) a).toList = x.toList
      · rw [if_pos hg, ← Int.add_assoc] at hr
        refine Ev.pos hg ?_
        rw [wrap_succ (by omega), wrap_in (show -9223372036854775808 ≤ c + 1 by omega) (by omega)]
        exact ih (j + 1) (c + 1) (by omega) (by omega) (by omega) hr
      · rw [if_neg hg, Int.zero_add] at hr
        refine Ev.neg hg ?_
        rw [wrap_succ (by omega)]
        exact ih (j + 1) c (by omega) hc (by omega) hr
  have outer : ∀ (n i : Nat), i + n = T.length → (∀ j, j < i → ¬ 2 * cnt (glS T a) (glossB (T.getD j []) a) > (T.length : Int)) → Ev (fun k => yAQ.l0 k T a T (T.length : Int) (i : Int)) (majB (glS T a)) := by
    intro n
    induction n with
    | zero =>
      intro i hi hn
      refine Ev.step (fun _ => yAQ.l0.eq_2 ..) (Ev.neg (by omega) (Ev.some ?_))
      rw [maj_not]
      intro g hg
      obtain ⟨x, hx, rfl⟩ := List.mem_map.1 hg
      obtain ⟨j, hj, rfl⟩ := List.mem_iff_getElem.1 hx
      have := hn j (by omega)
      rw [List.getD_eq_getElem?_getD, List.getElem?_eq_getElem hj] at this
      rw [glS_length]
      exact this
    | succ n ih =>
      intro i hi hn
      have hm := get_mem T i (by omega)
      refine Ev.step (fun _ => yAQ.l0.eq_2 ..) (Ev.pos (by omega) (Ev.pos (by omega) (Ev.pos (by omega) (Ev.bind (agGloss_ _ (hT.2 _ hm) a) (inner (glossB (T.getD i []) a) i _ T.length 0 0 (by omega) (by omega) (by omega) ?_)))))
      rw [List.drop_zero, Int.zero_add, wrap_succ (by omega)]
      refine Ev.ite (fun hg => Ev.some ?_) (fun hg => ?_)
      · exact (maj_is (gs := glS T a) (mem_glS hm a) (by rw [glS_length]; exact hg)).symm
      · refine ih (i + 1) (by omega) (fun j hj => ?_)
        by_cases e : j = i
        · subst e; exact hg
        · exact hn j (by omega)
  exact outer T.length 0 (by omega) (fun j hj => absurd hj (Nat.not_lt_zero _))

/-! ### the rows of frames -/
/-- What ties the reference's last gloss to the program's last note. -/
def rowJ (s : List NI) (last : ByteArray) (a : Int) : Prop := (s.length = 0 → last.toList = []) ∧ (0 < s.length → (rd_T58 s ((s.length - 1 : Nat) : Int)).f1 ≤ a ∧ (rd_T58 s ((s.length - 1 : Nat) : Int)).f2.toList ≠ [] ∧
  (last.toList ≠ [] → (rd_T58 s ((s.length - 1 : Nat) : Int)).f1 = a ∧ (rd_T58 s ((s.length - 1 : Nat) : Int)).f2.toList = last.toList) ∧ ((rd_T58 s ((s.length - 1 : Nat) : Int)).f1 = a → last.toList = (rd_T58 s ((s.length - 1 : Nat) : Int)).f2.toList))
theorem rd_end (s : List NI) (v : NI) : rd_T58 (s ++ [v]) (((s ++ [v]).length - 1 : Nat) : Int) = v := by
  have e : (s ++ [v]).length - 1 = s.length := by simp
  rw [e]
  show (s ++ [v]).getD s.length z58 = v
  rw [List.getD_eq_getElem?_getD, List.getElem?_append_right (Nat.le_refl _), Nat.sub_self]
  rfl
theorem rd_setN (s : List NI) (n : Nat) (v : NI) (h : n < s.length) : rd_T58 (s.set n v) (n : Int) = v := by
  show (s.set n v).getD n z58 = v
  rw [List.getD_eq_getElem?_getD, List.getElem?_set_self h]
  rfl
theorem mem_set_size {s : List NI} {n : Nat} {v : NI} (h : ∀ x, x ∈ s → x.f2.size ≤ 140737488351232) (hv : v.f2.size ≤ 140737488351232) : ∀ x, x ∈ s.set n v → x.f2.size ≤ 140737488351232 := by
  intro x hx
  rcases List.mem_or_eq_of_mem_set hx with hx | rfl
  · exact h x hx
  · exact hv
theorem rd_mem (s : List NI) (n : Nat) (h : n < s.length) : rd_T58 s (n : Int) ∈ s := by
  show s.getD n z58 ∈ s
  rw [List.getD_eq_getElem?_getD, List.getElem?_eq_getElem h]
  exact List.getElem_mem h
/-! ### the rows of frames, frame by frame -/
theorem gloss_cons (x : NI) (l : List NI) (a : Int) : glossB (x :: l) a = if inB a x = true then x.f2 else glossB l a := by
  unfold glossB idxOf
  rw [List.findIdx?_cons]
  cases hx : inB a x with
  | true => rfl
  | false =>
    cases hi : l.findIdx? (inB a) with
    | none => rfl
    | some i =>
      show (if (0 : Int) ≤ ((i + 1 : Nat) : Int) then (atN (x :: l) (((i + 1 : Nat) : Int)).toNat).f2 else (⟨#[]⟩ : ByteArray)) = if false = true then x.f2 else (if (0 : Int) ≤ (i : Int) then (atN l ((i : Int)).toNat).f2 else (⟨#[]⟩ : ByteArray))
      rw [if_pos (by omega), if_neg (by decide), if_pos (by omega)]
      rfl
theorem gloss_none : ∀ (s : List NI) (a : Int), (∀ x, x ∈ s → inB a x = false) → glossB s a = ⟨#[]⟩
  | [], _, _ => rfl
  | x :: s, a, h => by
    rw [gloss_cons, h x List.mem_cons_self, if_neg (by decide)]
    exact gloss_none s a (fun y hy => h y (List.mem_cons_of_mem _ hy))
theorem gloss_app : ∀ (s : List NI) (v w : NI) (a : Int), inB a v = inB a w → v.f2 = w.f2 → glossB (s ++ [v]) a = glossB (s ++ [w]) a
  | [], v, w, a, h, h2 => by
    show glossB (v :: []) a = glossB (w :: []) a
    rw [gloss_cons, gloss_cons, h, h2]
  | x :: s, v, w, a, h, h2 => by
    show glossB (x :: (s ++ [v])) a = glossB (x :: (s ++ [w])) a
    rw [gloss_cons, gloss_cons, gloss_app s v w a h h2]
theorem gloss_out : ∀ (s : List NI) (v : NI) (a : Int), inB a v = false → glossB (s ++ [v]) a = glossB s a
  | [], v, a, h => by
    show glossB (v :: []) a = _
    rw [gloss_cons, h, if_neg (by decide)]
  | x :: s, v, a, h => by
    show glossB (x :: (s ++ [v])) a = glossB (x :: s) a
    rw [gloss_cons, gloss_cons, gloss_out s v a h]
theorem gloss_end : ∀ (s : List NI) (v : NI) (a : Int), inB a v = true → (∀ x, x ∈ s → inB a x = false) → glossB (s ++ [v]) a = v.f2
  | [], v, a, h, _ => by
    show glossB (v :: []) a = _
    rw [gloss_cons, h, if_pos rfl]
  | x :: s, v, a, h, h2 => by
    show glossB (x :: (s ++ [v])) a = _
    rw [gloss_cons, h2 x List.mem_cons_self, if_neg (by decide)]
    exact gloss_end s v a h (fun y hy => h2 y (List.mem_cons_of_mem _ hy))
/-- Up to the frame a the notes say what G says. -/
def Glo (G : Int → ByteArray) (lo : Int) (s : List NI) (a : Int) : Prop := (∀ x, x ∈ s → x.f0 < x.f1 ∧ x.f1 ≤ a) ∧ ∀ f, lo ≤ f → f < a → glossB s f = G f
theorem Glo.off {G : Int → ByteArray} {lo a : Int} {s : List NI} (h : Glo G lo s a) : ∀ x, x ∈ s → inB a x = false := fun x hx => decide_eq_false (fun hc => by have := (h.1 x hx).2; omega)
theorem Glo.skip {G : Int → ByteArray} {lo a : Int} {s : List NI} (h : Glo G lo s a) (he : (G a).toList = []) : Glo G lo s (a + 1) := by
  refine ⟨fun x hx => by have := h.1 x hx; omega, fun f h0 h1 => ?_⟩
  by_cases e : f = a
  · subst e
    rw [gloss_none s f h.off]
    exact bytes_eq (by rw [he, ByteArray.toList_eq])
  · exact h.2 f h0 (by omega)
theorem Glo.app {G : Int → ByteArray} {lo a : Int} {s : List NI} (h : Glo G lo s a) : Glo G lo (s ++ [⟨a, a + 1, G a⟩]) (a + 1) := by
  refine ⟨fun x hx => ?_, fun f h0 h1 => ?_⟩
  · rcases List.mem_append.1 hx with hx | hx
    · have := h.1 x hx; omega
    · obtain rfl := List.mem_singleton.1 hx
      exact ⟨by show a < a + 1; omega, Int.le_refl _⟩
  · by_cases e : f = a
    · subst e
      exact gloss_end s _ f (decide_eq_true ⟨Int.le_refl _, by show f < f + 1; omega⟩) h.off
    · rw [gloss_out s _ f (decide_eq_false (fun hc => by have : a ≤ f := hc.1; omega))]
      exact h.2 f h0 (by omega)
theorem Glo.ext {G : Int → ByteArray} {lo a : Int} {s : List NI} {n : Nat} (h : Glo G lo s a) (hn : s.length = n + 1) (h1 : (rd_T58 s (n : Int)).f1 = a) (h2 : (rd_T58 s (n : Int)).f2.toList = (G a).toList) :
    Glo G lo (s.set n ⟨(rd_T58 s (n : Int)).f0, a + 1, (rd_T58 s (n : Int)).f2⟩) (a + 1) := by
  obtain ⟨p, L, rfl⟩ : ∃ p L, s = p ++ [L] := ⟨s.dropLast, s.getLast (by intro e; rw [e] at hn; simp at hn), (List.dropLast_concat_getLast _).symm⟩
  have hp : p.length = n := by rw [List.length_append] at hn; exact Nat.succ_inj.1 hn
  have e : rd_T58 (p ++ [L]) (n : Int) = L := by
    show (p ++ [L]).getD n z58 = L
    rw [← hp, List.getD_eq_getElem?_getD, List.getElem?_append_right (Nat.le_refl _), Nat.sub_self]
    rfl
  rw [e] at h1 h2 ⊢
  have es : (p ++ [L]).set n ⟨L.f0, a + 1, L.f2⟩ = p ++ [⟨L.f0, a + 1, L.f2⟩] := by
    rw [← hp, List.set_append_right _ _ (Nat.le_refl _), Nat.sub_self]
    rfl
  rw [es]
  have hL := h.1 L (List.mem_append.2 (Or.inr (List.mem_singleton.2 rfl)))
  refine ⟨fun x hx => ?_, fun f h3 h4 => ?_⟩
  · rcases List.mem_append.1 hx with hx | hx
    · have := h.1 x (List.mem_append.2 (Or.inl hx)); omega
    · obtain rfl := List.mem_singleton.1 hx
      exact ⟨by show L.f0 < a + 1; omega, Int.le_refl _⟩
  · by_cases e : f = a
    · subst e
      rw [gloss_end p _ f (decide_eq_true ⟨by show L.f0 ≤ f; omega, by show f < f + 1; omega⟩) (fun x hx => h.off x (List.mem_append.2 (Or.inl hx)))]
      exact bytes_eq h2
    · rw [gloss_app p (⟨L.f0, a + 1, L.f2⟩ : NI) L f (by unfold inB; rw [decide_eq_decide]; show (L.f0 ≤ f ∧ f < a + 1) ↔ (L.f0 ≤ f ∧ f < L.f1); omega) rfl]
      exact h.2 f h3 (by omega)
theorem loops (T : List (List NI)) (hT : SizedSS T) (ht : tiersB T = true) (lo b : Int) (hb : b ≤ 99999) : ∀ (d : Nat) (a : Int) (s : List NI) (last : ByteArray), a + d = b → 0 ≤ a → s.length + d ≤ 200 → (∀ x, x ∈ s → x.f2.size ≤ 140737488351232) → rowJ s last a → Glo (fun f => majB (glS T f)) lo s a →
    ∃ r : List NI × Bool, r.1.length ≤ 200 ∧ Ev (fun k => yAM.l0 k T b s last a) r ∧ Ev (fun k => yAI.l0 k T b s a) r ∧ (r.2 = true → tierB r.1 = true ∧ Glo (fun f => majB (glS T f)) lo r.1 b) ∧ (∀ x, x ∈ r.1 → x.f2.size ≤ 140737488351232) := by
  intro d
  induction d with
  | zero =>
    intro a s last hd ha hs hz _ hG
    obtain rfl : a = b := by omega
    have hsz : Sized s := ⟨by omega, hz⟩
    cases hq : tierB s with
    | true => exact ⟨(s, true), by show s.length ≤ 200; omega, Ev.step (fun _ => yAM.l0.eq_2 ..) (Ev.neg (by omega) (Ev.bind (tiGood_ s hsz) (Ev.pos hq (Ev.some rfl)))), Ev.step (fun _ => yAI.l0.eq_2 ..) (Ev.neg (by omega) (Ev.bind (IsTier_ s hsz) (Ev.pos hq (Ev.some rfl)))), fun _ => ⟨hq, hG⟩, hz⟩
    | false => exact ⟨([], false), Nat.zero_le _, Ev.step (fun _ => yAM.l0.eq_2 ..) (Ev.neg (by omega) (Ev.bind (tiGood_ s hsz) (Ev.neg (by rw [hq]; decide) (Ev.some rfl)))), Ev.step (fun _ => yAI.l0.eq_2 ..) (Ev.neg (by omega) (Ev.bind (IsTier_ s hsz) (Ev.neg (by rw [hq]; decide) (Ev.some rfl)))), fun h => (nomatch h), fun x hx => (nomatch hx)⟩
  | succ d ih =>
    intro a s last hd ha hs hz hi hG
    have hw := wrap_step (x := a) (by omega) (by omega)
    have m1 := agMajor_ T hT ht a
    have m2 := majority_ T hT ht a
    have m3 := maj_size T hT a
    obtain ⟨g, hg⟩ : ∃ g, g = majB (glS T a) := ⟨_, rfl⟩
    rw [← hg] at m1 m2 m3
    by_cases he : g.toList = []
    · obtain ⟨r, hr, h1, h2, h3⟩ := ih (a + 1) s g (by omega) (by omega) (by omega) hz ⟨fun _ => he, fun h => by
        have := hi.2 h
        exact ⟨by omega, this.2.1, fun hn => absurd he hn, fun h => by omega⟩⟩ (hG.skip (by show (majB (glS T a)).toList = []; rw [← hg]; exact he))
      rw [← hw] at h1 h2
      exact ⟨r, hr, Ev.step (fun _ => yAM.l0.eq_2 ..) (Ev.pos (by omega) (Ev.bind m1 (Ev.pos he h1))), Ev.step (fun _ => yAI.l0.eq_2 ..) (Ev.pos (by omega) (Ev.have m2 (Ev.pos he h2))), h3⟩
    · by_cases hl : g.toList = last.toList
      · have hln : last.toList ≠ [] := fun h => he (hl.trans h)
        have hpos : 0 < s.length := Nat.pos_of_ne_zero (fun h => hln (hi.1 h))
        obtain ⟨q1, q2, q3, q4⟩ := hi.2 hpos
        obtain ⟨e1, e2⟩ := q3 hln
        have hp := wrap_pred (i := s.length) hpos (by omega)
        have hn : ((s.length - 1 : Nat) : Int).toNat = s.length - 1 := rfl
        have hmem := hz _ (rd_mem s (s.length - 1) (by omega))
        have hX := hG.ext (n := s.length - 1) (by omega) e1 (e2.trans (hl.symm.trans (congrArg ByteArray.toList hg)))
        generalize hL : rd_T58 s ((s.length - 1 : Nat) : Int) = L at q1 q2 q3 q4 e1 e2 hmem hX
        have hrd := rd_setN s (s.length - 1) ⟨L.f0, a + 1, L.f2⟩ (by omega)
        obtain ⟨r, hr, h1, h2, h3⟩ := ih (a + 1) (s.set (s.length - 1) ⟨L.f0, a + 1, L.f2⟩) g (by omega) (by omega) (by rw [List.length_set]; omega) (mem_set_size hz hmem) ⟨fun h => by rw [List.length_set] at h; omega, fun _ => by
          rw [List.length_set, hrd]
          exact ⟨Int.le_refl _, q2, fun _ => ⟨rfl, e2.trans hl.symm⟩, fun _ => hl.trans e2.symm⟩⟩ hX
        refine ⟨r, hr, Ev.step (fun _ => yAM.l0.eq_2 ..) (Ev.pos (by omega) (Ev.bind m1 (Ev.neg he (Ev.pos hl ?_)))), Ev.step (fun _ => yAI.l0.eq_2 ..) (Ev.pos (by omega) (Ev.have m2 (Ev.neg he ?_))), h3⟩
        · rw [hp, hn, hw, hL]
          exact Ev.pos (by omega) (Ev.pos (by omega) h1)
        · rw [hp, hn, hL, e1, hw]
          exact Ev.pos (by omega) (Ev.pos (by omega) (Ev.pos (by omega) (Ev.pos rfl (Ev.pos (e2.trans hl.symm) h2))))
      · obtain ⟨r, hr, h1, h2, h3⟩ := ih (a + 1) (s ++ [⟨a, a + 1, g⟩]) g (by omega) (by omega) (by simp; omega) (fun x hx => by
          rcases List.mem_append.1 hx with hx | hx
          · exact hz x hx
          · obtain rfl := List.mem_singleton.1 hx; exact m3) ⟨fun h => by simp at h, fun _ => by
          rw [rd_end]
          exact ⟨Int.le_refl _, he, fun _ => ⟨rfl, rfl⟩, fun _ => rfl⟩⟩ (by rw [hg]; exact hG.app)
        refine ⟨r, hr, Ev.step (fun _ => yAM.l0.eq_2 ..) (Ev.pos (by omega) (Ev.bind m1 (Ev.neg he (Ev.neg hl (Ev.pos (by omega) (by rw [hw]; exact h1)))))), Ev.step (fun _ => yAI.l0.eq_2 ..) (Ev.pos (by omega) (Ev.have m2 (Ev.neg he ?_))), h3⟩
        rw [hw]
        by_cases hpos : 0 < s.length
        · have hp := wrap_pred (i := s.length) hpos (by omega)
          obtain ⟨q1, q2, q3, q4⟩ := hi.2 hpos
          rw [hp]
          generalize hL : rd_T58 s ((s.length - 1 : Nat) : Int) = L at q1 q2 q3 q4
          refine Ev.pos (by omega) (Ev.pos (by omega) (Ev.pos (by omega) (Ev.ite (fun e1 => ?_) (fun _ => Ev.pos (by omega) h2))))
          exact Ev.neg (fun e2 => hl (e2.symm.trans (q4 e1).symm)) (Ev.pos (by omega) h2)
        · have : s.length = 0 := by omega
          rw [this]
          exact Ev.neg (by unfold wrap64; omega) (Ev.pos (by omega) h2)
theorem Major_both (T : List (List NI)) (hT : SizedSS T) (a b : Int) : ∃ r : List NI × Bool, r.1.length ≤ 200 ∧ Ev (fun k => yAM.f k T a b) r ∧ Ev (fun k => yAI.f k T a b) r ∧ (r.2 = true → (tierB r.1 = true ∧ Glo (fun f => majB (glS T f)) a r.1 b) ∧ tiersB T = true ∧ windowB a b = true) ∧ (∀ x, x ∈ r.1 → x.f2.size ≤ 140737488351232) := by
  unfold yAM.f yAI.f
  cases h1 : tiersB T with
  | false => exact ⟨([], false), Nat.zero_le _, Ev.bind (Ev.eq (agTiers_ T hT) h1) (Ev.neg (by decide) (Ev.step (fun _ => yAM.j0.eq_2 ..) (Ev.pos rfl (Ev.some rfl)))), Ev.bind (Ev.eq (areTiers_ T hT) h1) (Ev.neg (by decide) (Ev.step (fun _ => yAI.j0.eq_2 ..) (Ev.pos rfl (Ev.some rfl)))), fun h => (nomatch h), fun x hx => (nomatch hx)⟩
  | true =>
    cases h2 : windowB a b with
    | false => exact ⟨([], false), Nat.zero_le _, Ev.bind (Ev.eq (agTiers_ T hT) h1) (Ev.pos rfl (Ev.have ((agWindow_ a b).trans (congrArg some h2)) (Ev.step (fun _ => yAM.j0.eq_2 ..) (Ev.pos rfl (Ev.some rfl))))), Ev.bind (Ev.eq (areTiers_ T hT) h1) (Ev.pos rfl (Ev.have ((isWindow_ a b).trans (congrArg some h2)) (Ev.step (fun _ => yAI.j0.eq_2 ..) (Ev.pos rfl (Ev.some rfl))))), fun h => (nomatch h), fun x hx => (nomatch hx)⟩
    | true =>
      have hw := windowB_in h2
      obtain ⟨r, hr, g1, g2, g3, g4⟩ := loops T hT h1 a b (by omega) (b - a).toNat a [] ⟨#[]⟩ (by omega) (by omega) (by simp; omega) (fun x hx => (nomatch hx)) ⟨fun _ => by rw [ByteArray.toList_eq], fun h => absurd h (by simp)⟩ ⟨fun x hx => (nomatch hx), fun f h0 h1 => by omega⟩
      exact ⟨r, hr, Ev.bind (Ev.eq (agTiers_ T hT) h1) (Ev.pos rfl (Ev.have ((agWindow_ a b).trans (congrArg some h2)) (Ev.step (fun _ => yAM.j0.eq_2 ..) (Ev.neg (by decide) g1)))), Ev.bind (Ev.eq (areTiers_ T hT) h1) (Ev.pos rfl (Ev.have ((isWindow_ a b).trans (congrArg some h2)) (Ev.step (fun _ => yAI.j0.eq_2 ..) (Ev.neg (by decide) g2)))), fun h => ⟨g3 h, rfl, rfl⟩, g4⟩
end Go.Proofs.Ytgapcmmhbegdeaa.MMajor
end
section
/- The greater and the lesser of two numbers. No condition. -/
namespace Go.Proofs.Ytgapcmmhbegdeaa.MCut
open Go.RowKit Go.Proofs.Ytgapcmmhbegdeaa.G Go.Proofs.YtgapcmmhbegdeaaW.PrintWords Go.Proofs.YtgapcmmhbegdeaaW.PrintLast Go.Proofs.Ytgapcmmhbegdeaa.MPure Go.Proofs.Ytgapcmmhbegdeaa.MWord Go.Proofs.Ytgapcmmhbegdeaa.MNote

theorem l1Most_ (a b : Int) : yAf.f a b = some (mx a b) := by
  unfold yAf.f mx
  by_cases h : a > b
  · rw [if_pos h]; congr 1; split <;> omega
  · rw [if_neg h]; congr 1; split <;> omega
end Go.Proofs.Ytgapcmmhbegdeaa.MCut
end
section
/- Pairs of notes that fit: the reference's list of those that are taken and the program's marks lead to the same pairs. -/
namespace Go.Proofs.Ytgapcmmhbegdeaa.MMatch
open Go.RowKit Go.Proofs.Ytgapcmmhbegdeaa.G Go.Proofs.YtgapcmmhbegdeaaW.PrintWords Go.Proofs.YtgapcmmhbegdeaaW.PrintLast Go.Proofs.Ytgapcmmhbegdeaa.MPure Go.Proofs.Ytgapcmmhbegdeaa.MWord Go.Proofs.Ytgapcmmhbegdeaa.MNote Go.Proofs.Ytgapcmmhbegdeaa.MCut

theorem l1Abs_ (a b : Int) : yAv.f (wrap64 (a - b)) = some (mx (wrap64 (a - b)) (wrap64 (b - a))) := by
  unfold yAv.f
  rw [l1Most_]
  simp only [Option.bind_some]
  rw [show wrap64 (-(wrap64 (a - b))) = wrap64 (b - a) by unfold wrap64; omega]
theorem distance_ (a b : Int) : yAn.f a b = some (mx (wrap64 (a - b)) (wrap64 (b - a))) := rfl
theorem l1Has_ (l : List Int) (hl : l.length ≤ 140737488351232) (a : Int) : Ev (fun k => yAo.f k l a) (decide (a ∈ l)) := by
  have key : ∀ d i : Nat, i + d = l.length → Ev (fun k => yAo.l0 k a l (l.length : Int) (i : Int)) (decide (a ∈ l.drop i)) := by
    intro d
    induction d with
    | zero =>
      intro i hi
      rw [List.drop_eq_nil_of_le (by omega)]
      exact Ev.step (fun _ => yAo.l0.eq_2 ..) (Ev.neg (by omega) (Ev.some (by simp)))
    | succ d ih =>
      intro i hi
      have h := ih (i + 1) (by omega)
      have e : rd l (i : Int) = l[i]'(by omega) := by
        show l.getD i 0 = _
        rw [List.getD_eq_getElem?_getD, List.getElem?_eq_getElem (by omega)]
        rfl
      rw [← wrap_succ (by omega)] at h
      rw [List.drop_eq_getElem_cons (show i < l.length by omega)]
      refine Ev.step (fun _ => yAo.l0.eq_2 ..) (Ev.pos (by omega) (Ev.pos (by omega) (Ev.pos (by omega) (Ev.ite (fun he => Ev.some ?_) (fun he => Ev.eq h ?_)))))
      · rw [e] at he
        simp [he]
      · rw [e] at he
        rw [decide_eq_decide]
        simp only [List.mem_cons]
        exact ⟨Or.inr, fun h => h.resolve_left (fun h => he h.symm)⟩
  exact key l.length 0 (by omega)

def relP (y : List NI) (paired : List Bool) (done : List Int) : Prop := paired.length = y.length ∧ ∀ k : Nat, k < y.length → (paired.getD k false = true ↔ (k : Int) ∈ done)
theorem relP_start (y : List NI) : relP y (List.replicate y.length false) [] := by
  refine ⟨List.length_replicate, fun k hk => ?_⟩
  rw [List.getD_eq_getElem?_getD, List.getElem?_replicate, if_pos hk]
  simp
theorem relP_set {y : List NI} {paired : List Bool} {done : List Int} (h : relP y paired done) {k : Nat} (hk : k < y.length) : relP y (paired.set k true) (done ++ [(k : Int)]) := by
  refine ⟨by rw [List.length_set]; exact h.1, fun j hj => ?_⟩
  rw [List.getD_eq_getElem?_getD, List.getElem?_set]
  by_cases e : k = j
  · subst e
    rw [if_pos rfl, if_pos (by rw [h.1]; exact hk)]
    simp
  · rw [if_neg e, ← List.getD_eq_getElem?_getD, h.2 j hj]
    simp only [List.mem_append, List.mem_singleton]
    exact ⟨Or.inl, fun h => h.resolve_right (fun h => e (by omega))⟩
/-- What the rest of the rounds comes to. -/
def Next (x y : List NI) (s : Int) (i : Nat) : Prop := ∀ (out : List (List Int)) (done : List Int) (paired : List Bool), out.length ≤ i → done.length ≤ i → relP y paired done → (∀ q, q ∈ out → q.length = 2) →
  ∃ r : List (List Int), r.length ≤ x.length ∧ (∀ q, q ∈ r → q.length = 2) ∧ Ev (fun k => yAL.l0 k y s out done x (x.length : Int) (i : Int)) r ∧ Ev (fun k => yAB.l0 k y s paired out x (x.length : Int) (i : Int)) (r, true)
theorem inner (x y : List NI) (hx : x.length ≤ 4398046511104) (hy : y.length ≤ 4398046511104) (s : Int) (i : Nat) (hi : i < x.length) (hn : Next x y s (i + 1)) (f t : Int) (g : ByteArray) : ∀ e j : Nat, j + e = y.length → ∀ (out : List (List Int)) (done : List Int) (paired : List Bool), out.length ≤ i → done.length ≤ i → relP y paired done → (∀ q, q ∈ out → q.length = 2) →
    ∃ r : List (List Int), r.length ≤ x.length ∧ (∀ q, q ∈ r → q.length = 2) ∧ Ev (fun k => yAL.l1 k y s out done (i : Int) x (x.length : Int) (i : Int) y (y.length : Int) (j : Int) f t g) r ∧ Ev (fun k => yAB.l1 k y s paired out (i : Int) x (x.length : Int) (i : Int) y (y.length : Int) (j : Int) f t g) (r, true) := by
  intro e
  induction e with
  | zero =>
    intro j hj out done paired ho hd hr hq
    obtain ⟨r, h1, h2, h3, h4⟩ := hn out done paired (by omega) (by omega) hr hq
    rw [← wrap_succ (by omega)] at h3 h4
    exact ⟨r, h1, h2, Ev.step (fun _ => yAL.l1.eq_2 ..) (Ev.neg (by omega) h3), Ev.step (fun _ => yAB.l1.eq_2 ..) (Ev.neg (by omega) h4)⟩
  | succ e ih =>
    intro j hj out done paired ho hd hr hq
    have hlen := hr.1
    have hp := hr.2 j (by omega)
    have hrd : rdOf false paired (j : Int) = paired.getD j false := rfl
    have hh := l1Has_ done (by omega) (j : Int)
    by_cases hP : g.toList = (rd_T58 y (j : Int)).f2.toList ∧ mx (wrap64 (f - (rd_T58 y (j : Int)).f0)) (wrap64 ((rd_T58 y (j : Int)).f0 - f)) ≤ s ∧ mx (wrap64 (t - (rd_T58 y (j : Int)).f1)) (wrap64 ((rd_T58 y (j : Int)).f1 - t)) ≤ s ∧ ¬ ((j : Int) ∈ done)
    · obtain ⟨p1, p2, p3, p4⟩ := hP
      obtain ⟨r, h1, h2, h3, h4⟩ := hn (out ++ [[(i : Int), (j : Int)]]) (done ++ [(j : Int)]) (paired.set j true) (by simp; omega) (by simp; omega) (relP_set hr (by omega)) (by
        intro q hq'
        rcases List.mem_append.1 hq' with h | h
        · exact hq q h
        · rw [List.mem_singleton.1 h]; rfl)
      rw [← wrap_succ (by omega)] at h3 h4
      refine ⟨r, h1, h2, Ev.step (fun _ => yAL.l1.eq_2 ..) (Ev.pos (by omega) (Ev.pos (by omega) (Ev.pos (by omega) (Ev.pos p1 (Ev.have (l1Abs_ _ _) (Ev.pos p2 (Ev.have (l1Abs_ _ _) (Ev.pos p3 (Ev.bind hh (Ev.neg (by simp [p4]) (Ev.pos (by omega) (Ev.pos (by omega) h3)))))))))))), Ev.step (fun _ => yAB.l1.eq_2 ..) (Ev.pos (by omega) (Ev.pos (by omega) (Ev.pos (by omega) (Ev.pos (by omega) (Ev.neg (fun h => p4 (hp.1 (hrd ▸ h))) (Ev.pos p1 (Ev.have (distance_ _ _) (Ev.pos p2 (Ev.have (distance_ _ _) (Ev.pos p3 (Ev.pos (by omega) h4)))))))))))⟩
    · obtain ⟨r, h1, h2, h3, h4⟩ := ih (j + 1) (by omega) out done paired ho hd hr hq
      rw [← wrap_succ (by omega)] at h3 h4
      refine ⟨r, h1, h2, Ev.step (fun _ => yAL.l1.eq_2 ..) (Ev.pos (by omega) (Ev.pos (by omega) (Ev.pos (by omega) (Ev.ite (fun p1 => Ev.have (l1Abs_ _ _) (Ev.ite (fun p2 => Ev.have (l1Abs_ _ _) (Ev.ite (fun p3 => Ev.bind hh (Ev.ite (fun _ => h3) (fun p4 => absurd ⟨p1, p2, p3, by simpa using p4⟩ hP))) (fun _ => h3))) (fun _ => h3))) (fun _ => h3))))), Ev.step (fun _ => yAB.l1.eq_2 ..) (Ev.pos (by omega) (Ev.pos (by omega) (Ev.pos (by omega) (Ev.pos (by omega) (Ev.ite (fun _ => h4) (fun p4 => Ev.ite (fun p1 => Ev.have (distance_ _ _) (Ev.ite (fun p2 => Ev.have (distance_ _ _) (Ev.ite (fun p3 => absurd ⟨p1, p2, p3, fun h => p4 (hrd ▸ hp.2 h)⟩ hP) (fun _ => h4))) (fun _ => h4))) (fun _ => h4)))))))⟩
def askB (x y : List NI) (s : Int) : Bool := tierB x && tierB y && decide (0 ≤ s ∧ s ≤ 100)
end Go.Proofs.Ytgapcmmhbegdeaa.MMatch
end
section
/- Pairs of notes that fit, with what is known of them: they fit, their first numbers rise, no second one comes twice. No condition. -/
namespace Go.Proofs.Ytgapcmmhbegdeaa.MPairs
open Go.RowKit Go.Proofs.Ytgapcmmhbegdeaa.G Go.Proofs.YtgapcmmhbegdeaaW.PrintWords Go.Proofs.YtgapcmmhbegdeaaW.PrintLast Go.Proofs.Ytgapcmmhbegdeaa.MPure Go.Proofs.Ytgapcmmhbegdeaa.MWord Go.Proofs.Ytgapcmmhbegdeaa.MNote Go.Proofs.Ytgapcmmhbegdeaa.MCut Go.Proofs.Ytgapcmmhbegdeaa.MMatch

/-- Two notes fit. -/
def fit (x y : NI) (s : Int) : Prop := x.f2.toList = y.f2.toList ∧ mx (wrap64 (x.f0 - y.f0)) (wrap64 (y.f0 - x.f0)) ≤ s ∧ mx (wrap64 (x.f1 - y.f1)) (wrap64 (y.f1 - x.f1)) ≤ s
def fst (out : List (List Int)) (j : Nat) : Int := (out.getD j []).getD 0 0
structure Good (x y : List NI) (s : Int) (i : Nat) (out : List (List Int)) (done : List Int) : Prop where
  len : out.length = done.length
  le : out.length ≤ i
  nodup : done.Nodup
  bound : ∀ d, d ∈ done → 0 ≤ d ∧ d < (y.length : Int)
  pairs : ∀ q, q ∈ out → ∃ a b : Nat, q = [(a : Int), (b : Int)] ∧ a < i ∧ a < x.length ∧ b < y.length ∧ fit (atN x a) (atN y b) s
  rise : ∀ j, j + 1 < out.length → fst out j < fst out (j + 1)
theorem Good.start (x y : List NI) (s : Int) : Good x y s 0 [] [] := ⟨rfl, Nat.le_refl _, List.nodup_nil, fun _ h => (nomatch h), fun _ h => (nomatch h), fun _ h => absurd h (by simp)⟩
theorem Good.step {x y : List NI} {s : Int} {i : Nat} {out : List (List Int)} {done : List Int} (h : Good x y s i out done) : Good x y s (i + 1) out done :=
  ⟨h.len, by have := h.le; omega, h.nodup, h.bound, fun q hq => by obtain ⟨a, b, e, h1, h2⟩ := h.pairs q hq; exact ⟨a, b, e, by omega, h2⟩, h.rise⟩
theorem fst_snoc_old (out : List (List Int)) (q : List Int) (j : Nat) (h : j < out.length) : fst (out ++ [q]) j = fst out j := by
  have e : (out ++ [q]).getD j [] = out.getD j [] := by
    rw [List.getD_eq_getElem?_getD, List.getElem?_append_left h, ← List.getD_eq_getElem?_getD]
  unfold fst
  rw [e]
theorem fst_snoc_new (out : List (List Int)) (q : List Int) : fst (out ++ [q]) out.length = q.getD 0 0 := by
  have e : (out ++ [q]).getD out.length [] = q := by
    rw [List.getD_eq_getElem?_getD, List.getElem?_append_right (Nat.le_refl _), Nat.sub_self]
    rfl
  unfold fst
  rw [e]
theorem fst_mem (out : List (List Int)) (j : Nat) (h : j < out.length) : out.getD j [] ∈ out := by
  rw [List.getD_eq_getElem?_getD, List.getElem?_eq_getElem h]
  exact List.getElem_mem _
theorem Good.snoc {x y : List NI} {s : Int} {i j : Nat} {out : List (List Int)} {done : List Int} (h : Good x y s i out done) (hi : i < x.length) (hj : j < y.length) (hn : (j : Int) ∉ done) (hf : fit (atN x i) (atN y j) s) : Good x y s (i + 1) (out ++ [[(i : Int), (j : Int)]]) (done ++ [(j : Int)]) := by
  refine ⟨by rw [List.length_append, List.length_append, h.len]; rfl, by rw [List.length_append]; have := h.le; show out.length + 1 ≤ _; omega, ?_, ?_, ?_, ?_⟩
  · rw [List.nodup_append]
    refine ⟨h.nodup, List.nodup_cons.2 ⟨fun h => (nomatch h), List.nodup_nil⟩, fun a ha b hb e => ?_⟩
    rw [List.mem_singleton.1 hb] at e
    exact hn (e ▸ ha)
  · intro d hd
    rcases List.mem_append.1 hd with hd | hd
    · exact h.bound d hd
    · rw [List.mem_singleton.1 hd]; omega
  · intro q hq
    rcases List.mem_append.1 hq with hq | hq
    · obtain ⟨a, b, e, h1, h2⟩ := h.pairs q hq
      exact ⟨a, b, e, by omega, h2⟩
    · exact ⟨i, j, List.mem_singleton.1 hq, by omega, hi, hj, hf⟩
  · intro k hk
    rw [List.length_append] at hk
    have hk2 : k + 1 < out.length + 1 := hk
    by_cases e : k + 1 < out.length
    · rw [fst_snoc_old _ _ _ (by omega), fst_snoc_old _ _ _ e]
      exact h.rise k e
    · have e2 : k + 1 = out.length := by omega
      rw [e2, fst_snoc_new, fst_snoc_old _ _ _ (by omega)]
      obtain ⟨a, b, e3, h1, _⟩ := h.pairs _ (fst_mem out k (by omega))
      unfold fst
      rw [e3]
      show (a : Int) < (i : Int)
      omega
theorem nodup_le : ∀ (n : Nat) (l : List Int), l.Nodup → (∀ d, d ∈ l → 0 ≤ d ∧ d < (n : Int)) → l.length ≤ n
  | 0, l, _, h => by
    cases l with
    | nil => exact Nat.le_refl _
    | cons a l => have := h a List.mem_cons_self; omega
  | n + 1, l, hn, h => by
    by_cases hm : (n : Int) ∈ l
    · have h1 := nodup_le n (l.erase (n : Int)) (hn.erase _) (fun d hd => by
        rw [hn.mem_erase_iff] at hd
        have := h d hd.2
        have := hd.1
        omega)
      rw [List.length_erase_of_mem hm] at h1
      omega
    · have h1 := nodup_le n l hn (fun d hd => by
        have := h d hd
        have : d ≠ (n : Int) := fun e => hm (e ▸ hd)
        omega)
      omega
def NextG (x y : List NI) (s : Int) (i : Nat) : Prop := ∀ (out : List (List Int)) (done : List Int) (paired : List Bool), Good x y s i out done → relP y paired done →
  ∃ (r : List (List Int)) (dn : List Int), Good x y s x.length r dn ∧ Ev (fun k => yAL.l0 k y s out done x (x.length : Int) (i : Int)) r ∧ Ev (fun k => yAB.l0 k y s paired out x (x.length : Int) (i : Int)) (r, true)
theorem innerG (x y : List NI) (hx : x.length ≤ 4398046511104) (hy : y.length ≤ 4398046511104) (s : Int) (i : Nat) (hi : i < x.length) (hn : NextG x y s (i + 1)) : ∀ e j : Nat, j + e = y.length → ∀ (out : List (List Int)) (done : List Int) (paired : List Bool), Good x y s i out done → relP y paired done →
    ∃ (r : List (List Int)) (dn : List Int), Good x y s x.length r dn ∧ Ev (fun k => yAL.l1 k y s out done (i : Int) x (x.length : Int) (i : Int) y (y.length : Int) (j : Int) (atN x i).f0 (atN x i).f1 (atN x i).f2) r ∧ Ev (fun k => yAB.l1 k y s paired out (i : Int) x (x.length : Int) (i : Int) y (y.length : Int) (j : Int) (atN x i).f0 (atN x i).f1 (atN x i).f2) (r, true) := by
  intro e
  induction e with
  | zero =>
    intro j hj out done paired hG hr
    obtain ⟨r, dn, h1, h3, h4⟩ := hn out done paired hG.step hr
    rw [← wrap_succ (by omega)] at h3 h4
    exact ⟨r, dn, h1, Ev.step (fun _ => yAL.l1.eq_2 ..) (Ev.neg (by omega) h3), Ev.step (fun _ => yAB.l1.eq_2 ..) (Ev.neg (by omega) h4)⟩
  | succ e ih =>
    intro j hj out done paired hG hr
    have ho := hG.le
    have hd : done.length ≤ i := by rw [← hG.len]; exact ho
    have hlen := hr.1
    have hp := hr.2 j (by omega)
    have hrd : rdOf false paired (j : Int) = paired.getD j false := rfl
    have hh := l1Has_ done (by omega) (j : Int)
    by_cases hP : (atN x i).f2.toList = (rd_T58 y (j : Int)).f2.toList ∧ mx (wrap64 ((atN x i).f0 - (rd_T58 y (j : Int)).f0)) (wrap64 ((rd_T58 y (j : Int)).f0 - (atN x i).f0)) ≤ s ∧ mx (wrap64 ((atN x i).f1 - (rd_T58 y (j : Int)).f1)) (wrap64 ((rd_T58 y (j : Int)).f1 - (atN x i).f1)) ≤ s ∧ ¬ ((j : Int) ∈ done)
    · obtain ⟨p1, p2, p3, p4⟩ := hP
      obtain ⟨r, dn, h1, h3, h4⟩ := hn (out ++ [[(i : Int), (j : Int)]]) (done ++ [(j : Int)]) (paired.set j true) (hG.snoc hi (by omega) p4 ⟨p1, p2, p3⟩) (relP_set hr (by omega))
      rw [← wrap_succ (by omega)] at h3 h4
      refine ⟨r, dn, h1, Ev.step (fun _ => yAL.l1.eq_2 ..) (Ev.pos (by omega) (Ev.pos (by omega) (Ev.pos (by omega) (Ev.pos p1 (Ev.have (l1Abs_ _ _) (Ev.pos p2 (Ev.have (l1Abs_ _ _) (Ev.pos p3 (Ev.bind hh (Ev.neg (by simp [p4]) (Ev.pos (by omega) (Ev.pos (by omega) h3)))))))))))), Ev.step (fun _ => yAB.l1.eq_2 ..) (Ev.pos (by omega) (Ev.pos (by omega) (Ev.pos (by omega) (Ev.pos (by omega) (Ev.neg (fun h => p4 (hp.1 (hrd ▸ h))) (Ev.pos p1 (Ev.have (distance_ _ _) (Ev.pos p2 (Ev.have (distance_ _ _) (Ev.pos p3 (Ev.pos (by omega) h4)))))))))))⟩
    · obtain ⟨r, dn, h1, h3, h4⟩ := ih (j + 1) (by omega) out done paired hG hr
      rw [← wrap_succ (by omega)] at h3 h4
      refine ⟨r, dn, h1, Ev.step (fun _ => yAL.l1.eq_2 ..) (Ev.pos (by omega) (Ev.pos (by omega) (Ev.pos (by omega) (Ev.ite (fun p1 => Ev.have (l1Abs_ _ _) (Ev.ite (fun p2 => Ev.have (l1Abs_ _ _) (Ev.ite (fun p3 => Ev.bind hh (Ev.ite (fun _ => h3) (fun p4 => absurd ⟨p1, p2, p3, by simpa using p4⟩ hP))) (fun _ => h3))) (fun _ => h3))) (fun _ => h3))))), Ev.step (fun _ => yAB.l1.eq_2 ..) (Ev.pos (by omega) (Ev.pos (by omega) (Ev.pos (by omega) (Ev.pos (by omega) (Ev.ite (fun _ => h4) (fun p4 => Ev.ite (fun p1 => Ev.have (distance_ _ _) (Ev.ite (fun p2 => Ev.have (distance_ _ _) (Ev.ite (fun p3 => absurd ⟨p1, p2, p3, fun h => p4 (hrd ▸ hp.2 h)⟩ hP) (fun _ => h4))) (fun _ => h4))) (fun _ => h4)))))))⟩
theorem nextG_all (x y : List NI) (hx : x.length ≤ 4398046511104) (hy : y.length ≤ 4398046511104) (s : Int) : ∀ d i : Nat, i + d = x.length → NextG x y s i := by
  intro d
  induction d with
  | zero =>
    intro i hi out done paired hG hr
    obtain rfl : i = x.length := by omega
    exact ⟨out, done, hG, Ev.step (fun _ => yAL.l0.eq_2 ..) (Ev.neg (by omega) (Ev.some rfl)), Ev.step (fun _ => yAB.l0.eq_2 ..) (Ev.neg (by omega) (Ev.some rfl))⟩
  | succ d ih =>
    intro i hi out done paired hG hr
    obtain ⟨r, dn, h1, h3, h4⟩ := innerG x y hx hy s i (by omega) (ih (i + 1) (by omega)) y.length 0 (by omega) out done paired hG hr
    exact ⟨r, dn, h1, Ev.step (fun _ => yAL.l0.eq_2 ..) (Ev.pos (by omega) (Ev.pos (by omega) (Ev.pos (by omega) h3))), Ev.step (fun _ => yAB.l0.eq_2 ..) (Ev.pos (by omega) (Ev.pos (by omega) (Ev.pos (by omega) h4)))⟩
/-- The pairs of both, and what is known of them. -/
theorem MatchedG_ (x y : List NI) (hx : Sized x) (hy : Sized y) (hx2 : x.length ≤ 4398046511104) (hy2 : y.length ≤ 4398046511104) (s : Int) : ∃ (r : List (List Int)) (dn : List Int), Good x y s x.length r dn ∧ Ev (fun k => yAL.f k x y s) r ∧ Ev (fun k => yAB.f k x y s) (if askB x y s = true then (r, true) else ([], false)) := by
  obtain ⟨r, dn, h1, h3, h4⟩ := nextG_all x y hx2 hy2 s x.length 0 (by omega) [] [] (List.replicate y.length false) (Good.start x y s) (relP_start y)
  refine ⟨r, dn, h1, h3, ?_⟩
  unfold yAB.f askB
  refine Ev.bind (IsTier_ x hx) (Ev.ite (fun a1 => ?_) (fun a1 => Ev.step (fun _ => yAB.j0.eq_2 ..) (Ev.pos rfl (Ev.some (by simp [a1])))))
  refine Ev.bind (IsTier_ y hy) (Ev.ite (fun a2 => ?_) (fun a2 => Ev.step (fun _ => yAB.j0.eq_2 ..) (Ev.pos rfl (Ev.some (by simp [a2])))))
  refine Ev.have (within_ s _ _) (Ev.step (fun _ => yAB.j0.eq_2 ..) (Ev.ite (fun a3 => Ev.some ?_) (fun a3 => Ev.pos (by omega) (Ev.pos (by omega) ?_))))
  · simp only [Bool.not_eq_true', decide_eq_false_iff_not] at a3
    simp [a3]
  · simp only [Bool.not_eq_true', decide_eq_false_iff_not, Classical.not_not] at a3
    rw [if_pos (by simp [a1, a2, a3])]
    exact h4
theorem Good.le_y {x y : List NI} {s : Int} {i : Nat} {out : List (List Int)} {done : List Int} (h : Good x y s i out done) : out.length ≤ y.length := by
  rw [h.len]
  exact nodup_le y.length done h.nodup h.bound
theorem MatchedNotesG_ (x y : List NI) (hx : Sized x) (hy : Sized y) (s : Int) (r : List (List Int)) (h3 : Ev (fun k => yAL.f k x y s) r) : Ev (fun k => yAt.f k x y s) (if askB x y s = true then (r, true) else ([], false)) := by
  unfold yAt.f askB
  refine Ev.bind (tiGood_ x hx) (Ev.ite (fun a1 => ?_) (fun a1 => Ev.some (by simp [a1])))
  refine Ev.bind (tiGood_ y hy) (Ev.ite (fun a2 => ?_) (fun a2 => Ev.some (by simp [a2])))
  exact Ev.have (l1In_ _ _ _) (Ev.ite (fun a3 => Ev.bind h3 (Ev.some (by simp [a1, a2, of_decide_eq_true a3]))) (fun a3 => Ev.some (by simp [of_decide_eq_false (Bool.eq_false_iff.2 a3)])))
/-- NoteAgreement out of the number of pairs. -/
def agV (x y : List NI) (s : Int) (p : Int) : Int × Bool := if askB x y s = true then (if wrap64 ((x.length : Int) + (y.length : Int)) = 0 then 100 else wrap64 (Int.tdiv (wrap64 (200 * p)) (wrap64 ((x.length : Int) + (y.length : Int)))), true) else (0, false)
theorem Agree_s (x y : List NI) (hx : Sized x) (hy : Sized y) (s : Int) (r : List (List Int)) (h3 : Ev (fun k => yAL.f k x y s) r) : Ev (fun k => yAO.f k x y s) (agV x y s (r.length : Int)) := by
  unfold yAO.f agV
  have no : ∀ q : Bool, q = true → askB x y s ≠ true → Ev (fun k => yAO.j0 k x y s q) (if askB x y s = true then (if wrap64 ((x.length : Int) + (y.length : Int)) = 0 then 100 else wrap64 (Int.tdiv (wrap64 (200 * (r.length : Int))) (wrap64 ((x.length : Int) + (y.length : Int)))), true) else (0, false)) := fun q hq ha => by
    rw [if_neg ha]
    exact Ev.step (fun _ => yAO.j0.eq_2 ..) (Ev.pos hq (Ev.some rfl))
  refine Ev.bind (tiGood_ x hx) (Ev.ite (fun a1 => ?_) (fun a1 => no _ rfl (by simp [askB, a1])))
  refine Ev.bind (tiGood_ y hy) (Ev.ite (fun a2 => ?_) (fun a2 => no _ rfl (by simp [askB, a2])))
  refine Ev.have (l1In_ _ _ _) ?_
  by_cases a3 : 0 ≤ s ∧ s ≤ 100
  · rw [decide_eq_true a3, if_pos (show askB x y s = true by simp [askB, a1, a2, a3])]
    exact Ev.step (fun _ => yAO.j0.eq_2 ..) (Ev.neg (by decide) (Ev.ite (fun h => Ev.some (by rw [if_pos h])) (fun h => Ev.bind h3 (Ev.some (by rw [if_neg h])))))
  · exact no _ (by rw [decide_eq_false a3]; rfl) (by simp [askB, a3])
theorem Agree_i (x y : List NI) (s : Int) (r : List (List Int)) (h4 : Ev (fun k => yAB.f k x y s) (if askB x y s = true then (r, true) else ([], false))) : Ev (fun k => yAg.f k x y s) (agV x y s (r.length : Int)) := by
  unfold yAg.f agV
  by_cases a : askB x y s = true
  · rw [if_pos a] at h4
    rw [if_pos a]
    exact Ev.bind h4 (Ev.pos rfl (Ev.ite (fun h => Ev.some (by rw [if_pos h])) (fun h => Ev.some (by rw [if_neg h]))))
  · rw [if_neg a] at h4
    rw [if_neg a]
    exact Ev.bind h4 (Ev.neg (by decide) (Ev.some rfl))
theorem tier_len {l : List NI} (h : tierB l = true) : l.length ≤ 40 := by
  unfold tierB at h
  simp only [Bool.and_eq_true, decide_eq_true_eq] at h
  omega
theorem ask_in {x y : List NI} {s : Int} (h : askB x y s = true) : tierB x = true ∧ tierB y = true ∧ 0 ≤ s ∧ s ≤ 100 := by
  unfold askB at h
  simp only [Bool.and_eq_true, decide_eq_true_eq] at h
  exact ⟨h.1.1, h.1.2, h.2⟩
/-- It is a percentage. -/
theorem agV_range (x y : List NI) (s : Int) (p : Nat) (h : askB x y s = true) (h1 : p ≤ x.length) (h2 : p ≤ y.length) : 0 ≤ (agV x y s (p : Int)).1 ∧ (agV x y s (p : Int)).1 ≤ 100 := by
  have ⟨t1, t2, _⟩ := ask_in h
  have l1 := tier_len t1
  have l2 := tier_len t2
  unfold agV
  rw [if_pos h]
  have w1 : wrap64 ((x.length : Int) + (y.length : Int)) = (x.length : Int) + (y.length : Int) := wrap_in (by omega) (by omega)
  have w2 : wrap64 (200 * (p : Int)) = 200 * (p : Int) := wrap_in (by omega) (by omega)
  rw [w1, w2]
  by_cases h0 : (x.length : Int) + (y.length : Int) = 0
  · rw [if_pos h0]
    exact ⟨by decide, by decide⟩
  · rw [if_neg h0]
    obtain ⟨t, ht⟩ : ∃ t, t = (x.length : Int) + (y.length : Int) := ⟨_, rfl⟩
    have hp : 0 < t := by omega
    have e : Int.tdiv (200 * (p : Int)) ((x.length : Int) + (y.length : Int)) = (200 * (p : Int)) / t := by rw [← ht]; exact Int.tdiv_eq_ediv_of_nonneg (by omega)
    have g1 : 0 ≤ (200 * (p : Int)) / t := Int.ediv_nonneg (by omega) (by omega)
    have g2 : (200 * (p : Int)) / t ≤ 100 := Int.ediv_le_of_le_mul hp (by omega)
    rw [e]
    show 0 ≤ wrap64 _ ∧ wrap64 _ ≤ 100
    rw [wrap_in (by omega) (by omega)]
    exact ⟨g1, g2⟩

/-! ### a tier is matched with itself -/
def marked (n i : Nat) (paired : List Bool) : Prop := paired.length = n ∧ ∀ k, k < n → paired.getD k false = decide (k < i)
def NextS (x : List NI) (i : Nat) : Prop := ∀ (out : List (List Int)) (paired : List Bool), out.length = i → marked x.length i paired → ∃ r : List (List Int), r.length = x.length ∧ Ev (fun k => yAB.l0 k x 0 paired out x (x.length : Int) (i : Int)) (r, true)
theorem mx_self (a : Int) : mx (wrap64 (a - a)) (wrap64 (a - a)) = 0 := by
  rw [Int.sub_self, show wrap64 0 = 0 from wrap_in (by omega) (by omega)]
  unfold mx
  simp
theorem innerS (x : List NI) (hx : x.length ≤ 100) (i : Nat) (hi : i < x.length) (hn : NextS x (i + 1)) (out : List (List Int)) (paired : List Bool) (ho : out.length = i) (hm : marked x.length i paired) : ∀ e j : Nat, j + e = i →
    ∃ r : List (List Int), r.length = x.length ∧ Ev (fun k => yAB.l1 k x 0 paired out (i : Int) x (x.length : Int) (i : Int) x (x.length : Int) (j : Int) (atN x i).f0 (atN x i).f1 (atN x i).f2) (r, true) := by
  intro e
  induction e with
  | zero =>
    intro j hj
    obtain rfl : j = i := by omega
    have hp := hm.2 j hi
    rw [decide_eq_false (by omega)] at hp
    have hrd : rdOf false paired (j : Int) = false := hp
    obtain ⟨r, h1, h2⟩ := hn (out ++ [[(j : Int), (j : Int)]]) (paired.set j true) (by rw [List.length_append, ho]; rfl) ⟨by rw [List.length_set]; exact hm.1, fun k hk => by
      rw [List.getD_eq_getElem?_getD, List.getElem?_set]
      by_cases e : j = k
      · subst e
        rw [if_pos rfl, if_pos (by rw [hm.1]; exact hk)]
        simp
      · rw [if_neg e, ← List.getD_eq_getElem?_getD, hm.2 k hk, decide_eq_decide]
        omega⟩
    rw [← wrap_succ (by omega)] at h2
    have hl := hm.1
    have m0 : mx (wrap64 ((atN x j).f0 - (rd_T58 x (j : Int)).f0)) (wrap64 ((rd_T58 x (j : Int)).f0 - (atN x j).f0)) ≤ 0 := by
      have := mx_self (atN x j).f0
      exact Int.le_of_eq this
    have m1 : mx (wrap64 ((atN x j).f1 - (rd_T58 x (j : Int)).f1)) (wrap64 ((rd_T58 x (j : Int)).f1 - (atN x j).f1)) ≤ 0 := by
      have := mx_self (atN x j).f1
      exact Int.le_of_eq this
    exact ⟨r, h1, Ev.step (fun _ => yAB.l1.eq_2 ..) (Ev.pos (by omega) (Ev.pos (by omega) (Ev.pos (by omega) (Ev.pos (by omega) (Ev.neg (by rw [hrd]; decide) (Ev.pos rfl (Ev.have (distance_ _ _) (Ev.pos m0 (Ev.have (distance_ _ _) (Ev.pos m1 (Ev.pos (by omega) h2)))))))))))⟩
  | succ e ih =>
    intro j hj
    obtain ⟨r, h1, h2⟩ := ih (j + 1) (by omega)
    have hp := hm.2 j (by omega)
    rw [decide_eq_true (by omega)] at hp
    have hrd : rdOf false paired (j : Int) = true := hp
    have hl := hm.1
    rw [← wrap_succ (by omega)] at h2
    exact ⟨r, h1, Ev.step (fun _ => yAB.l1.eq_2 ..) (Ev.pos (by omega) (Ev.pos (by omega) (Ev.pos (by omega) (Ev.pos (by omega) (Ev.pos hrd h2)))))⟩
theorem nextS_all (x : List NI) (hx : x.length ≤ 100) : ∀ d i : Nat, i + d = x.length → NextS x i := by
  intro d
  induction d with
  | zero =>
    intro i hi out paired ho hm
    exact ⟨out, by omega, Ev.step (fun _ => yAB.l0.eq_2 ..) (Ev.neg (by omega) (Ev.some rfl))⟩
  | succ d ih =>
    intro i hi out paired ho hm
    obtain ⟨r, h1, h2⟩ := innerS x hx i (by omega) (ih (i + 1) (by omega)) out paired ho hm i 0 (by omega)
    exact ⟨r, h1, Ev.step (fun _ => yAB.l0.eq_2 ..) (Ev.pos (by omega) (Ev.pos (by omega) (Ev.pos (by omega) h2)))⟩
theorem Self_ (x : List NI) (hx : Sized x) (h : tierB x = true) : Ev (fun k => yAg.f k x x 0) (100, true) := by
  have hl := tier_len h
  obtain ⟨r, h1, h2⟩ := nextS_all x (by omega) x.length 0 (by omega) [] (List.replicate x.length false) rfl ⟨List.length_replicate, fun k hk => by
    rw [List.getD_eq_getElem?_getD, List.getElem?_replicate, if_pos hk]
    simp⟩
  have ha : askB x x 0 = true := by simp [askB, h]
  have h4 : Ev (fun k => yAB.f k x x 0) (if askB x x 0 = true then (r, true) else ([], false)) := by
    rw [if_pos ha]
    unfold yAB.f
    refine Ev.bind (Ev.eq (IsTier_ x hx) h) (Ev.pos rfl (Ev.bind (Ev.eq (IsTier_ x hx) h) (Ev.pos rfl (Ev.have (within_ 0 _ _) (Ev.step (fun _ => yAB.j0.eq_2 ..) (Ev.neg (by decide) (Ev.pos (by omega) (Ev.pos (by omega) h2))))))))
  refine Ev.eq (Agree_i x x 0 r h4) ?_
  unfold agV
  rw [if_pos ha, h1]
  have w1 : wrap64 ((x.length : Int) + (x.length : Int)) = (x.length : Int) + (x.length : Int) := wrap_in (by omega) (by omega)
  have w2 : wrap64 (200 * (x.length : Int)) = 200 * (x.length : Int) := wrap_in (by omega) (by omega)
  rw [w1, w2]
  by_cases h0 : (x.length : Int) + (x.length : Int) = 0
  · rw [if_pos h0]
  · rw [if_neg h0]
    have e : Int.tdiv (200 * (x.length : Int)) ((x.length : Int) + (x.length : Int)) = 100 := by
      rw [show (200 * (x.length : Int)) = 100 * ((x.length : Int) + (x.length : Int)) by omega]
      exact Int.mul_tdiv_cancel _ h0
    rw [e, show wrap64 100 = 100 from wrap_in (by omega) (by omega)]
end Go.Proofs.Ytgapcmmhbegdeaa.MPairs
end
section
/- The laws' comparison of lists of numbers and of lists of lists: a list is like itself; whether a number is in a list. No condition. -/
namespace Go.Proofs.Ytgapcmmhbegdeaa.MQLists
open Go.RowKit Go.Proofs.Ytgapcmmhbegdeaa.G Go.Proofs.YtgapcmmhbegdeaaW.PrintWords Go.Proofs.YtgapcmmhbegdeaaW.PrintLast Go.Proofs.Ytgapcmmhbegdeaa.MPure

theorem sameInts_ (l : List Int) (hl : l.length ≤ 140737488351232) : Ev (fun k => yAX.f k l l) true := by
  unfold yAX.f
  refine Ev.pos rfl ?_
  have h := loop_all0 (L := fun k i => yAX.l0 k l l (l.length : Int) i) l.length (fun _ => true) true (Ev.step (fun _ => yAX.l0.eq_2 ..) (Ev.neg (by omega) (Ev.some rfl)))
    (fun i hi _ r ih => by
      rw [← wrap_succ (by omega)] at ih
      exact Ev.step (fun _ => yAX.l0.eq_2 ..) (Ev.pos (by omega) (Ev.pos (by omega) (Ev.pos (by omega) (Ev.pos (by omega) (Ev.pos rfl ih))))))
    (fun _ _ h => by cases h)
  exact Ev.eq h (by simp)
end Go.Proofs.Ytgapcmmhbegdeaa.MQLists
end
section
/- The laws' comparison of lists of numbers and of lists of lists: a list is like itself; whether a number is in a list. No condition. -/
namespace Go.Proofs.Ytgapcmmhbegdeaa.MQLists
open Go.RowKit Go.Proofs.Ytgapcmmhbegdeaa.G Go.Proofs.YtgapcmmhbegdeaaW.PrintWords Go.Proofs.YtgapcmmhbegdeaaW.PrintLast Go.Proofs.Ytgapcmmhbegdeaa.MPure

theorem sameLists_ (l : List (List Int)) (hl : l.length ≤ 140737488351232) (h2 : ∀ x, x ∈ l → x.length ≤ 140737488351232) : Ev (fun k => yAZ.f k l l) true := by
  unfold yAZ.f
  refine Ev.pos rfl ?_
  have h := loop_all0 (L := fun k i => yAZ.l0 k l l (l.length : Int) i) l.length (fun _ => true) true (Ev.step (fun _ => yAZ.l0.eq_2 ..) (Ev.neg (by omega) (Ev.some rfl)))
    (fun i hi _ r ih => by
      rw [← wrap_succ (by omega)] at ih
      have hm : (l.getD i []) ∈ l := by
        rw [List.getD_eq_getElem?_getD, List.getElem?_eq_getElem hi]
        exact List.getElem_mem _
      exact Ev.step (fun _ => yAZ.l0.eq_2 ..) (Ev.pos (by omega) (Ev.pos (by omega) (Ev.pos (by omega) (Ev.pos (by omega) (Ev.bind (sameInts_ _ (h2 _ hm)) (Ev.pos rfl ih)))))))
    (fun _ _ h => by cases h)
  exact Ev.eq h (by simp)
end Go.Proofs.Ytgapcmmhbegdeaa.MQLists
end
