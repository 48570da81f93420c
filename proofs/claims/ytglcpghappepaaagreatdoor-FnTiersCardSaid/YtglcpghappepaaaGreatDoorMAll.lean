/- Plain laws of the functions that the claim's functions call: what they compute, with no program in sight. No condition. -/
import Derived.Test.YtglcpghappepaaaGreatDoorWAll
import Derived.Lib.Bytealg
import Derived.Test.YtglcpghappepaaaGreatDoorG2
import Derived.Test.YtglcpghappepaaaGreatDoorG4
import Derived.Test.YtglcpghappepaaaGreatDoorG0
import Derived.Test.YtglcpghappepaaaGreatDoorG3
import Derived.Test.YtglcpghappepaaaGreatDoorG5
import Derived.Test.YtglcpghappepaaaGreatDoorG6
import Derived.Test.YtglcpghappepaaaGreatDoorMBase
import Derived.Test.YtglcpghappepaaaGreatDoorG23
import Derived.Test.YtglcpghappepaaaGreatDoorG24
import Derived.Test.YtglcpghappepaaaGreatDoorG7
import Derived.Test.YtglcpghappepaaaGreatDoorG8
import Derived.Test.YtglcpghappepaaaGreatDoorG9
import Derived.Test.YtglcpghappepaaaGreatDoorG10
import Derived.Test.YtglcpghappepaaaGreatDoorG11
import Derived.Test.YtglcpghappepaaaGreatDoorG12
import Derived.Test.YtglcpghappepaaaGreatDoorG13
import Derived.Test.YtglcpghappepaaaGreatDoorG14
import Derived.Test.YtglcpghappepaaaGreatDoorG1
import Derived.Test.YtglcpghappepaaaGreatDoorG15
import Derived.Test.YtglcpghappepaaaGreatDoorG16
import Derived.Test.YtglcpghappepaaaGreatDoorG18
import Derived.Lib.ItoaNum
import Derived.Test.YtglcpghappepaaaGreatDoorG17
import Derived.Test.YtglcpghappepaaaGreatDoorG19
import Derived.Test.YtglcpghappepaaaGreatDoorG20
import Derived.Test.YtglcpghappepaaaGreatDoorG21
import Derived.Test.YtglcpghappepaaaGreatDoorMSeq
import Derived.Lib.AtoiTie
import Derived.Laws.Strings
import Derived.Test.YtglcpghappepaaaGreatDoorG22
section
/- Plain lemmas on rounds, lists and numbers, for the laws' pure statements: no program in sight. -/
namespace Go.Proofs.YtglcpghappepaaaGreatDoor.MPure
open Go.RowKit Go.Proofs.YtglcpghappepaaaGreatDoorW.PrintWords Go.Proofs.YtglcpghappepaaaGreatDoorW.PrintLast

theorem Ev.pos {α : Type} {c : Prop} [Decidable c] {f g : Nat → Option α} {r : α} (h : c) (k : Ev f r) : Ev (fun n => if c then f n else g n) r := by
  simpa only [if_pos h] using k
theorem Ev.neg {α : Type} {c : Prop} [Decidable c] {f g : Nat → Option α} {r : α} (h : ¬ c) (k : Ev g r) : Ev (fun n => if c then f n else g n) r := by
  simpa only [if_neg h] using k
theorem Ev.some {α : Type} {a r : α} (h : a = r) : Ev (fun _ => Option.some a) r := h ▸ Ev.now a
theorem Ev.have {α β : Type} {a : Option α} {x : α} {f : Nat → α → Option β} {r : β} (h : a = .some x) (k : Ev (fun n => f n x) r) : Ev (fun n => a.bind (f n)) r := by
  subst h
  exact k
theorem Ev.ite {α : Type} {c : Prop} [Decidable c] {f g : Nat → Option α} {r : α} (h : c → Ev f r) (k : ¬ c → Ev g r) : Ev (fun n => if c then f n else g n) r := by
  by_cases hc : c
  · exact Ev.pos hc (h hc)
  · exact Ev.neg hc (k hc)
theorem Ev.eq {α : Type} {g : Nat → Option α} {a r : α} (k : Ev g a) (h : a = r) : Ev g r := h ▸ k
theorem wrap_in {n : Int} (h : -9223372036854775808 ≤ n) (h' : n ≤ 9223372036854775807) : wrap64 n = n := by unfold wrap64; omega
theorem wrap_succ {i : Nat} (h : i ≤ 9223372036854775806) : wrap64 ((i : Int) + 1) = ((i + 1 : Nat) : Int) := by unfold wrap64; omega
theorem wrap_pred {i : Nat} (h0 : 0 < i) (h : i ≤ 9223372036854775806) : wrap64 ((i : Int) - 1) = ((i - 1 : Nat) : Int) := by unfold wrap64; omega
/-- A loop that stops with 'false' at the first place at which p does not hold, and answers e behind the last one. -/
theorem loop_all {L : Nat → Int → Option Bool} (n : Nat) (p : Nat → Bool) (e : Bool) (hend : Ev (fun k => L k (n : Int)) e)
    (hyes : ∀ i : Nat, i < n → p i = true → ∀ r, Ev (fun k => L k ((i + 1 : Nat) : Int)) r → Ev (fun k => L k (i : Int)) r) (hno : ∀ i : Nat, i < n → p i = false → Ev (fun k => L k (i : Int)) false) :
    ∀ d i : Nat, i + d = n → Ev (fun k => L k (i : Int)) ((List.range' i d).all p && e)
  | 0, i, h => by
    have : i = n := by omega
    subst this
    simpa using hend
  | d + 1, i, h => by
    have hi : i < n := by omega
    cases hp : p i with
    | true =>
      have ih := loop_all n p e hend hyes hno d (i + 1) (by omega)
      have := hyes i hi hp _ ih
      simpa [List.range'_succ, hp] using this
    | false =>
      have := hno i hi hp
      simpa [List.range'_succ, hp] using this
/-- The same from its begin. -/
theorem loop_all0 {L : Nat → Int → Option Bool} (n : Nat) (p : Nat → Bool) (e : Bool) (hend : Ev (fun k => L k (n : Int)) e)
    (hyes : ∀ i : Nat, i < n → p i = true → ∀ r, Ev (fun k => L k ((i + 1 : Nat) : Int)) r → Ev (fun k => L k (i : Int)) r) (hno : ∀ i : Nat, i < n → p i = false → Ev (fun k => L k (i : Int)) false) :
    Ev (fun k => L k 0) ((List.range n).all p && e) := by
  have h := loop_all n p e hend hyes hno n 0 (by omega)
  rw [← List.range_eq_range'] at h
  exact h

theorem all_congr {n : Nat} {p q : Nat → Bool} (h : ∀ i, i < n → p i = q i) : (List.range n).all p = (List.range n).all q := by
  rw [Bool.eq_iff_iff]
  simp only [List.all_eq_true, List.mem_range]
  constructor
  · exact fun H i hi => by rw [← h i hi]; exact H i hi
  · exact fun H i hi => by rw [h i hi]; exact H i hi

end Go.Proofs.YtglcpghappepaaaGreatDoor.MPure
end
section
/- Words: what the printed functions on texts of some letters come to. -/
namespace Go.Proofs.YtglcpghappepaaaGreatDoor.MWord
open Go.RowKit Go.Proofs.YtglcpghappepaaaGreatDoor.G Go.Proofs.YtglcpghappepaaaGreatDoorW.PrintWords Go.Proofs.YtglcpghappepaaaGreatDoorW.PrintLast Go.Proofs.YtglcpghappepaaaGreatDoor.MPure

/-- 1 to 8 bytes, of each of which p holds. -/
def wordB (p : Int → Bool) (s : ByteArray) : Bool := (List.range s.size).all (fun i => p (bt s (i : Int))) && decide (1 ≤ (s.size : Int) ∧ (s.size : Int) ≤ 8)
def capB (c : Int) : Bool := decide (65 ≤ c ∧ c ≤ 90)
theorem l1In_ (a b c : Int) : yA7.f a b c = some (decide (b ≤ a ∧ a ≤ c)) := by
  unfold yA7.f
  by_cases h : a ≥ b
  · rw [if_pos h]; simp [show b ≤ a from h]
  · rw [if_neg h]; simp [show ¬ b ≤ a from h]
theorem within_ (a b c : Int) : yA6.f a b c = some (decide (b ≤ a ∧ a ≤ c)) := by
  unfold yA6.f
  by_cases h : a ≥ b
  · rw [if_pos h]; simp [show b ≤ a from h]
  · rw [if_neg h]; simp [show ¬ b ≤ a from h]

/-- Which bytes are among some letters. -/
def amongB (ls : ByteArray) (c : Int) : Bool := decide (0 ≤ Lib.indexByte ls.data.toList c.toNat.toUInt8)
theorem hasOnly_ (s ls : ByteArray) (hs : s.size ≤ 140737488351232) : Ev (fun k => yAk.f k s ls) ((List.range s.size).all (fun i => amongB ls (bt s (i : Int)))) := by
  refine Ev.eq (loop_all0 (L := fun k i => yAk.l0 k s ls (s.size : Int) i) s.size (fun i => amongB ls (bt s (i : Int))) true ?_ ?_ ?_) (Bool.and_true _)
  · refine Ev.step (f := fun _ => _) (fun k => ?_) (Ev.some rfl)
    simp only [yAk.l0]
    rw [if_neg (by omega)]
  · intro i hi hp r hr
    refine Ev.step (f := fun k => yAk.l0 k s ls (s.size : Int) ((i + 1 : Nat) : Int)) (fun k => ?_) hr
    simp only [amongB, decide_eq_true_eq] at hp
    simp only [yAk.l0, yA4.f, Option.bind_some]
    rw [if_pos (by omega), if_pos (by omega), if_pos (by omega), if_neg (by omega), wrap_succ (by omega)]
  · intro i hi hp
    refine Ev.step (f := fun k => some false) (fun k => ?_) (Ev.some rfl)
    simp only [amongB, decide_eq_false_iff_not] at hp
    simp only [yAk.l0, yA4.f, Option.bind_some]
    rw [if_pos (by omega), if_pos (by omega), if_pos (by omega), if_pos (by omega)]
theorem isWordOf_ (s ls : ByteArray) (hs : s.size ≤ 140737488351232) : Ev (fun k => yBB.f k s ls) (wordB (amongB ls) s) := by
  unfold yBB.f
  refine Ev.have (within_ _ _ _) (Ev.ite (fun h => ?_) (fun h => ?_))
  · refine Ev.bind (hasOnly_ s ls hs) (Ev.some ?_)
    simp only [wordB]
    rw [h, Bool.and_true]
  · refine Ev.some ?_
    simp only [wordB]
    rw [Bool.eq_false_iff.2 h, Bool.and_false]
/-- The capital letters, as the program has them. -/
theorem caps (c : Int) (h0 : 0 ≤ c) (h1 : c ≤ 255) : amongB (⟨#[65, 66, 67, 68, 69, 70, 71, 72, 73, 74, 75, 76, 77, 78, 79, 80, 81, 82, 83, 84, 85, 86, 87, 88, 89, 90]⟩ : ByteArray) c = capB c := by
  have key : ∀ n : Nat, n < 256 → amongB (⟨#[65, 66, 67, 68, 69, 70, 71, 72, 73, 74, 75, 76, 77, 78, 79, 80, 81, 82, 83, 84, 85, 86, 87, 88, 89, 90]⟩ : ByteArray) (n : Int) = capB (n : Int) := by decide +kernel
  obtain ⟨n, rfl⟩ := Int.eq_ofNat_of_zero_le h0
  exact key n (by omega)
theorem wordB_congr {p q : Int → Bool} (h : ∀ c, 0 ≤ c → c ≤ 255 → p c = q c) (s : ByteArray) : wordB p s = wordB q s := by
  unfold wordB
  rw [all_congr (fun i _ => h _ (bt_range s _).1 (bt_range s _).2)]
theorem isWord_ (s : ByteArray) (hs : s.size ≤ 140737488351232) : Ev (fun k => yBB.f k s (⟨#[65, 66, 67, 68, 69, 70, 71, 72, 73, 74, 75, 76, 77, 78, 79, 80, 81, 82, 83, 84, 85, 86, 87, 88, 89, 90]⟩ : ByteArray)) (wordB capB s) :=
  Ev.eq (isWordOf_ s _ hs) (wordB_congr caps s)

end Go.Proofs.YtglcpghappepaaaGreatDoor.MWord
end
section
/- What the printed functions on notes and tiers come to, by numbers and lists alone: words, notes, tiers, the copies and the comparison that the exact laws use. -/
namespace Go.Proofs.YtglcpghappepaaaGreatDoor.MNote
open Go.RowKit Go.Proofs.YtglcpghappepaaaGreatDoor.G Go.Proofs.YtglcpghappepaaaGreatDoorW.PrintWords Go.Proofs.YtglcpghappepaaaGreatDoorW.PrintLast Go.Proofs.YtglcpghappepaaaGreatDoor.MPure Go.Proofs.YtglcpghappepaaaGreatDoor.MWord

theorem fsWord_ (s : ByteArray) (hs : s.size ≤ 140737488351232) : Ev (fun k => yAm.f k s) (wordB capB s) := by
  refine loop_all0 (L := fun k i => yAm.l0 k s i) s.size (fun i => capB (bt s (i : Int))) _ ?_ ?_ ?_
  · refine Ev.step (f := fun _ => _) (fun k => ?_) (Ev.some rfl)
    simp only [yAm.l0]
    rw [if_neg (by omega), l1In_]
    rfl
  · intro i hi hp r hr
    refine Ev.step (f := fun k => yAm.l0 k s ((i + 1 : Nat) : Int)) (fun k => ?_) hr
    simp only [capB, decide_eq_true_eq] at hp
    simp only [yAm.l0]
    rw [if_pos (by omega), if_pos (by omega), if_neg (by omega), if_neg (by omega), wrap_succ (by omega)]
  · intro i hi hp
    simp only [capB, decide_eq_false_iff_not] at hp
    by_cases h : bt s (i : Int) < 65
    · refine Ev.step (f := fun k => some false) (fun k => ?_) (Ev.some rfl)
      simp only [yAm.l0]
      rw [if_pos (by omega), if_pos (by omega), if_pos h]
    · refine Ev.step (f := fun k => some false) (fun k => ?_) (Ev.some rfl)
      simp only [yAm.l0]
      rw [if_pos (by omega), if_pos (by omega), if_neg h, if_pos (by omega)]

/-! ### notes -/
def frameB (n : Int) : Bool := decide (0 ≤ n ∧ n ≤ 99999)
def noteB (f t : Int) (g : ByteArray) : Bool := frameB f && frameB t && decide (f < t) && wordB capB g
theorem tiFrame_ (a : Int) : yAW.f a = some (frameB a) := by
  unfold yAW.f
  rw [l1In_]
  rfl
theorem isFrame_ (a : Int) : yAY.f a = some (frameB a) := by
  unfold yAY.f
  rw [within_]
  rfl
theorem tiNote_ (f t : Int) (g : ByteArray) (hg : g.size ≤ 140737488351232) : Ev (fun k => yA2.f k f t g) (noteB f t g) := by
  unfold yA2.f noteB
  refine Ev.have (tiFrame_ _) (Ev.ite (fun h => ?_) (fun h => Ev.some (by rw [Bool.eq_false_iff.2 h]; rfl)))
  refine Ev.have (tiFrame_ _) (Ev.ite (fun h2 => ?_) (fun h2 => Ev.some (by rw [Bool.eq_false_iff.2 h2]; simp)))
  refine Ev.ite (fun h3 => ?_) (fun h3 => Ev.some (by simp [h3]))
  exact Ev.bind (fsWord_ g hg) (Ev.some (by simp [h, h2, h3]))
theorem IsNote_ (f t : Int) (g : ByteArray) (hg : g.size ≤ 140737488351232) : Ev (fun k => yA1.f k f t g) (noteB f t g) := by
  unfold yA1.f noteB
  refine Ev.have (isFrame_ _) (Ev.ite (fun h => ?_) (fun h => Ev.some (by rw [Bool.eq_false_iff.2 h]; rfl)))
  refine Ev.have (isFrame_ _) (Ev.ite (fun h2 => ?_) (fun h2 => Ev.some (by rw [Bool.eq_false_iff.2 h2]; simp)))
  refine Ev.ite (fun h3 => ?_) (fun h3 => Ev.some (by simp [h3]))
  exact Ev.bind (isWord_ g hg) (Ev.some (by simp [h, h2, h3]))
/-! ### tiers -/
abbrev NI := S25
def atN (l : List NI) (i : Nat) : NI := l.getD i z25
theorem atN_mem {l : List NI} {i : Nat} (h : i < l.length) : atN l i ∈ l := by
  unfold atN
  rw [List.getD_eq_getElem?_getD, List.getElem?_eq_getElem h]
  exact List.getElem_mem h
/-- What the notes' texts bear. -/
def Sized (l : List NI) : Prop := l.length ≤ 140737488351232 ∧ ∀ x, x ∈ l → x.f2.size ≤ 140737488351232
def tierP (l : List NI) (i : Nat) : Bool := noteB (atN l i).f0 (atN l i).f1 (atN l i).f2 && (decide (i = 0) || decide ((atN l (i - 1)).f1 ≤ (atN l i).f0))
def tierB (l : List NI) : Bool := (List.range l.length).all (tierP l) && decide ((l.length : Int) ≤ 40)

theorem tiGood_ (l : List NI) (hl : Sized l) : Ev (fun k => yAJ.f k l) (tierB l) := by
  obtain ⟨hn, hs⟩ := hl
  refine loop_all0 (L := fun k i => yAJ.l0 k l l (l.length : Int) i) l.length (tierP l) _ ?_ ?_ ?_
  · exact Ev.step (fun _ => yAJ.l0.eq_2 ..) (Ev.neg (by omega) (Ev.some rfl))
  · intro i hi hp r hr
    simp only [tierP, Bool.and_eq_true] at hp
    refine Ev.step (fun _ => yAJ.l0.eq_2 ..) (Ev.pos (by omega) (Ev.pos (by omega) (Ev.pos (by omega) (Ev.bind (tiNote_ _ _ _ (hs _ (atN_mem hi))) (Ev.pos hp.1 (Ev.ite (fun h0 => ?_) (fun h0 => ?_)))))))
    · rw [wrap_pred (by omega) (by omega)]
      refine Ev.pos (by omega) (Ev.pos (by omega) (Ev.neg ?_ ?_))
      · have := hp.2
        simp only [Bool.or_eq_true, decide_eq_true_eq] at this
        have h : (atN l (i - 1)).f1 ≤ (atN l i).f0 := by
          rcases this with h | h
          · omega
          · exact h
        exact Int.not_lt.2 h
      · rw [wrap_succ (by omega)]
        exact hr
    · rw [wrap_succ (by omega)]
      exact hr
  · intro i hi hp
    refine Ev.step (fun _ => yAJ.l0.eq_2 ..) (Ev.pos (by omega) (Ev.pos (by omega) (Ev.pos (by omega) (Ev.bind (tiNote_ _ _ _ (hs _ (atN_mem hi))) (Ev.ite (fun h1 => ?_) (fun _ => Ev.some rfl))))))
    simp only [tierP, Bool.and_eq_false_iff, Bool.or_eq_false_iff, decide_eq_false_iff_not] at hp
    rcases hp with hp | ⟨hp, hq⟩
    · exact absurd (h1.symm.trans hp) (by decide)
    · refine Ev.pos (by omega) ?_
      rw [wrap_pred (by omega) (by omega)]
      exact Ev.pos (by omega) (Ev.pos (by omega) (Ev.pos (Int.not_le.1 hq) (Ev.some rfl)))
theorem IsTier_ (l : List NI) (hl : Sized l) : Ev (fun k => yAH.f k l) (tierB l) := by
  obtain ⟨hn, hs⟩ := hl
  refine loop_all0 (L := fun k i => yAH.l0 k l l (l.length : Int) i) l.length (tierP l) _ ?_ ?_ ?_
  · exact Ev.step (fun _ => yAH.l0.eq_2 ..) (Ev.neg (by omega) (Ev.some rfl))
  · intro i hi hp r hr
    simp only [tierP, Bool.and_eq_true] at hp
    refine Ev.step (fun _ => yAH.l0.eq_2 ..) (Ev.pos (by omega) (Ev.pos (by omega) (Ev.pos (by omega) (Ev.bind (IsNote_ _ _ _ (hs _ (atN_mem hi))) (Ev.pos hp.1 (Ev.ite (fun h0 => ?_) (fun h0 => ?_)))))))
    · rw [wrap_pred (by omega) (by omega)]
      refine Ev.pos (by omega) (Ev.pos (by omega) (Ev.neg ?_ ?_))
      · have := hp.2
        simp only [Bool.or_eq_true, decide_eq_true_eq] at this
        have h : (atN l (i - 1)).f1 ≤ (atN l i).f0 := by
          rcases this with h | h
          · omega
          · exact h
        exact Int.not_lt.2 h
      · rw [wrap_succ (by omega)]
        exact hr
    · rw [wrap_succ (by omega)]
      exact hr
  · intro i hi hp
    refine Ev.step (fun _ => yAH.l0.eq_2 ..) (Ev.pos (by omega) (Ev.pos (by omega) (Ev.pos (by omega) (Ev.bind (IsNote_ _ _ _ (hs _ (atN_mem hi))) (Ev.ite (fun h1 => ?_) (fun _ => Ev.some rfl))))))
    simp only [tierP, Bool.and_eq_false_iff, Bool.or_eq_false_iff, decide_eq_false_iff_not] at hp
    rcases hp with hp | ⟨hp, hq⟩
    · exact absurd (h1.symm.trans hp) (by decide)
    · refine Ev.pos (by omega) ?_
      rw [wrap_pred (by omega) (by omega)]
      exact Ev.pos (by omega) (Ev.pos (by omega) (Ev.pos (Int.not_le.1 hq) (Ev.some rfl)))

end Go.Proofs.YtglcpghappepaaaGreatDoor.MNote
end
section
/- Loops that search, by lists alone. -/
namespace Go.Proofs.YtglcpghappepaaaGreatDoor.MAt0
open Go.RowKit Go.Proofs.YtglcpghappepaaaGreatDoorW.PrintWords Go.Proofs.YtglcpghappepaaaGreatDoorW.PrintLast Go.Proofs.YtglcpghappepaaaGreatDoor.MPure

/-- A loop that answers the first place at which p holds, or -1. -/
theorem loop_find {α : Type} {L : Nat → Int → Option Int} (l : List α) (z : α) (p : α → Bool) (hend : Ev (fun k => L k (l.length : Int)) (-1))
    (hyes : ∀ i : Nat, i < l.length → p (l.getD i z) = true → Ev (fun k => L k (i : Int)) (i : Int)) (hno : ∀ i : Nat, i < l.length → p (l.getD i z) = false → ∀ r, Ev (fun k => L k ((i + 1 : Nat) : Int)) r → Ev (fun k => L k (i : Int)) r) :
    Ev (fun k => L k 0) (idxOf p l) := by
  have key : ∀ d i : Nat, i + d = l.length → (∀ j, j < i → p (l.getD j z) = false) → Ev (fun k => L k (i : Int)) (idxOf p l) := by
    intro d
    induction d with
    | zero =>
      intro i hi hb
      obtain rfl : i = l.length := by omega
      rw [idxOf_miss z hb]
      exact hend
    | succ d ih =>
      intro i hi hb
      cases hp : p (l.getD i z) with
      | true =>
        rw [idxOf_hit z (by omega) hp hb]
        exact hyes i (by omega) hp
      | false =>
        refine hno i (by omega) hp _ (ih (i + 1) (by omega) (fun j hj => ?_))
        by_cases e : j = i
        · subst e; exact hp
        · exact hb j (by omega)
  exact key l.length 0 (by omega) (fun j hj => absurd hj (Nat.not_lt_zero _))
end Go.Proofs.YtglcpghappepaaaGreatDoor.MAt0
end
section
/- In which note a frame lies: the reference's search and the program's, by lists alone. -/
namespace Go.Proofs.YtglcpghappepaaaGreatDoor.MAt
open Go.RowKit Go.Proofs.YtglcpghappepaaaGreatDoor.G Go.Proofs.YtglcpghappepaaaGreatDoorW.PrintWords Go.Proofs.YtglcpghappepaaaGreatDoorW.PrintLast Go.Proofs.YtglcpghappepaaaGreatDoor.MPure Go.Proofs.YtglcpghappepaaaGreatDoor.MWord Go.Proofs.YtglcpghappepaaaGreatDoor.MNote Go.Proofs.YtglcpghappepaaaGreatDoor.MAt0

theorem tiAt_ (l : List NI) (hl : Sized l) (a : Int) : Ev (fun k => yAs.f k l a) (idxOf (yAa.p a) l) := by
  obtain ⟨hn, _⟩ := hl
  refine loop_find (L := fun k i => yAs.l0 k a l (l.length : Int) i) l z25 (yAa.p a) ?_ ?_ ?_
  · exact Ev.step (fun _ => yAs.l0.eq_2 ..) (Ev.neg (by omega) (Ev.some rfl))
  · intro i hi hp
    refine Ev.step (fun _ => yAs.l0.eq_2 ..) (Ev.pos (by omega) (Ev.pos (by omega) (Ev.pos (by omega) (Ev.have (l1In_ _ _ _) (Ev.pos hp (Ev.some rfl))))))
  · intro i hi hp r hr
    refine Ev.step (fun _ => yAs.l0.eq_2 ..) (Ev.pos (by omega) (Ev.pos (by omega) (Ev.pos (by omega) (Ev.have (l1In_ _ _ _) (Ev.neg (Bool.eq_false_iff.1 hp) ?_)))))
    rw [wrap_succ (by omega)]
    exact hr
end Go.Proofs.YtglcpghappepaaaGreatDoor.MAt
end
section
/- The library's stable sort, as the print tells it: what comes back are the same elements, in the order of their first numbers. -/
namespace Go.Proofs.YtglcpghappepaaaGreatDoor.MSort
open Go.RowKit Go.Proofs.YtglcpghappepaaaGreatDoor.G Go.Proofs.YtglcpghappepaaaGreatDoorW.PrintWords Go.Proofs.YtglcpghappepaaaGreatDoorW.PrintLast Go.Proofs.YtglcpghappepaaaGreatDoor.MPure Go.Proofs.YtglcpghappepaaaGreatDoor.MNote

def ky (l : List NI) (i : Nat) : Int := (atN l i).f0
theorem atN_get {l : List NI} {i : Nat} (h : i < l.length) : atN l i = l[i] := by
  unfold atN
  rw [List.getD_eq_getElem?_getD, List.getElem?_eq_getElem h]
  rfl
/-- r is l with the elements from a up to b in another order. -/
def W (l r : List NI) (a b : Nat) : Prop := r.length = l.length ∧ r.Perm l ∧ (∀ i, i < a ∨ b ≤ i → atN r i = atN l i) ∧ (∀ i, a ≤ i → i < b → ∃ j, a ≤ j ∧ j < b ∧ atN r i = atN l j)
theorem W.refl (l : List NI) (a b : Nat) : W l l a b := ⟨rfl, List.Perm.refl _, fun _ _ => rfl, fun i h1 h2 => ⟨i, h1, h2, rfl⟩⟩
theorem W.trans {l r s : List NI} {a b : Nat} (h : W l r a b) (k : W r s a b) : W l s a b := by
  refine ⟨k.1.trans h.1, k.2.1.trans h.2.1, fun i hi => (k.2.2.1 i hi).trans (h.2.2.1 i hi), fun i h1 h2 => ?_⟩
  obtain ⟨j, j1, j2, e⟩ := k.2.2.2 i h1 h2
  obtain ⟨m, m1, m2, e2⟩ := h.2.2.2 j j1 j2
  exact ⟨m, m1, m2, e.trans e2⟩
theorem W.widen {l r : List NI} {a b a' b' : Nat} (h : W l r a b) (ha : a' ≤ a) (hb : b ≤ b') : W l r a' b' := by
  refine ⟨h.1, h.2.1, fun i hi => h.2.2.1 i (by omega), fun i h1 h2 => ?_⟩
  by_cases hc : a ≤ i ∧ i < b
  · obtain ⟨j, j1, j2, e⟩ := h.2.2.2 i hc.1 hc.2
    exact ⟨j, by omega, by omega, e⟩
  · exact ⟨i, h1, h2, h.2.2.1 i (by omega)⟩
def sw (l : List NI) (i j : Nat) : List NI := (l.set i (atN l j)).set j (atN l i)
theorem atN_set (l : List NI) (i j : Nat) (v : NI) (h : i < l.length) : atN (l.set i v) j = if j = i then v else atN l j := by
  unfold atN
  rw [List.getD_eq_getElem?_getD, List.getElem?_set]
  by_cases e : i = j
  · subst e
    rw [if_pos rfl, if_pos h, if_pos rfl]
    rfl
  · rw [if_neg e, if_neg (fun h => e h.symm), ← List.getD_eq_getElem?_getD]
theorem sw_at (l : List NI) {i j : Nat} (hi : i < l.length) (hj : j < l.length) (t : Nat) : atN (sw l i j) t = if t = j then atN l i else if t = i then atN l j else atN l t := by
  unfold sw
  rw [atN_set _ _ _ _ (by rw [List.length_set]; exact hj), atN_set _ _ _ _ hi]
theorem sw_length (l : List NI) (i j : Nat) : (sw l i j).length = l.length := by simp [sw]
theorem sw_perm (l : List NI) {i j : Nat} (hi : i < l.length) (hj : j < l.length) : (sw l i j).Perm l := by
  unfold sw
  rw [atN_get hi, atN_get hj]
  exact List.set_set_perm hi hj
theorem W.sw (l : List NI) {i j a b : Nat} (hi : i < l.length) (hj : j < l.length) (h1 : a ≤ i) (h2 : i < b) (h3 : a ≤ j) (h4 : j < b) : W l (sw l i j) a b := by
  refine ⟨sw_length l i j, sw_perm l hi hj, fun t ht => ?_, fun t ht1 ht2 => ?_⟩
  · rw [sw_at l hi hj, if_neg (by omega), if_neg (by omega)]
  · rw [sw_at l hi hj]
    by_cases e : t = j
    · rw [if_pos e]; exact ⟨i, h1, h2, rfl⟩
    · rw [if_neg e]
      by_cases e2 : t = i
      · rw [if_pos e2]; exact ⟨j, h3, h4, rfl⟩
      · rw [if_neg e2]; exact ⟨t, ht1, ht2, rfl⟩
/-- Sorted from a up to b. -/
def Srt (l : List NI) (a b : Nat) : Prop := ∀ p q, a ≤ p → p < q → q < b → ky l p ≤ ky l q
theorem Srt.sub {l : List NI} {a b a' b' : Nat} (h : Srt l a b) (ha : a ≤ a') (hb : b' ≤ b) : Srt l a' b' := fun p q h1 h2 h3 => h p q (by omega) h2 (by omega)
theorem Srt.same {l r : List NI} {a b : Nat} (h : Srt l a b) (e : ∀ i, a ≤ i → i < b → atN r i = atN l i) : Srt r a b := by
  intro p q h1 h2 h3
  unfold ky
  rw [e p h1 (by omega), e q (by omega) h3]
  exact h p q h1 h2 h3
def KB (l : List NI) : Prop := (∀ x, x ∈ l → 0 ≤ x.f0 ∧ x.f0 ≤ 99999) ∧ l.length ≤ 4398046511104
theorem KB.perm {l r : List NI} (h : KB l) (p : r.Perm l) : KB r := ⟨fun x hx => h.1 x (p.mem_iff.1 hx), by rw [p.length_eq]; exact h.2⟩
theorem KB.at {l : List NI} (h : KB l) {i : Nat} (hi : i < l.length) : 0 ≤ ky l i ∧ ky l i ≤ 99999 := h.1 _ (atN_mem hi)
theorem cmp_ (x y : NI) (hx : 0 ≤ x.f0 ∧ x.f0 ≤ 99999) (hy : 0 ≤ y.f0 ∧ y.f0 ≤ 99999) : yAT.f x.f0 x.f1 x.f2 y.f0 y.f1 y.f2 = some (x.f0 - y.f0) := by
  unfold yAT.f
  rw [wrap_in (by omega) (by omega)]

/-! ### insertion -/
def Inv (l : List NI) (a i j : Nat) : Prop := (∀ p q, a ≤ p → p < q → q ≤ i → p ≠ j → q ≠ j → ky l p ≤ ky l q) ∧ (∀ q, j < q → q ≤ i → ky l j ≤ ky l q)
theorem ins (a b : Nat) : ∀ d i : Nat, i + d = b → a ≤ i → ∀ x : List NI, b ≤ x.length → KB x → Srt x a i →
    ∃ r, Ev (fun k => yAB.l0 k x (a : Int) (b : Int) (i : Int)) r ∧ W x r a b ∧ Srt r a b := by
  intro d
  induction d with
  | zero =>
    intro i hi ha x hb hk hs
    obtain rfl : i = b := by omega
    exact ⟨x, Ev.step (fun _ => yAB.l0.eq_2 ..) (Ev.neg (by omega) (Ev.some rfl)), W.refl _ _ _, hs⟩
  | succ d ih =>
    intro i hi ha x hb hk hs
    have inner : ∀ e j : Nat, j = a + e → j ≤ i → ∀ y : List NI, y.length = x.length → KB y → Inv y a i j → ∃ r, Ev (fun k => yAB.l1 k y (a : Int) (b : Int) (i : Int) (j : Int)) r ∧ W y r a b ∧ Srt r a b := by
      intro e
      induction e with
      | zero =>
        intro j hj hji y hy hky hI
        obtain ⟨r, h1, h2, h3⟩ := ih (i + 1) (by omega) (by omega) y (by omega) hky (fun p q p1 p2 p3 => by
          by_cases e1 : p = j
          · subst e1; exact hI.2 q p2 (by omega)
          · exact hI.1 p q p1 p2 (by omega) e1 (by omega))
        have := hky.2
        rw [← wrap_succ (by omega)] at h1
        exact ⟨r, Ev.step (fun _ => yAB.l1.eq_2 ..) (Ev.neg (by omega) (Ev.step (fun _ => yAB.j2.eq_2 ..) (Ev.neg (by decide) h1))), h2, h3⟩
      | succ e ihe =>
        intro j hj hji y hy hky hI
        have hlen := hky.2
        have hj1 : j < y.length := by omega
        have hj2 : j - 1 < y.length := by omega
        have hw : wrap64 ((j : Int) - 1) = ((j - 1 : Nat) : Int) := wrap_pred (by omega) (by omega)
        have hc := cmp_ (atN y j) (atN y (j - 1)) (hky.at hj1) (hky.at hj2)
        by_cases hlt : ky y j < ky y (j - 1)
        · obtain ⟨r, h1, h2, h3⟩ := ihe (j - 1) (by omega) (by omega) (sw y j (j - 1)) (by rw [sw_length]; exact hy) (hky.perm (sw_perm y hj1 hj2)) (by
            have hv : ∀ t, ky (sw y j (j - 1)) t = if t = j - 1 then ky y j else if t = j then ky y (j - 1) else ky y t := by
              intro t
              unfold ky
              rw [sw_at y hj1 hj2]
              split
              · rfl
              · split <;> rfl
            refine ⟨fun p q p1 p2 p3 p4 p5 => ?_, fun q q1 q2 => ?_⟩
            · rw [hv p, hv q, if_neg p4, if_neg p5]
              by_cases e1 : p = j
              · rw [if_pos e1, if_neg (by omega)]
                exact hI.1 (j - 1) q (by omega) (by omega) p3 (by omega) (by omega)
              · rw [if_neg e1]
                by_cases e2 : q = j
                · rw [if_pos e2]
                  exact hI.1 p (j - 1) p1 (by omega) (by omega) e1 (by omega)
                · rw [if_neg e2]
                  exact hI.1 p q p1 p2 p3 e1 e2
            · rw [hv (j - 1), hv q, if_pos rfl, if_neg (by omega)]
              by_cases e2 : q = j
              · rw [if_pos e2]; omega
              · rw [if_neg e2]
                exact hI.2 q (by omega) q2)
          have hW := W.sw y (a := a) (b := b) hj1 hj2 (by omega) (by omega) (by omega) (by omega)
          refine ⟨r, Ev.step (fun _ => yAB.l1.eq_2 ..) (Ev.pos (by omega) (Ev.pos (by omega) (Ev.pos (by omega) ?_))), hW.trans h2, h3⟩
          rw [hw]
          refine Ev.pos (by omega) (Ev.pos (by omega) (Ev.have hc (Ev.step (fun _ => yAB.j2.eq_2 ..) (Ev.pos (decide_eq_true (by unfold ky at hlt; omega)) ?_))))
          rw [hw]
          exact Ev.pos (by omega) (Ev.pos (by omega) (Ev.pos (by omega) (Ev.pos (by omega) h1)))
        · obtain ⟨r, h1, h2, h3⟩ := ih (i + 1) (by omega) (by omega) y (by omega) hky (fun p q p1 p2 p3 => by
            by_cases e1 : p = j
            · subst e1; exact hI.2 q p2 (by omega)
            · by_cases e2 : q = j
              · subst e2
                by_cases e3 : p = q - 1
                · subst e3; omega
                · have := hI.1 p (q - 1) p1 (by omega) (by omega) e1 (by omega)
                  omega
              · exact hI.1 p q p1 p2 (by omega) e1 e2)
          rw [← wrap_succ (by omega)] at h1
          refine ⟨r, Ev.step (fun _ => yAB.l1.eq_2 ..) (Ev.pos (by omega) (Ev.pos (by omega) (Ev.pos (by omega) ?_))), h2, h3⟩
          rw [hw]
          exact Ev.pos (by omega) (Ev.pos (by omega) (Ev.have hc (Ev.step (fun _ => yAB.j2.eq_2 ..) (Ev.neg (by unfold ky at hlt; simp only [decide_eq_true_eq]; omega) h1))))
    obtain ⟨r, h1, h2, h3⟩ := inner (i - a) i (by omega) (Nat.le_refl _) x rfl hk ⟨fun p q p1 p2 p3 p4 p5 => hs p q p1 p2 (by omega), fun q q1 q2 => by omega⟩
    exact ⟨r, Ev.step (fun _ => yAB.l0.eq_2 ..) (Ev.pos (by omega) h1), h2, h3⟩
theorem insertion (x : List NI) (a b : Nat) (hab : a ≤ b) (hb : b ≤ x.length) (hk : KB x) : ∃ r, Ev (fun k => yAB.f k x (a : Int) (b : Int)) r ∧ W x r a b ∧ Srt r a b := by
  unfold yAB.f
  have := hk.2
  rw [wrap_succ (by omega)]
  rcases Nat.eq_or_lt_of_le hab with e | e
  · refine ⟨x, Ev.step (fun _ => yAB.l0.eq_2 ..) (Ev.neg (by omega) (Ev.some rfl)), W.refl _ _ _, fun p q h1 h2 h3 => by omega⟩
  · exact ins a b (b - (a + 1)) (a + 1) (by omega) (by omega) x hb hk (fun p q h1 h2 h3 => by omega)

/-! ### rows of swaps, turns -/
theorem wrap_add {a b : Nat} (h : a + b ≤ 4611686018427387904) : wrap64 ((a : Int) + (b : Int)) = ((a + b : Nat) : Int) := by unfold wrap64; omega
theorem wrap_sub {a b : Nat} (h : b ≤ a) (h' : a ≤ 4611686018427387904) : wrap64 ((a : Int) - (b : Int)) = ((a - b : Nat) : Int) := by unfold wrap64; omega
theorem half {a b : Nat} (h : a + b ≤ 4611686018427387904) : wrap64 ((IntKind.u64.wrap (wrap64 ((a : Int) + (b : Int)))) / 2) = (((a + b) / 2 : Nat) : Int) := by
  rw [wrap_add h]
  have : IntKind.u64.wrap ((a + b : Nat) : Int) = ((a + b : Nat) : Int) := by
    show ((a + b : Nat) : Int) % 2 ^ 64 = _
    omega
  rw [this]
  unfold wrap64
  omega
theorem swapRange (x : List NI) (a b n : Nat) (hab : a + n ≤ b) (hb : b + n ≤ x.length) (hl : x.length ≤ 4398046511104) :
    ∃ r, Ev (fun k => yAE.f k x (a : Int) (b : Int) (n : Int)) r ∧ r.length = x.length ∧ r.Perm x ∧ (∀ t, t < n → atN r (a + t) = atN x (b + t) ∧ atN r (b + t) = atN x (a + t)) ∧ (∀ t, t < a ∨ a + n ≤ t → t < b ∨ b + n ≤ t → atN r t = atN x t) := by
  have key : ∀ d i : Nat, i + d = n → ∀ y : List NI, y.length = x.length → y.Perm x → (∀ t, t < i → atN y (a + t) = atN x (b + t) ∧ atN y (b + t) = atN x (a + t)) → (∀ t, t < a ∨ a + i ≤ t → t < b ∨ b + i ≤ t → atN y t = atN x t) →
      ∃ r, Ev (fun k => yAE.l0 k y (a : Int) (b : Int) (n : Int) (i : Int)) r ∧ r.length = x.length ∧ r.Perm x ∧ (∀ t, t < n → atN r (a + t) = atN x (b + t) ∧ atN r (b + t) = atN x (a + t)) ∧ (∀ t, t < a ∨ a + n ≤ t → t < b ∨ b + n ≤ t → atN r t = atN x t) := by
    intro d
    induction d with
    | zero =>
      intro i hi y hy hp h1 h2
      obtain rfl : i = n := by omega
      exact ⟨y, Ev.step (fun _ => yAE.l0.eq_2 ..) (Ev.neg (by omega) (Ev.some rfl)), hy, hp, h1, h2⟩
    | succ d ih =>
      intro i hi y hy hp h1 h2
      have ha' : a + i < y.length := by omega
      have hb' : b + i < y.length := by omega
      obtain ⟨r, g1, g2, g3, g4, g5⟩ := ih (i + 1) (by omega) (sw y (a + i) (b + i)) (by rw [sw_length]; exact hy) ((sw_perm y ha' hb').trans hp) (fun t ht => by
        rw [sw_at y ha' hb', sw_at y ha' hb', if_neg (by omega)]
        by_cases e : t = i
        · subst e
          rw [if_pos rfl, if_pos rfl, h2 (b + t) (by omega) (by omega), h2 (a + t) (by omega) (by omega)]
          exact ⟨rfl, rfl⟩
        · rw [if_neg (by omega), if_neg (by omega), if_neg (by omega)]
          exact h1 t (by omega)) (fun t t1 t2 => by
        rw [sw_at y ha' hb', if_neg (by omega), if_neg (by omega)]
        exact h2 t (by omega) (by omega))
      rw [← wrap_succ (by omega)] at g1
      refine ⟨r, Ev.step (fun _ => yAE.l0.eq_2 ..) (Ev.pos (by omega) ?_), g2, g3, g4, g5⟩
      rw [wrap_add (a := b) (b := i) (by omega), wrap_add (a := a) (b := i) (by omega)]
      exact Ev.pos (by omega) (Ev.pos (by omega) (Ev.pos (by omega) (Ev.pos (by omega) g1)))
  exact key n 0 (by omega) x rfl (List.Perm.refl _) (fun t ht => absurd ht (Nat.not_lt_zero _)) (fun t _ _ => rfl)
theorem rot : ∀ N i j : Nat, i + j ≤ N → 0 < i → 0 < j → ∀ (x : List NI) (m : Nat), i ≤ m → m + j ≤ x.length → x.length ≤ 4398046511104 →
    ∃ r, Ev (fun k => yAO.l0 k x (m : Int) (i : Int) (j : Int)) r ∧ r.length = x.length ∧ r.Perm x ∧ (∀ t, t < j → atN r (m - i + t) = atN x (m + t)) ∧ (∀ t, t < i → atN r (m - i + j + t) = atN x (m - i + t)) ∧ (∀ t, t < m - i ∨ m + j ≤ t → atN r t = atN x t) := by
  intro N
  induction N with
  | zero => intro i j h hi; omega
  | succ N ih =>
    intro i j hN hi hj x m him hmj hl
    have e0 : wrap64 ((m : Int) - (i : Int)) = ((m - i : Nat) : Int) := wrap_sub him (by omega)
    rcases Nat.lt_trichotomy i j with h | h | h
    · obtain ⟨y, y1, y2, y3, y4, y5⟩ := swapRange x (m - i) (m + j - i) i (by omega) (by omega) hl
      obtain ⟨r, r1, r2, r3, r4, r5, r6⟩ := ih i (j - i) (by omega) hi (by omega) y m him (by omega) (by omega)
      refine ⟨r, Ev.step (fun _ => yAO.l0.eq_2 ..) (Ev.neg (by omega) (Ev.neg (by omega) ?_)), r2.trans y2, r3.trans y3, fun t ht => ?_, fun t ht => ?_, fun t ht => ?_⟩
      · rw [e0, wrap_add (a := m) (b := j) (by omega), wrap_sub (a := m + j) (b := i) (by omega) (by omega), wrap_sub (a := j) (b := i) (by omega) (by omega)]
        exact Ev.bind y1 r1
      · by_cases c : t < j - i
        · rw [r4 t c, y5 (m + t) (by omega) (by omega)]
        · have h1 := r6 (m - i + t)
          have h2 := r5 (t - (j - i)) (by omega)
          have h3 := (y4 (t - (j - i)) (by omega)).1
          rw [show m - i + (j - i) + (t - (j - i)) = m - i + t by omega] at h2
          rw [h2, h3]
          congr 1
          omega
      · have h1 := r6 (m - i + j + t) (by omega)
        have h2 := (y4 t ht).2
        rw [h1, show m - i + j + t = m + j - i + t by omega, h2]
      · rw [r6 t (by omega), y5 t (by omega) (by omega)]
    · subst h
      obtain ⟨y, y1, y2, y3, y4, y5⟩ := swapRange x (m - i) m i (by omega) (by omega) hl
      refine ⟨y, Ev.step (fun _ => yAO.l0.eq_2 ..) (Ev.pos rfl ?_), y2, y3, fun t ht => (y4 t ht).1, fun t ht => ?_, fun t ht => y5 t (by omega) (by omega)⟩
      · rw [e0]
        exact Ev.bind y1 (Ev.some rfl)
      · rw [show m - i + i + t = m + t by omega]
        exact (y4 t ht).2
    · obtain ⟨y, y1, y2, y3, y4, y5⟩ := swapRange x (m - i) m j (by omega) (by omega) hl
      obtain ⟨r, r1, r2, r3, r4, r5, r6⟩ := ih (i - j) j (by omega) (by omega) hj y m (by omega) (by omega) (by omega)
      refine ⟨r, Ev.step (fun _ => yAO.l0.eq_2 ..) (Ev.neg (by omega) (Ev.pos (by omega) ?_)), r2.trans y2, r3.trans y3, fun t ht => ?_, fun t ht => ?_, fun t ht => ?_⟩
      · rw [e0, wrap_sub (a := i) (b := j) (by omega) (by omega)]
        exact Ev.bind y1 r1
      · rw [r6 (m - i + t) (by omega), (y4 t ht).1]
      · by_cases c : t < j
        · have h1 := r4 t c
          rw [show m - (i - j) + t = m - i + j + t by omega] at h1
          rw [h1, (y4 t c).2]
        · have h1 := r5 (t - j) (by omega)
          rw [show m - (i - j) + j + (t - j) = m - i + j + t by omega] at h1
          rw [h1, y5 (m - (i - j) + (t - j)) (by omega) (by omega)]
          congr 1
          omega
      · rw [r6 t (by omega), y5 t (by omega) (by omega)]
theorem rotate (x : List NI) (a m b : Nat) (h1 : a < m) (h2 : m < b) (hb : b ≤ x.length) (hl : x.length ≤ 4398046511104) :
    ∃ r, Ev (fun k => yAO.f k x (a : Int) (m : Int) (b : Int)) r ∧ r.length = x.length ∧ r.Perm x ∧ (∀ t, t < b - m → atN r (a + t) = atN x (m + t)) ∧ (∀ t, t < m - a → atN r (a + (b - m) + t) = atN x (a + t)) ∧ (∀ t, t < a ∨ b ≤ t → atN r t = atN x t) := by
  obtain ⟨r, r1, r2, r3, r4, r5, r6⟩ := rot (m - a + (b - m)) (m - a) (b - m) (Nat.le_refl _) (by omega) (by omega) x m (by omega) (by omega) hl
  unfold yAO.f
  rw [wrap_sub (by omega) (by omega), wrap_sub (by omega) (by omega)]
  have e : m - (m - a) = a := by omega
  rw [e] at r4 r5 r6
  exact ⟨r, r1, r2, r3, r4, r5, fun t ht => r6 t (by omega)⟩

/-! ### one element brought to its place -/
/-- What the walk up comes to. -/
theorem up (x : List NI) (a s b : Nat) (h1 : a < s) (hs : s ≤ b) (hb : b ≤ x.length) (hl : x.length ≤ 4398046511104) :
    ∃ r, Ev (fun k => yAA.l1 k x (s : Int) (a : Int)) r ∧ W x r a b ∧ (∀ t, a ≤ t → t < s - 1 → atN r t = atN x (t + 1)) ∧ atN r (s - 1) = atN x a ∧ (∀ t, t < a ∨ s ≤ t → atN r t = atN x t) := by
  have key : ∀ d k : Nat, k + d = s - 1 → a ≤ k → ∀ y : List NI, W x y a b → (∀ t, a ≤ t → t < k → atN y t = atN x (t + 1)) → atN y k = atN x a → (∀ t, t < a ∨ k < t → atN y t = atN x t) →
      ∃ r, Ev (fun n => yAA.l1 n y (s : Int) (k : Int)) r ∧ W x r a b ∧ (∀ t, a ≤ t → t < s - 1 → atN r t = atN x (t + 1)) ∧ atN r (s - 1) = atN x a ∧ (∀ t, t < a ∨ s ≤ t → atN r t = atN x t) := by
    intro d
    induction d with
    | zero =>
      intro k hk hak y hW g1 g2 g3
      obtain rfl : k = s - 1 := by omega
      refine ⟨y, Ev.step (fun _ => yAA.l1.eq_2 ..) (Ev.neg ?_ (Ev.some rfl)), hW, g1, g2, fun t ht => g3 t (by omega)⟩
      rw [wrap_pred (by omega) (by omega)]
      omega
    | succ d ih =>
      intro k hk hak y hW g1 g2 g3
      have hy := hW.1
      have k1 : k < y.length := by omega
      have k2 : k + 1 < y.length := by omega
      obtain ⟨r, r1, r2⟩ := ih (k + 1) (by omega) (by omega) (sw y k (k + 1)) (hW.trans (W.sw y k1 k2 hak (by omega) (by omega) (by omega))) (fun t t1 t2 => by
        rw [sw_at y k1 k2, if_neg (by omega)]
        by_cases e : t = k
        · subst e; rw [if_pos rfl]; exact g3 (t + 1) (by omega)
        · rw [if_neg e]; exact g1 t t1 (by omega)) (by rw [sw_at y k1 k2, if_pos rfl]; exact g2) (fun t ht => by
        rw [sw_at y k1 k2, if_neg (by omega), if_neg (by omega)]; exact g3 t (by omega))
      rw [← wrap_succ (by omega)] at r1
      refine ⟨r, Ev.step (fun _ => yAA.l1.eq_2 ..) (Ev.pos (by rw [wrap_pred (by omega) (by omega)]; omega) ?_), r2⟩
      rw [wrap_succ (i := k) (by omega)]
      rw [wrap_succ (i := k) (by omega)] at r1
      exact Ev.pos (by omega) (Ev.pos (by omega) (Ev.pos (by omega) (Ev.pos (by omega) r1)))
  exact key (s - 1 - a) a (by omega) (Nat.le_refl _) x (W.refl _ _ _) (fun t t1 t2 => by omega) rfl (fun t _ => rfl)
/-- What the walk down comes to. -/
theorem down (x : List NI) (a s m b : Nat) (ha : a ≤ s) (h1 : s ≤ m) (hs : m < b) (hb : b ≤ x.length) (hl : x.length ≤ 4398046511104) :
    ∃ r, Ev (fun k => yAA.l3 k x (s : Int) (m : Int)) r ∧ W x r a b ∧ (∀ t, s < t → t ≤ m → atN r t = atN x (t - 1)) ∧ atN r s = atN x m ∧ (∀ t, t < s ∨ m < t → atN r t = atN x t) := by
  have key : ∀ d k : Nat, k = s + d → k ≤ m → ∀ y : List NI, W x y a b → (∀ t, k < t → t ≤ m → atN y t = atN x (t - 1)) → atN y k = atN x m → (∀ t, t < k ∨ m < t → atN y t = atN x t) →
      ∃ r, Ev (fun n => yAA.l3 n y (s : Int) (k : Int)) r ∧ W x r a b ∧ (∀ t, s < t → t ≤ m → atN r t = atN x (t - 1)) ∧ atN r s = atN x m ∧ (∀ t, t < s ∨ m < t → atN r t = atN x t) := by
    intro d
    induction d with
    | zero =>
      intro k hk hak y hW g1 g2 g3
      obtain rfl : k = s := by omega
      exact ⟨y, Ev.step (fun _ => yAA.l3.eq_2 ..) (Ev.neg (by omega) (Ev.some rfl)), hW, g1, g2, g3⟩
    | succ d ih =>
      intro k hk hak y hW g1 g2 g3
      have hy := hW.1
      have k1 : k < y.length := by omega
      have k2 : k - 1 < y.length := by omega
      obtain ⟨r, r1, r2⟩ := ih (k - 1) (by omega) (by omega) (sw y k (k - 1)) (hW.trans (W.sw y k1 k2 (by omega) (by omega) (by omega) (by omega))) (fun t t1 t2 => by
        rw [sw_at y k1 k2, if_neg (by omega)]
        by_cases e : t = k
        · subst e; rw [if_pos rfl]; exact g3 (t - 1) (by omega)
        · rw [if_neg e]; exact g1 t (by omega) t2) (by rw [sw_at y k1 k2, if_pos rfl]; exact g2) (fun t ht => by
        rw [sw_at y k1 k2, if_neg (by omega), if_neg (by omega)]; exact g3 t (by omega))
      refine ⟨r, Ev.step (fun _ => yAA.l3.eq_2 ..) (Ev.pos (by omega) ?_), r2⟩
      rw [wrap_pred (i := k) (by omega) (by omega)]
      exact Ev.pos (by omega) (Ev.pos (by omega) (Ev.pos (by omega) (Ev.pos (by omega) r1)))
  exact key (m - s) m (by omega) (Nat.le_refl _) x (W.refl _ _ _) (fun t t1 t2 => by omega) rfl (fun t _ => rfl)
theorem first (x : List NI) (a b : Nat) (hab : a + 1 < b) (hb : b ≤ x.length) (hk : KB x) (hS : Srt x (a + 1) b) :
    ∃ r, Ev (fun k => yAA.l0 k x (a : Int) ((a + 1 : Nat) : Int) (b : Int)) r ∧ W x r a b ∧ Srt r a b := by
  have hl := hk.2
  have key : ∀ N i j : Nat, j - i ≤ N → a + 1 ≤ i → i ≤ j → j ≤ b → (∀ q, a + 1 ≤ q → q < i → ky x q < ky x a) → (∀ q, j ≤ q → q < b → ky x a ≤ ky x q) →
      ∃ r, Ev (fun k => yAA.l0 k x (a : Int) (i : Int) (j : Int)) r ∧ W x r a b ∧ Srt r a b := by
    intro N
    induction N with
    | zero =>
      intro i j h1 h2 h3 h4 g1 g2
      obtain rfl : i = j := by omega
      obtain ⟨r, r1, r2, r3, r4, r5⟩ := up x a i b (by omega) h4 hb hl
      refine ⟨r, Ev.step (fun _ => yAA.l0.eq_2 ..) (Ev.neg (by omega) r1), r2, fun p q p1 p2 p3 => ?_⟩
      have hv : ∀ t, a ≤ t → ky r t = if t < i - 1 then ky x (t + 1) else if t = i - 1 then ky x a else ky x t := by
        intro t ht
        unfold ky
        split
        · rw [r3 t ht (by assumption)]
        · split
          · next e => subst e; rw [r4]
          · rw [r5 t (by omega)]
      rw [hv p p1, hv q (by omega)]
      by_cases e1 : p < i - 1
      · rw [if_pos e1]
        by_cases e2 : q < i - 1
        · rw [if_pos e2]; exact hS (p + 1) (q + 1) (by omega) (by omega) (by omega)
        · rw [if_neg e2]
          by_cases e3 : q = i - 1
          · rw [if_pos e3]; have := g1 (p + 1) (by omega) (by omega); omega
          · rw [if_neg e3]; exact hS (p + 1) q (by omega) (by omega) p3
      · rw [if_neg e1, if_neg (show ¬ q < i - 1 by omega), if_neg (show ¬ q = i - 1 by omega)]
        by_cases e3 : p = i - 1
        · rw [if_pos e3]; exact g2 q (by omega) p3
        · rw [if_neg e3]; exact hS p q (by omega) p2 p3
    | succ N ih =>
      intro i j h1 h2 h3 h4 g1 g2
      by_cases hij : i < j
      · have c1 : (i + j) / 2 < x.length := by omega
        have hc := cmp_ (atN x ((i + j) / 2)) (atN x a) (hk.at c1) (hk.at (by omega))
        by_cases hlt : ky x ((i + j) / 2) < ky x a
        · obtain ⟨r, r1, r2⟩ := ih ((i + j) / 2 + 1) j (by omega) (by omega) (by omega) h4 (fun q q1 q2 => by
            by_cases e : q = (i + j) / 2
            · subst e; exact hlt
            · have := hS q ((i + j) / 2) q1 (by omega) (by omega); omega) g2
          refine ⟨r, Ev.step (fun _ => yAA.l0.eq_2 ..) (Ev.pos (by omega) ?_), r2⟩
          rw [half (by omega)]
          rw [← wrap_succ (by omega)] at r1
          exact Ev.pos (by omega) (Ev.pos (by omega) (Ev.pos (by omega) (Ev.pos (by omega) (Ev.have hc (Ev.pos (by unfold ky at hlt; omega) r1)))))
        · obtain ⟨r, r1, r2⟩ := ih i ((i + j) / 2) (by omega) h2 (by omega) (by omega) g1 (fun q q1 q2 => by
            by_cases e : q = (i + j) / 2
            · subst e; omega
            · have := hS ((i + j) / 2) q (by omega) (by omega) q2; omega)
          refine ⟨r, Ev.step (fun _ => yAA.l0.eq_2 ..) (Ev.pos (by omega) ?_), r2⟩
          rw [half (by omega)]
          exact Ev.pos (by omega) (Ev.pos (by omega) (Ev.pos (by omega) (Ev.pos (by omega) (Ev.have hc (Ev.neg (by unfold ky at hlt; omega) r1)))))
      · exact (by
          obtain rfl : i = j := by omega
          exact ih i i (by omega) h2 (Nat.le_refl _) h4 g1 g2)
  exact key (b - (a + 1)) (a + 1) b (by omega) (Nat.le_refl _) (by omega) (Nat.le_refl _) (fun q q1 q2 => by omega) (fun q q1 q2 => by omega)
theorem last (x : List NI) (a m : Nat) (ham : a < m) (hb : m + 1 ≤ x.length) (hk : KB x) (hS : Srt x a m) :
    ∃ r, Ev (fun k => yAA.l2 k x (m : Int) (a : Int) (m : Int)) r ∧ W x r a (m + 1) ∧ Srt r a (m + 1) := by
  have hl := hk.2
  have key : ∀ N i j : Nat, j - i ≤ N → a ≤ i → i ≤ j → j ≤ m → (∀ q, a ≤ q → q < i → ky x q ≤ ky x m) → (∀ q, j ≤ q → q < m → ky x m < ky x q) →
      ∃ r, Ev (fun k => yAA.l2 k x (m : Int) (i : Int) (j : Int)) r ∧ W x r a (m + 1) ∧ Srt r a (m + 1) := by
    intro N
    induction N with
    | zero =>
      intro i j h1 h2 h3 h4 g1 g2
      obtain rfl : i = j := by omega
      obtain ⟨r, r1, r2, r3, r4, r5⟩ := down x a i m (m + 1) h2 h4 (by omega) hb hl
      refine ⟨r, Ev.step (fun _ => yAA.l2.eq_2 ..) (Ev.neg (by omega) r1), r2, fun p q p1 p2 p3 => ?_⟩
      have hv : ∀ t, t ≤ m → ky r t = if t < i then ky x t else if t = i then ky x m else ky x (t - 1) := by
        intro t ht
        unfold ky
        split
        · rw [r5 t (by omega)]
        · split
          · next e => subst e; rw [r4]
          · rw [r3 t (by omega) ht]
      rw [hv p (by omega), hv q (by omega)]
      by_cases e1 : p < i
      · rw [if_pos e1]
        by_cases e2 : q < i
        · rw [if_pos e2]; exact hS p q p1 p2 (by omega)
        · rw [if_neg e2]
          by_cases e3 : q = i
          · rw [if_pos e3]; exact g1 p p1 e1
          · rw [if_neg e3]
            by_cases e4 : p = q - 1
            · omega
            · exact hS p (q - 1) p1 (by omega) (by omega)
      · rw [if_neg e1, if_neg (show ¬ q < i by omega), if_neg (show ¬ q = i by omega)]
        by_cases e3 : p = i
        · rw [if_pos e3]; have := g2 (q - 1) (by omega) (by omega); omega
        · rw [if_neg e3]; exact hS (p - 1) (q - 1) (by omega) (by omega) (by omega)
    | succ N ih =>
      intro i j h1 h2 h3 h4 g1 g2
      by_cases hij : i < j
      · have c1 : (i + j) / 2 < x.length := by omega
        have hc := cmp_ (atN x m) (atN x ((i + j) / 2)) (hk.at (by omega)) (hk.at c1)
        by_cases hlt : ky x m < ky x ((i + j) / 2)
        · obtain ⟨r, r1, r2⟩ := ih i ((i + j) / 2) (by omega) h2 (by omega) (by omega) g1 (fun q q1 q2 => by
            by_cases e : q = (i + j) / 2
            · subst e; exact hlt
            · have := hS ((i + j) / 2) q (by omega) (by omega) q2; omega)
          refine ⟨r, Ev.step (fun _ => yAA.l2.eq_2 ..) (Ev.pos (by omega) (Ev.pos (by omega) (Ev.pos (by omega) ?_))), r2⟩
          rw [half (by omega)]
          exact Ev.pos (by omega) (Ev.pos (by omega) (Ev.have hc (Ev.pos (by unfold ky at hlt; omega) r1)))
        · obtain ⟨r, r1, r2⟩ := ih ((i + j) / 2 + 1) j (by omega) (by omega) (by omega) h4 (fun q q1 q2 => by
            by_cases e : q = (i + j) / 2
            · subst e; omega
            · have := hS q ((i + j) / 2) q1 (by omega) (by omega); omega) g2
          refine ⟨r, Ev.step (fun _ => yAA.l2.eq_2 ..) (Ev.pos (by omega) (Ev.pos (by omega) (Ev.pos (by omega) ?_))), r2⟩
          rw [half (by omega)]
          rw [← wrap_succ (by omega)] at r1
          exact Ev.pos (by omega) (Ev.pos (by omega) (Ev.have hc (Ev.neg (by unfold ky at hlt; omega) r1)))
      · obtain rfl : i = j := by omega
        exact ih i i (by omega) h2 (Nat.le_refl _) h4 g1 g2
  exact key (m - a) a m (by omega) (Nat.le_refl _) (by omega) (Nat.le_refl _) (fun q q1 q2 => by omega) (fun q q1 q2 => by omega)

end Go.Proofs.YtglcpghappepaaaGreatDoor.MSort
end
section
/- Two sorted rows that lie side by side become one, as the library's stable sort does it. -/
namespace Go.Proofs.YtglcpghappepaaaGreatDoor.MMerge
open Go.RowKit Go.Proofs.YtglcpghappepaaaGreatDoor.G Go.Proofs.YtglcpghappepaaaGreatDoorW.PrintWords Go.Proofs.YtglcpghappepaaaGreatDoorW.PrintLast Go.Proofs.YtglcpghappepaaaGreatDoor.MPure Go.Proofs.YtglcpghappepaaaGreatDoor.MNote Go.Proofs.YtglcpghappepaaaGreatDoor.MSort

/-- What the turn leaves: both halves sorted in their two parts, nothing on the left greater than anything on the right. -/
theorem halves (x y : List NI) (a m b mid s e s0 r0 : Nat) (hmid : (a + b) / 2 = mid) (h1 : a < m) (h2 : m < b) (hS1 : Srt x a m) (hS2 : Srt x m b)
    (hcase : m ≤ mid ∧ s0 = a ∧ r0 = m ∨ mid < m ∧ s0 = mid + m - b ∧ r0 = mid) (g1 : s0 ≤ s) (g2 : s ≤ r0) (he : mid + m - s = e)
    (g3 : s0 < s → ky x (s - 1) ≤ ky x e) (g4 : s < r0 → ky x (e - 1) < ky x s)
    (y1 : y.length = x.length) (y2 : y.Perm x) (y3 : ∀ t, t < e - m → atN y (s + t) = atN x (m + t)) (y4 : ∀ t, t < m - s → atN y (mid + t) = atN x (s + t)) (y5 : ∀ t, t < s ∨ e ≤ t → atN y t = atN x t) :
    Srt y a s ∧ Srt y s mid ∧ Srt y mid e ∧ Srt y e b ∧ (∀ p q, a ≤ p → p < mid → mid ≤ q → q < b → ky y p ≤ ky y q) ∧ W x y a b := by
  have k1 : a ≤ s := by omega
  have k2 : s ≤ m := by omega
  have k3 : s ≤ mid := by omega
  have k4 : m ≤ e := by omega
  have k5 : mid ≤ e := by omega
  have k6 : e ≤ b := by omega
  have k7 : mid = s + (e - m) := by omega
  have k8 : e = mid + (m - s) := by omega
  have p1 : ∀ t, s ≤ t → t < mid → ky y t = ky x (m + (t - s)) := by
    intro t t1 t2
    have := y3 (t - s) (by omega)
    unfold ky
    rw [show s + (t - s) = t by omega] at this
    rw [this]
  have p2 : ∀ t, mid ≤ t → t < e → ky y t = ky x (s + (t - mid)) := by
    intro t t1 t2
    have := y4 (t - mid) (by omega)
    unfold ky
    rw [show mid + (t - mid) = t by omega] at this
    rw [this]
  have p3 : ∀ t, t < s ∨ e ≤ t → ky y t = ky x t := by
    intro t ht
    unfold ky
    rw [y5 t ht]
  refine ⟨?_, ?_, ?_, ?_, ?_, ?_⟩
  · intro p q z1 z2 z3
    rw [p3 p (Or.inl (by omega)), p3 q (Or.inl z3)]
    exact hS1 p q z1 z2 (by omega)
  · intro p q z1 z2 z3
    rw [p1 p z1 (by omega), p1 q (by omega) z3]
    exact hS2 _ _ (by omega) (by omega) (by omega)
  · intro p q z1 z2 z3
    rw [p2 p z1 (by omega), p2 q (by omega) z3]
    exact hS1 _ _ (by omega) (by omega) (by omega)
  · intro p q z1 z2 z3
    rw [p3 p (Or.inr z1), p3 q (Or.inr (by omega))]
    exact hS2 p q (by omega) z2 z3
  · intro p q z1 z2 z3 z4
    by_cases cp : p < s
    · rw [p3 p (Or.inl cp)]
      by_cases cq : q < e
      · rw [p2 q z3 cq]; exact hS1 _ _ z1 (by omega) (by omega)
      · rw [p3 q (Or.inr (by omega))]
        have w1 : ky x p ≤ ky x (s - 1) := by
          by_cases e0 : p = s - 1
          · rw [e0]; exact Int.le_refl _
          · exact hS1 _ _ z1 (by omega) (by omega)
        have w2 := g3 (by omega)
        have w3 : ky x e ≤ ky x q := by
          by_cases e0 : q = e
          · rw [e0]; exact Int.le_refl _
          · exact hS2 _ _ (by omega) (by omega) z4
        exact Int.le_trans w1 (Int.le_trans w2 w3)
    · rw [p1 p (by omega) z2]
      by_cases cq : q < e
      · rw [p2 q z3 cq]
        have w1 : ky x (m + (p - s)) ≤ ky x (e - 1) := by
          by_cases e0 : m + (p - s) = e - 1
          · rw [e0]; exact Int.le_refl _
          · exact hS2 _ _ (by omega) (by omega) (by omega)
        have w2 := g4 (by omega)
        have w3 : ky x s ≤ ky x (s + (q - mid)) := by
          by_cases e0 : q = mid
          · rw [e0, Nat.sub_self]; exact Int.le_refl _
          · exact hS1 _ _ (by omega) (by omega) (by omega)
        exact Int.le_trans w1 (Int.le_trans (Int.le_of_lt w2) w3)
      · rw [p3 q (Or.inr (by omega))]
        exact hS2 _ _ (by omega) (by omega) z4
  · refine ⟨y1, y2, fun t ht => y5 t (by omega), fun t t1 t2 => ?_⟩
    by_cases cp : t < s ∨ e ≤ t
    · exact ⟨t, t1, t2, y5 t cp⟩
    · by_cases cm : t < mid
      · have := y3 (t - s) (by omega)
        rw [show s + (t - s) = t by omega] at this
        exact ⟨m + (t - s), by omega, by omega, this⟩
      · have := y4 (t - mid) (by omega)
        rw [show mid + (t - mid) = t by omega] at this
        exact ⟨s + (t - mid), by omega, by omega, this⟩

def Merges (N : Nat) : Prop := ∀ a m b : Nat, b - a ≤ N → a < m → m < b → ∀ x : List NI, b ≤ x.length → KB x → Srt x a m → Srt x m b →
    ∃ r, Ev (fun k => yAA.f k x (a : Int) (m : Int) (b : Int)) r ∧ W x r a b ∧ Srt r a b
theorem right {N : Nat} (ih : Merges N) (y : List NI) (mid e b : Nat) (hN : b - mid ≤ N) (h1 : mid ≤ e) (h2 : e ≤ b) (hb : b ≤ y.length) (hk : KB y) (S3 : Srt y mid e) (S4 : Srt y e b) :
    ∃ r, Ev (fun k => if (mid : Int) < (e : Int) then (if (e : Int) < (b : Int) then ((yAA.f k y (mid : Int) (e : Int) (b : Int)).bind fun t120 => some t120) else some y) else some y) r ∧ W y r mid b ∧ Srt r mid b := by
  by_cases d1 : mid < e
  · by_cases d2 : e < b
    · obtain ⟨r, r1, r2, r3⟩ := ih mid e b hN d1 d2 y hb hk S3 S4
      exact ⟨r, Ev.pos (by omega) (Ev.pos (by omega) (Ev.bind r1 (Ev.some rfl))), r2, r3⟩
    · exact ⟨y, Ev.pos (by omega) (Ev.neg (by omega) (Ev.some rfl)), W.refl _ _ _, fun p q w1 w2 w3 => S3 p q w1 w2 (by omega)⟩
  · exact ⟨y, Ev.neg (by omega) (Ev.some rfl), W.refl _ _ _, fun p q w1 w2 w3 => S4 p q (by omega) w2 w3⟩
theorem both (x y y' r : List NI) (a mid b : Nat) (h1 : a ≤ mid) (h2 : mid ≤ b) (hWy : W x y a b) (cross : ∀ p q, a ≤ p → p < mid → mid ≤ q → q < b → ky y p ≤ ky y q) (w1 : W y y' a mid) (w2 : Srt y' a mid) (w3 : W y' r mid b) (w4 : Srt r mid b) : W x r a b ∧ Srt r a b := by
  refine ⟨hWy.trans ((w1.widen (Nat.le_refl _) h2).trans (w3.widen h1 (Nat.le_refl _))), fun p q z1 z2 z3 => ?_⟩
  by_cases cq : q < mid
  · unfold ky
    rw [w3.2.2.1 p (Or.inl (by omega)), w3.2.2.1 q (Or.inl cq)]
    exact w2 p q z1 z2 cq
  · by_cases cp : p < mid
    · obtain ⟨p', u1, u2, u3⟩ := w1.2.2.2 p z1 cp
      obtain ⟨q', v1, v2, v3⟩ := w3.2.2.2 q (by omega) z3
      unfold ky
      rw [w3.2.2.1 p (Or.inl cp), u3, v3, w1.2.2.1 q' (Or.inr v1)]
      exact cross p' q' u1 u2 v1 v2
    · exact w4 p q (by omega) z2 z3
theorem rest {N : Nat} (ih : Merges N) (x y : List NI) (a mid s e b : Nat) (hN1 : mid - a ≤ N) (hN2 : b - mid ≤ N) (k1 : a ≤ s) (k3 : s ≤ mid) (k5 : mid ≤ e) (k6 : e ≤ b) (k0 : a ≤ mid) (hb : b ≤ y.length) (hky : KB y)
    (S1 : Srt y a s) (S2 : Srt y s mid) (S3 : Srt y mid e) (S4 : Srt y e b) (cross : ∀ p q, a ≤ p → p < mid → mid ≤ q → q < b → ky y p ≤ ky y q) (hWy : W x y a b) :
    ∃ r, Ev (fun k => yAA.j7 k y (a : Int) (b : Int) (mid : Int) (s : Int) (e : Int)) r ∧ W x r a b ∧ Srt r a b := by
  by_cases d : a < s ∧ s < mid
  · obtain ⟨y', u1, u2, u3⟩ := ih a s mid hN1 d.1 d.2 y (by omega) hky S1 S2
    obtain ⟨r, v1, v2, v3⟩ := right ih y' mid e b hN2 k5 k6 (by rw [u2.1]; exact hb) (hky.perm u2.2.1) (S3.same (fun i i1 i2 => u2.2.2.1 i (Or.inr i1))) (S4.same (fun i i1 i2 => u2.2.2.1 i (Or.inr (by omega))))
    exact ⟨r, Ev.step (fun _ => yAA.j7.eq_2 ..) (Ev.pos (by omega) (Ev.step (fun _ => yAA.j8.eq_2 ..) (Ev.pos (decide_eq_true (by omega)) (Ev.bind u1 v1)))), both x y y' r a mid b k0 (by omega) hWy cross u2 u3 v2 v3⟩
  · have hS : Srt y a mid := fun p q z1 z2 z3 => by
      by_cases e0 : s = a
      · exact S2 p q (by omega) z2 z3
      · exact S1 p q z1 z2 (by omega)
    obtain ⟨r, v1, v2, v3⟩ := right ih y mid e b hN2 k5 k6 hb hky S3 S4
    refine ⟨r, Ev.step (fun _ => yAA.j7.eq_2 ..) (Ev.ite (fun d1 => ?_) (fun d1 => ?_)), both x y y r a mid b k0 (by omega) hWy cross (W.refl _ _ _) hS v2 v3⟩
    · refine Ev.step (fun _ => yAA.j8.eq_2 ..) (Ev.neg ?_ v1)
      simp only [decide_eq_true_eq]
      omega
    · exact Ev.step (fun _ => yAA.j8.eq_2 ..) (Ev.neg (by simp) v1)
theorem fin {N : Nat} (ih : Merges N) (x : List NI) (a m b mid s0 r0 s e : Nat) (hN1 : mid - a ≤ N) (hN2 : b - mid ≤ N) (hmid : (a + b) / 2 = mid) (h1 : a < m) (h2 : m < b) (hb : b ≤ x.length) (hk : KB x) (hS1 : Srt x a m) (hS2 : Srt x m b)
    (hcase : m ≤ mid ∧ s0 = a ∧ r0 = m ∨ mid < m ∧ s0 = mid + m - b ∧ r0 = mid) (g1 : s0 ≤ s) (g2 : s ≤ r0) (he0 : s + e = mid + m) (g3 : ∀ c p, c + p + 1 = mid + m → s0 ≤ c → c < s → ky x c ≤ ky x p) (g4 : ∀ c p, c + p + 1 = mid + m → s ≤ c → c < r0 → ky x p < ky x c) (q : Bool) (hq : q = true ↔ s < m ∧ m < e) :
    ∃ r, Ev (fun k => yAA.j6 k x (a : Int) (m : Int) (b : Int) (mid : Int) (s : Int) (e : Int) q) r ∧ W x r a b ∧ Srt r a b := by
  have he : mid + m - s = e := by omega
  have k1 : a ≤ s := by omega
  have k2 : s ≤ m := by omega
  have k3 : s ≤ mid := by omega
  have k4 : m ≤ e := by omega
  have k5 : mid ≤ e := by omega
  have k6 : e ≤ b := by omega
  have k0 : a ≤ mid := by omega
  have f3 : s0 < s → ky x (s - 1) ≤ ky x e := fun h => g3 (s - 1) e (by omega) (by omega) (by omega)
  have f4 : s < r0 → ky x (e - 1) < ky x s := fun h => g4 s (e - 1) (by omega) (Nat.le_refl _) h
  have go : ∀ y : List NI, y.length = x.length → y.Perm x → (∀ t, t < e - m → atN y (s + t) = atN x (m + t)) → (∀ t, t < m - s → atN y (mid + t) = atN x (s + t)) → (∀ t, t < s ∨ e ≤ t → atN y t = atN x t) →
      ∃ r, Ev (fun k => yAA.j7 k y (a : Int) (b : Int) (mid : Int) (s : Int) (e : Int)) r ∧ W x r a b ∧ Srt r a b := by
    intro y y1 y2 y3 y4 y5
    obtain ⟨w1, w2, w3, w4, w5, w6⟩ := halves x y a m b mid s e s0 r0 hmid h1 h2 hS1 hS2 hcase g1 g2 he f3 f4 y1 y2 y3 y4 y5
    exact rest ih x y a mid s e b hN1 hN2 k1 k3 k5 k6 k0 (by rw [y1]; exact hb) (hk.perm y2) w1 w2 w3 w4 w5 w6
  clear hcase
  cases q with
  | true =>
    obtain ⟨d1, d2⟩ := hq.1 rfl
    obtain ⟨y, u1, u2, u3, u4, u5, u6⟩ := rotate x s m e d1 d2 (by omega) hk.2
    rw [show s + (e - m) = mid by omega] at u5
    obtain ⟨r, v1, v2⟩ := go y u2 u3 u4 u5 u6
    exact ⟨r, Ev.step (fun _ => yAA.j6.eq_2 ..) (Ev.pos rfl (Ev.bind u1 v1)), v2⟩
  | false =>
    have d : ¬ (s < m ∧ m < e) := fun h => by have := hq.2 h; cases this
    obtain ⟨r, v1, v2⟩ := go x rfl (List.Perm.refl _) (fun t ht => by rw [show s = m by omega]) (fun t ht => by rw [show s = mid by omega]) (fun t _ => rfl)
    exact ⟨r, Ev.step (fun _ => yAA.j6.eq_2 ..) (Ev.neg (by simp) v1), v2⟩
theorem search {N : Nat} (ih : Merges N) (x : List NI) (a m b mid s0 r0 pp : Nat) (hpp : pp + 1 = mid + m) (hN1 : mid - a ≤ N) (hN2 : b - mid ≤ N) (hmid : (a + b) / 2 = mid) (h1 : a < m) (h2 : m < b) (hb : b ≤ x.length) (hk : KB x) (hS1 : Srt x a m) (hS2 : Srt x m b)
    (hcase : m ≤ mid ∧ s0 = a ∧ r0 = m ∨ mid < m ∧ s0 = mid + m - b ∧ r0 = mid) : ∀ M st rr : Nat, rr - st ≤ M → s0 ≤ st → st ≤ rr → rr ≤ r0 → (∀ c p, c + p + 1 = mid + m → s0 ≤ c → c < st → ky x c ≤ ky x p) → (∀ c p, c + p + 1 = mid + m → rr ≤ c → c < r0 → ky x p < ky x c) →
    ∃ r, Ev (fun k => yAA.l4 k x (a : Int) (m : Int) (b : Int) (mid : Int) ((mid + m : Nat) : Int) (st : Int) (rr : Int) (pp : Int)) r ∧ W x r a b ∧ Srt r a b := by
  have hl := hk.2
  have hbig : mid + m ≤ 8796093022208 := by omega
  have q1 : a ≤ s0 := by omega
  have q2 : r0 ≤ m := by omega
  have q3 : r0 ≤ mid := by omega
  have q4 : mid + m ≤ s0 + b := by omega
  have fin' := fun s e => fin ih x a m b mid s0 r0 s e hN1 hN2 hmid h1 h2 hb hk hS1 hS2 hcase
  clear hcase hmid hN1 hN2 ih
  intro M
  induction M with
  | zero =>
    intro st rr z1 z2 z3 z4 z5 z6
    obtain rfl : st = rr := by omega
    obtain ⟨e, he⟩ : ∃ e, st + e = mid + m := ⟨mid + m - st, by omega⟩
    have ew : Aside0 (wrap64 (((mid + m : Nat) : Int) - (st : Int)) = (e : Int)) := ⟨by rw [wrap_sub (by omega) (by omega)]; omega⟩
    by_cases d : st < m
    · obtain ⟨r, v1, v2⟩ := fin' st e z2 z4 he z5 z6 (decide ((m : Int) < (e : Int))) (by
        rw [decide_eq_true_eq]
        exact ⟨fun h => ⟨d, by omega⟩, fun h => by omega⟩)
      rw [← ew.out] at v1
      exact ⟨r, Ev.step (fun _ => yAA.l4.eq_2 ..) (Ev.neg (by omega) (Ev.pos (by omega) v1)), v2⟩
    · obtain ⟨r, v1, v2⟩ := fin' st e z2 z4 he z5 z6 false (Iff.intro (fun h => by cases h) (fun h => absurd h.1 d))
      rw [← ew.out] at v1
      exact ⟨r, Ev.step (fun _ => yAA.l4.eq_2 ..) (Ev.neg (by omega) (Ev.neg (by omega) v1)), v2⟩
  | succ M ihM =>
    intro st rr z1 z2 z3 z4 z5 z6
    by_cases hij : st < rr
    · obtain ⟨c, hc0⟩ : ∃ z, (st + rr) / 2 = z := ⟨_, rfl⟩
      have b1 : st ≤ c := by omega
      have b2 : c < rr := by omega
      have hh : Aside0 (wrap64 ((IntKind.u64.wrap (wrap64 ((st : Int) + (rr : Int)))) / 2) = (c : Int)) := ⟨by rw [half (by omega), hc0]⟩
      have g1 : c - st ≤ M := by omega
      have g2 : rr - (c + 1) ≤ M := by omega
      clear hc0 z1
      obtain ⟨p, hp⟩ : ∃ p, c + p + 1 = mid + m := ⟨mid + m - 1 - c, by omega⟩
      have hpc : Aside0 (wrap64 ((pp : Int) - (c : Int)) = (p : Int)) := ⟨by rw [wrap_sub (by omega) (by omega)]; omega⟩
      have c1 : p < x.length := by omega
      have c2 : c < x.length := by omega
      have hc := cmp_ (atN x p) (atN x c) (hk.at c1) (hk.at c2)
      have b3 : a ≤ c := by omega
      have b4 : c < m := by omega
      have b5 : m ≤ p := by omega
      have b6 : p < b := by omega
      by_cases hlt : ky x p < ky x c
      · obtain ⟨r, v1, v2⟩ := ihM st c g1 z2 b1 (by omega) z5 (fun c' p' q0 q1 q2 => by
          by_cases e0 : c' = c
          · obtain rfl : p' = p := by omega
            rw [e0]; exact hlt
          · have w1 := hS1 c c' b3 (by omega) (by omega)
            have w2 := hS2 p' p (by omega) (by omega) b6
            exact Int.lt_of_le_of_lt w2 (Int.lt_of_lt_of_le hlt w1))
        have hlt2 : (atN x p).f0 - (atN x c).f0 < 0 := by unfold ky at hlt; omega
        refine ⟨r, Ev.step (fun _ => yAA.l4.eq_2 ..) (Ev.pos (by omega) ?_), v2⟩
        rw [hh.out, hpc.out]
        exact Ev.pos (by omega) (Ev.pos (by omega) (Ev.pos (by omega) (Ev.pos (by omega) (Ev.have hc (Ev.pos hlt2 v1)))))
      · obtain ⟨r, v1, v2⟩ := ihM (c + 1) rr g2 (by omega) b2 z4 (fun c' p' q0 q1 q2 => by
          by_cases e0 : c' = c
          · obtain rfl : p' = p := by omega
            rw [e0]; exact Int.not_lt.1 hlt
          · have w1 := hS1 c' c (by omega) (by omega) b4
            have w2 := hS2 p p' b5 (by omega) (by omega)
            exact Int.le_trans w1 (Int.le_trans (Int.not_lt.1 hlt) w2)) z6
        have hlt2 : ¬ (atN x p).f0 - (atN x c).f0 < 0 := by unfold ky at hlt; omega
        refine ⟨r, Ev.step (fun _ => yAA.l4.eq_2 ..) (Ev.pos (by omega) ?_), v2⟩
        rw [← wrap_succ (by omega)] at v1
        rw [hh.out, hpc.out]
        exact Ev.pos (by omega) (Ev.pos (by omega) (Ev.pos (by omega) (Ev.pos (by omega) (Ev.have hc (Ev.neg hlt2 v1)))))
    · obtain rfl : st = rr := by omega
      exact ihM st st (by omega) z2 (Nat.le_refl _) z4 z5 z6
theorem merge : ∀ N : Nat, Merges N := by
  intro N
  induction N with
  | zero => intro a m b h h1 h2; omega
  | succ N ih =>
    intro a m b hN h1 h2 x hb hk hS1 hS2
    have hl := hk.2
    have e1 : Aside0 (wrap64 ((m : Int) - (a : Int)) = ((m - a : Nat) : Int)) := ⟨wrap_sub (by omega) (by omega)⟩
    have e2 : Aside0 (wrap64 ((b : Int) - (m : Int)) = ((b - m : Nat) : Int)) := ⟨wrap_sub (by omega) (by omega)⟩
    by_cases c1 : m - a = 1
    · obtain rfl : m = a + 1 := by omega
      obtain ⟨r, r1, r2⟩ := first x a b h2 hb hk hS2
      refine ⟨r, Ev.step (fun _ => yAA.f.eq_2 ..) (Ev.pos ?_ r1), r2⟩
      rw [e1.out]; omega
    by_cases c2 : b - m = 1
    · obtain rfl : b = m + 1 := by omega
      obtain ⟨r, r1, r2⟩ := last x a m h1 hb hk hS1
      refine ⟨r, Ev.step (fun _ => yAA.f.eq_2 ..) (Ev.neg ?_ (Ev.pos ?_ r1)), r2⟩
      · rw [e1.out]; omega
      · rw [e2.out]; omega
    obtain ⟨mid, hmid⟩ : ∃ z, (a + b) / 2 = z := ⟨_, rfl⟩
    have hm1 : a + 2 ≤ m := by omega
    have hm2 : m + 2 ≤ b := by omega
    have n1 : mid - a ≤ N := by omega
    have n2 : b - mid ≤ N := by omega
    have d1 : Aside0 (¬ wrap64 ((m : Int) - (a : Int)) = 1) := ⟨by rw [e1.out]; omega⟩
    have d2 : Aside0 (¬ wrap64 ((b : Int) - (m : Int)) = 1) := ⟨by rw [e2.out]; omega⟩
    obtain ⟨pp, hpp⟩ : ∃ p, p + 1 = mid + m := ⟨mid + m - 1, by omega⟩
    have hmw : Aside0 (wrap64 ((IntKind.u64.wrap (wrap64 ((a : Int) + (b : Int)))) / 2) = (mid : Int)) := ⟨by rw [half (by omega), hmid]⟩
    have hn : Aside0 (wrap64 ((mid : Int) + (m : Int)) = ((mid + m : Nat) : Int)) := ⟨wrap_add (by omega)⟩
    have hp : Aside0 (wrap64 (((mid + m : Nat) : Int) - 1) = (pp : Int)) := ⟨by rw [wrap_pred (by omega) (by omega)]; omega⟩
    by_cases d : mid < m
    · have hnb : Aside0 (wrap64 (((mid + m : Nat) : Int) - (b : Int)) = ((mid + m - b : Nat) : Int)) := ⟨wrap_sub (by omega) (by omega)⟩
      obtain ⟨r, v1, v2⟩ := search ih x a m b mid (mid + m - b) mid pp hpp n1 n2 hmid h1 h2 hb hk hS1 hS2 (Or.inr ⟨d, rfl, rfl⟩) (mid - (mid + m - b)) (mid + m - b) mid (Nat.le_refl _) (Nat.le_refl _) (by omega) (Nat.le_refl _) (fun c p _ q1 q2 => absurd q1 (by omega)) (fun c p _ q1 q2 => absurd q1 (by omega))
      refine ⟨r, Ev.step (fun _ => yAA.f.eq_2 ..) (Ev.neg d1.out (Ev.neg d2.out ?_)), v2⟩
      rw [hmw.out, hn.out, hnb.out]
      refine Ev.pos (by omega) (Ev.step (fun _ => yAA.j4.eq_2 ..) ?_)
      rw [hp.out]
      exact v1
    · obtain ⟨r, v1, v2⟩ := search ih x a m b mid a m pp hpp n1 n2 hmid h1 h2 hb hk hS1 hS2 (Or.inl ⟨by omega, rfl, rfl⟩) (m - a) a m (Nat.le_refl _) (Nat.le_refl _) (by omega) (Nat.le_refl _) (fun c p _ q1 q2 => absurd q1 (by omega)) (fun c p _ q1 q2 => absurd q1 (by omega))
      refine ⟨r, Ev.step (fun _ => yAA.f.eq_2 ..) (Ev.neg d1.out (Ev.neg d2.out ?_)), v2⟩
      rw [hmw.out, hn.out]
      refine Ev.neg (by omega) (Ev.step (fun _ => yAA.j4.eq_2 ..) ?_)
      rw [hp.out]
      exact v1

/-! ### the whole sort -/
/-- From a on, rows of s elements each are sorted. -/
inductive Bl (x : List NI) (s n : Nat) : Nat → Prop
  | done {a : Nat} (h : n ≤ a) : Bl x s n a
  | step {a : Nat} (h : Srt x a (min (a + s) n)) (k : Bl x s n (a + s)) : Bl x s n a
/-- Up to a they are. -/
inductive Pr (x : List NI) (s : Nat) : Nat → Prop
  | zero : Pr x s 0
  | step {a : Nat} (k : Pr x s a) (h : Srt x a (a + s)) : Pr x s (a + s)
theorem Bl.same {x y : List NI} {s n a : Nat} (h : Bl x s n a) : (∀ t, a ≤ t → atN y t = atN x t) → Bl y s n a := by
  induction h with
  | done h => exact fun _ => .done h
  | step h _ ih => exact fun e => .step (h.same (fun i h1 _ => e i h1)) (ih (fun t ht => e t (by omega)))
theorem Pr.same {x y : List NI} {s a : Nat} (h : Pr x s a) : (∀ t, t < a → atN y t = atN x t) → Pr y s a := by
  induction h with
  | zero => exact fun _ => .zero
  | step _ h ih => exact fun e => .step (ih (fun t ht => e t (by omega))) (h.same (fun i _ h2 => e i h2))
theorem Pr.join {x : List NI} {s n a : Nat} (h : Pr x s a) : a ≤ n → Bl x s n a → Bl x s n 0 := by
  induction h with
  | zero => exact fun _ b => b
  | step _ h ih => exact fun ha b => ih (by omega) (.step (by rw [Nat.min_eq_left ha]; exact h) b)
theorem Bl.open {x : List NI} {s n a : Nat} (h : Bl x s n a) (ha : a < n) : Srt x a (min (a + s) n) ∧ Bl x s n (a + s) := by
  cases h with
  | done h => omega
  | step h k => exact ⟨h, k⟩
theorem doubled (n s : Nat) (hs : 20 ≤ s) (hsn : s < n) (hn : n ≤ 4398046511104) (ih : ∀ x : List NI, x.length = n → KB x → Bl x (2 * s) n 0 → ∃ r, Ev (fun k => yAD.l1 k x (n : Int) ((2 * s : Nat) : Int)) r ∧ r.Perm x ∧ Srt r 0 n) :
    ∀ d a : Nat, n - a ≤ d → a ≤ n → ∀ x : List NI, x.length = n → KB x → Pr x (2 * s) a → Bl x s n a → ∃ r, Ev (fun k => yAD.l2 k x (n : Int) (s : Int) (a : Int) ((a + 2 * s : Nat) : Int)) r ∧ r.Perm x ∧ Srt r 0 n := by
  have w1 : Aside0 (wrap64 (2 * (s : Int)) = ((2 * s : Nat) : Int)) := ⟨by rw [wrap_in (by omega) (by omega)]; omega⟩
  have w1' : Aside0 (wrap64 ((s : Int) * 2) = ((2 * s : Nat) : Int)) := ⟨by rw [wrap_in (by omega) (by omega)]; omega⟩
  intro d
  induction d with
  | zero =>
    intro a h1 h2 x hx hk hp hb
    obtain rfl : a = n := by omega
    obtain ⟨r, r1, r2, r3⟩ := ih x hx hk (hp.join (Nat.le_refl _) (.done (Nat.le_refl _)))
    have w2 : Aside0 (wrap64 ((a : Int) + (s : Int)) = ((a + s : Nat) : Int)) := ⟨wrap_add (by omega)⟩
    refine ⟨r, Ev.step (fun _ => yAD.l2.eq_2 ..) (Ev.neg (by omega) (Ev.neg ?_ ?_)), r2, r3⟩
    · rw [w2.out]; omega
    · rw [w1'.out]; exact r1
  | succ d ihd =>
    intro a h1 h2 x hx hk hp hb
    have w2 : Aside0 (wrap64 ((a : Int) + (s : Int)) = ((a + s : Nat) : Int)) := ⟨wrap_add (by omega)⟩
    have w3 : Aside0 (wrap64 (((a + 2 * s : Nat) : Int) + ((2 * s : Nat) : Int)) = ((a + 2 * s + 2 * s : Nat) : Int)) := ⟨wrap_add (by omega)⟩
    by_cases c1 : a + 2 * s ≤ n
    · obtain ⟨s1, b1⟩ := hb.open (by omega)
      obtain ⟨s2, b2⟩ := b1.open (by omega)
      rw [Nat.min_eq_left (by omega)] at s1 s2
      obtain ⟨y, y1, y2, y3⟩ := merge _ a (a + s) (a + 2 * s) (Nat.le_refl _) (by omega) (by omega) x (by omega) hk s1 (s2.sub (Nat.le_refl _) (by omega))
      obtain ⟨r, r1, r2, r3⟩ := ihd (a + 2 * s) (by omega) c1 y (y2.1.trans hx) (hk.perm y2.2.1) (.step (hp.same (fun t ht => y2.2.2.1 t (Or.inl ht))) y3) (by
        rw [show a + s + s = a + 2 * s by omega] at b2
        exact b2.same (fun t ht => y2.2.2.1 t (Or.inr ht)))
      refine ⟨r, Ev.step (fun _ => yAD.l2.eq_2 ..) (Ev.pos (by omega) ?_), r2.trans y2.2.1, r3⟩
      rw [w2.out, w1.out, w3.out]
      exact Ev.bind y1 r1
    · by_cases c2 : a + s < n
      · obtain ⟨s1, b1⟩ := hb.open (by omega)
        obtain ⟨s2, b2⟩ := b1.open c2
        rw [Nat.min_eq_left (by omega)] at s1
        rw [Nat.min_eq_right (by omega)] at s2
        obtain ⟨y, y1, y2, y3⟩ := merge _ a (a + s) n (Nat.le_refl _) (by omega) c2 x (by omega) hk s1 s2
        obtain ⟨r, r1, r2, r3⟩ := ih y (y2.1.trans hx) (hk.perm y2.2.1) ((hp.same (fun t ht => y2.2.2.1 t (Or.inl ht))).join h2 (.step (by rw [Nat.min_eq_right (by omega)]; exact y3) (.done (by omega))))
        refine ⟨r, Ev.step (fun _ => yAD.l2.eq_2 ..) (Ev.neg (by omega) ?_), r2.trans y2.2.1, r3⟩
        rw [w2.out, w1'.out]
        exact Ev.pos (by omega) (Ev.bind y1 r1)
      · obtain ⟨r, r1, r2, r3⟩ := ih x hx hk (hp.join h2 (by
          rcases Nat.lt_or_ge a n with h | h
          · have s1 := (hb.open h).1
            rw [Nat.min_eq_right (by omega)] at s1
            exact .step (by rw [Nat.min_eq_right (by omega)]; exact s1) (.done (by omega))
          · exact .done h))
        refine ⟨r, Ev.step (fun _ => yAD.l2.eq_2 ..) (Ev.neg (by omega) ?_), r2, r3⟩
        rw [w2.out, w1'.out]
        exact Ev.neg (by omega) r1
theorem merged (n : Nat) (hn : n ≤ 4398046511104) : ∀ N s : Nat, n - s ≤ N → 20 ≤ s → ∀ x : List NI, x.length = n → KB x → Bl x s n 0 → ∃ r, Ev (fun k => yAD.l1 k x (n : Int) (s : Int)) r ∧ r.Perm x ∧ Srt r 0 n := by
  intro N
  induction N with
  | zero =>
    intro s h1 h2 x hx hk hb
    refine ⟨x, Ev.step (fun _ => yAD.l1.eq_2 ..) (Ev.neg (by omega) (Ev.some rfl)), List.Perm.refl _, ?_⟩
    rcases Nat.eq_zero_or_pos n with h | h
    · exact fun p q _ _ h3 => by omega
    · have s1 := (hb.open h).1
      rw [Nat.min_eq_right (by omega)] at s1
      exact s1
  | succ N ih =>
    intro s h1 h2 x hx hk hb
    by_cases c : s < n
    · obtain ⟨r, r1, r2⟩ := doubled n s h2 c hn (fun x' hx' hk' hb' => ih (2 * s) (by omega) (by omega) x' hx' hk' hb') n 0 (by omega) (Nat.zero_le _) x hx hk .zero hb
      refine ⟨r, Ev.step (fun _ => yAD.l1.eq_2 ..) (Ev.pos (by omega) ?_), r2⟩
      have w1 : wrap64 (2 * (s : Int)) = ((2 * s : Nat) : Int) := by rw [wrap_in (by omega) (by omega)]; omega
      rw [w1]
      rw [Nat.zero_add] at r1
      exact r1
    · exact ih s (by omega) h2 x hx hk hb
theorem blocks (n : Nat) (hn : n ≤ 4398046511104) : ∀ d a : Nat, n - a ≤ d → a ≤ n → ∀ x : List NI, x.length = n → KB x → Pr x 20 a → ∃ r, Ev (fun k => yAD.l0 k x (n : Int) 20 (a : Int) ((a + 20 : Nat) : Int)) r ∧ r.Perm x ∧ Srt r 0 n := by
  intro d
  induction d with
  | zero =>
    intro a h1 h2 x hx hk hp
    obtain rfl : a = n := by omega
    obtain ⟨y, y1, y2, y3⟩ := insertion x a a (Nat.le_refl _) (by omega) hk
    obtain ⟨r, r1, r2, r3⟩ := merged a hn _ 20 (Nat.le_refl _) (Nat.le_refl _) y (y2.1.trans hx) (hk.perm y2.2.1) ((hp.same (fun t ht => y2.2.2.1 t (Or.inl ht))).join (Nat.le_refl _) (.done (Nat.le_refl _)))
    exact ⟨r, Ev.step (fun _ => yAD.l0.eq_2 ..) (Ev.neg (by omega) (Ev.bind y1 r1)), r2.trans y2.2.1, r3⟩
  | succ d ih =>
    intro a h1 h2 x hx hk hp
    by_cases c : a + 20 ≤ n
    · obtain ⟨y, y1, y2, y3⟩ := insertion x a (a + 20) (by omega) (by omega) hk
      obtain ⟨r, r1, r2, r3⟩ := ih (a + 20) (by omega) c y (y2.1.trans hx) (hk.perm y2.2.1) (.step (hp.same (fun t ht => y2.2.2.1 t (Or.inl ht))) y3)
      refine ⟨r, Ev.step (fun _ => yAD.l0.eq_2 ..) (Ev.pos (by omega) (Ev.bind y1 ?_)), r2.trans y2.2.1, r3⟩
      have w : wrap64 (((a + 20 : Nat) : Int) + 20) = ((a + 20 + 20 : Nat) : Int) := wrap_add (a := a + 20) (b := 20) (by omega)
      rw [w]
      exact r1
    · obtain ⟨y, y1, y2, y3⟩ := insertion x a n h2 (by omega) hk
      obtain ⟨r, r1, r2, r3⟩ := merged n hn _ 20 (Nat.le_refl _) (Nat.le_refl _) y (y2.1.trans hx) (hk.perm y2.2.1) ((hp.same (fun t ht => y2.2.2.1 t (Or.inl ht))).join h2 (by
        rcases Nat.lt_or_ge a n with h | h
        · exact .step (by rw [Nat.min_eq_right (by omega)]; exact y3) (.done (by omega))
        · exact .done h))
      exact ⟨r, Ev.step (fun _ => yAD.l0.eq_2 ..) (Ev.neg (by omega) (Ev.bind y1 r1)), r2.trans y2.2.1, r3⟩
/-- The stable sort: the same elements, in order. -/
theorem stable (x : List NI) (hk : KB x) : ∃ r, Ev (fun k => yAl.f k x) r ∧ r.Perm x ∧ Srt r 0 r.length := by
  obtain ⟨r, r1, r2, r3⟩ := blocks x.length hk.2 x.length 0 (by omega) (Nat.zero_le _) x rfl hk .zero
  rw [← r2.length_eq] at r3
  exact ⟨r, Ev.bind r1 (Ev.some rfl), r2, r3⟩
end Go.Proofs.YtglcpghappepaaaGreatDoor.MMerge
end
section
/- What the program's sort of a tier comes to: of two orderings of the same notes by their begins at most one is a tier. -/
namespace Go.Proofs.YtglcpghappepaaaGreatDoor.MTier
open Go.RowKit Go.Proofs.YtglcpghappepaaaGreatDoor.G Go.Proofs.YtglcpghappepaaaGreatDoorW.PrintWords Go.Proofs.YtglcpghappepaaaGreatDoorW.PrintLast Go.Proofs.YtglcpghappepaaaGreatDoor.MPure Go.Proofs.YtglcpghappepaaaGreatDoor.MWord Go.Proofs.YtglcpghappepaaaGreatDoor.MNote Go.Proofs.YtglcpghappepaaaGreatDoor.MSort Go.Proofs.YtglcpghappepaaaGreatDoor.MMerge

theorem tier_at {l : List NI} (h : tierB l = true) {i : Nat} (hi : i < l.length) : noteB (atN l i).f0 (atN l i).f1 (atN l i).f2 = true ∧ (i = 0 ∨ (atN l (i - 1)).f1 ≤ (atN l i).f0) := by
  unfold tierB at h
  simp only [Bool.and_eq_true, List.all_eq_true, List.mem_range] at h
  have := h.1 i hi
  unfold tierP at this
  simp only [Bool.and_eq_true, Bool.or_eq_true, decide_eq_true_eq] at this
  exact this
theorem note_in {f t : Int} {g : ByteArray} (h : noteB f t g = true) : 0 ≤ f ∧ f < t ∧ t ≤ 99999 := by
  unfold noteB frameB at h
  simp only [Bool.and_eq_true, decide_eq_true_eq] at h
  omega
theorem tier_KB {l : List NI} (h : tierB l = true) : KB l := by
  refine ⟨fun x hx => ?_, ?_⟩
  · obtain ⟨i, hi, rfl⟩ := List.mem_iff_getElem.1 hx
    have := note_in (tier_at h hi).1
    rw [atN_get hi] at this
    omega
  · unfold tierB at h
    simp only [Bool.and_eq_true, decide_eq_true_eq] at h
    omega
/-- A tier's notes begin one behind the other. -/
theorem tier_lt {l : List NI} (h : tierB l = true) : ∀ d i j : Nat, j = i + d + 1 → j < l.length → ky l i < ky l j := by
  intro d
  induction d with
  | zero =>
    intro i j hj hl
    have h1 := tier_at h hl
    have h2 := note_in (tier_at h (show i < l.length by omega)).1
    have e : j - 1 = i := by omega
    rw [e] at h1
    unfold ky
    have := h1.2
    omega
  | succ d ih =>
    intro i j hj hl
    have h0 := ih i (j - 1) (by omega) (by omega)
    have h1 := tier_at h hl
    have h2 := note_in (tier_at h (show j - 1 < l.length by omega)).1
    unfold ky at h0 ⊢
    have := h1.2
    omega
theorem tier_srt {l : List NI} (h : tierB l = true) : Srt l 0 l.length := fun p q _ h2 h3 => Int.le_of_lt (tier_lt h (q - p - 1) p q (by omega) h3)
theorem srt_pairwise {l : List NI} (h : Srt l 0 l.length) : l.Pairwise (fun a b => a.f0 ≤ b.f0) := by
  rw [List.pairwise_iff_getElem]
  intro i j hi hj hij
  have := h i j (Nat.zero_le _) hij hj
  unfold ky at this
  rwa [atN_get hi, atN_get hj] at this
theorem one_order {r p : List NI} (hp : r.Perm p) (hr : Srt r 0 r.length) (hs : Srt p 0 p.length) (h : tierB p = true) : r = p := by
  refine List.Perm.eq_of_pairwise (le := fun a b => a.f0 ≤ b.f0) (fun a b ha hb h1 h2 => ?_) (srt_pairwise hr) (srt_pairwise hs) hp
  obtain ⟨i, hi, rfl⟩ := List.mem_iff_getElem.1 (hp.mem_iff.1 ha)
  obtain ⟨j, hj, rfl⟩ := List.mem_iff_getElem.1 hb
  rcases Nat.lt_trichotomy i j with c | c | c
  · have := tier_lt h (j - i - 1) i j (by omega) hj
    unfold ky at this
    rw [atN_get hi, atN_get hj] at this
    omega
  · subst c; rfl
  · have := tier_lt h (i - j - 1) j i (by omega) hi
    unfold ky at this
    rw [atN_get hi, atN_get hj] at this
    omega
theorem both_or_none {r p : List NI} (hp : r.Perm p) (hr : Srt r 0 r.length) (hs : Srt p 0 p.length) : tierB r = tierB p := by
  cases h : tierB p with
  | true => rw [one_order hp hr hs h]; exact h
  | false =>
    cases h2 : tierB r with
    | false => rfl
    | true =>
      rw [one_order hp.symm hs hr h2] at h
      rw [h] at h2
      exact h2.symm
theorem sized_perm {r p : List NI} (h : Sized p) (hp : r.Perm p) : Sized r := ⟨by rw [hp.length_eq]; exact h.1, fun x hx => h.2 x (hp.mem_iff.1 hx)⟩
def tierOr (p : List NI) : List NI × Bool := if tierB p = true then (p, true) else ([], false)
/-- The program's sort, and whether it is a tier: p is any ordering by the begins. -/
theorem sortedTier_ (x p : List NI) (hk : KB x) (hz : Sized x) (hp : p.Perm x) (hS : Srt p 0 p.length) : Ev (fun k => yA9.f k x) (tierOr p) := by
  obtain ⟨r, r1, r2, r3⟩ := stable x hk
  have hpr : r.Perm p := r2.trans hp.symm
  have ht := IsTier_ r (sized_perm hz r2)
  have hb := both_or_none hpr r3 hS
  unfold yA9.f tierOr
  refine Ev.bind r1 (Ev.bind ht (Ev.ite (fun h => Ev.some ?_) (fun h => Ev.some ?_)))
  · rw [hb] at h
    rw [if_pos h, one_order hpr r3 hS h]
  · rw [hb] at h
    rw [if_neg h]
theorem tiIf_ (l : List NI) (hl : Sized l) : Ev (fun k => yBJ.f k l) (tierOr l) := by
  unfold yBJ.f tierOr
  exact Ev.bind (tiGood_ l hl) (Ev.ite (fun h => Ev.some (by rw [if_pos h])) (fun h => Ev.some (by rw [if_neg h])))
/-- The reference's place for a note. -/
def place (n : Int) : List NI → Nat
  | [] => 0
  | x :: l => if x.f0 < n then place n l + 1 else 0
def put (l : List NI) (n : NI) : List NI := l.take (place n.f0 l) ++ [n] ++ l.drop (place n.f0 l)
theorem place_le (n : Int) : ∀ l : List NI, place n l ≤ l.length
  | [] => Nat.le_refl _
  | x :: l => by
    have := place_le n l
    simp only [place, List.length_cons]
    split <;> omega
theorem place_low (n : Int) : ∀ (l : List NI) (i : Nat), i < place n l → ky l i < n
  | [], i, h => by simp [place] at h
  | x :: l, i, h => by
    simp only [place] at h
    by_cases c : x.f0 < n
    · rw [if_pos c] at h
      cases i with
      | zero => exact c
      | succ i => exact place_low n l i (by omega)
    · rw [if_neg c] at h; omega
theorem place_high (n : Int) : ∀ (l : List NI), place n l < l.length → n ≤ ky l (place n l)
  | [], h => by simp at h
  | x :: l, h => by
    simp only [place] at h ⊢
    by_cases c : x.f0 < n
    · rw [if_pos c] at h ⊢
      exact place_high n l (by simpa using h)
    · rw [if_neg c]
      show n ≤ x.f0
      omega
theorem put_perm (l : List NI) (n : NI) : (put l n).Perm (l ++ [n]) := by
  unfold put
  have h : (l.take (place n.f0 l) ++ [n] ++ l.drop (place n.f0 l)).Perm (l.take (place n.f0 l) ++ l.drop (place n.f0 l) ++ [n]) := by
    rw [List.append_assoc, List.append_assoc]
    exact List.Perm.append_left _ List.perm_append_comm
  rw [List.take_append_drop] at h
  exact h
theorem put_length (l : List NI) (n : NI) : (put l n).length = l.length + 1 := by rw [(put_perm l n).length_eq]; simp
theorem put_at (l : List NI) (n : NI) (i : Nat) (_h : i < l.length + 1) : atN (put l n) i = if i < place n.f0 l then atN l i else if i = place n.f0 l then n else atN l (i - 1) := by
  have hp := place_le n.f0 l
  unfold atN put
  rw [List.getD_eq_getElem?_getD]
  have ht : (l.take (place n.f0 l)).length = place n.f0 l := by rw [List.length_take]; omega
  by_cases c : i < place n.f0 l
  · rw [if_pos c, List.append_assoc, List.getElem?_append_left (by omega), List.getElem?_take, if_pos c, ← List.getD_eq_getElem?_getD]
  · rw [if_neg c, List.append_assoc, List.getElem?_append_right (by omega), ht]
    by_cases c2 : i = place n.f0 l
    · rw [if_pos c2, c2, Nat.sub_self]
      rfl
    · rw [if_neg c2, show i - place n.f0 l = (i - place n.f0 l - 1) + 1 by omega]
      show ((l.drop (place n.f0 l))[i - place n.f0 l - 1]?).getD _ = _
      rw [List.getElem?_drop, List.getD_eq_getElem?_getD, show place n.f0 l + (i - place n.f0 l - 1) = i - 1 by omega]
theorem put_srt (l : List NI) (n : NI) (hl : Srt l 0 l.length) : Srt (put l n) 0 (put l n).length := by
  intro p q _ h2 h3
  rw [put_length] at h3
  have hp := place_le n.f0 l
  unfold ky
  rw [put_at l n p (by omega), put_at l n q h3]
  have high : ∀ i, place n.f0 l ≤ i → i < l.length → n.f0 ≤ ky l i := by
    intro i h1 h2
    have h0 := place_high n.f0 l (by omega)
    by_cases e : i = place n.f0 l
    · rw [e]; exact h0
    · exact Int.le_trans h0 (hl _ _ (Nat.zero_le _) (by omega) h2)
  by_cases c : p < place n.f0 l
  · rw [if_pos c]
    have hlow := place_low n.f0 l p c
    by_cases c2 : q < place n.f0 l
    · rw [if_pos c2]; exact hl p q (Nat.zero_le _) h2 (by omega)
    · rw [if_neg c2]
      by_cases c3 : q = place n.f0 l
      · rw [if_pos c3]; exact Int.le_of_lt hlow
      · rw [if_neg c3]; exact Int.le_trans (Int.le_of_lt hlow) (high (q - 1) (by omega) (by omega))
  · rw [if_neg c, if_neg (show ¬ q < place n.f0 l by omega), if_neg (show ¬ q = place n.f0 l by omega)]
    by_cases c3 : p = place n.f0 l
    · rw [if_pos c3]; exact high (q - 1) (by omega) (by omega)
    · rw [if_neg c3]; exact hl (p - 1) (q - 1) (Nat.zero_le _) (by omega) (by omega)
theorem place_take (n : Int) : ∀ (l : List NI) (i : Nat), i ≤ l.length → (∀ j, j < i → ky l j < n) → (i < l.length → ¬ ky l i < n) → place n l = i
  | [], i, h, _, _ => by simp at h; simp [place, h]
  | x :: l, 0, _, _, h3 => by
    have : ¬ x.f0 < n := h3 (by simp)
    simp [place, this]
  | x :: l, i + 1, h1, h2, h3 => by
    have h0 : x.f0 < n := h2 0 (by omega)
    have ih := place_take n l i (by simpa using h1) (fun j hj => h2 (j + 1) (by omega)) (fun h => h3 (by simpa using h))
    simp [place, h0, ih]
theorem tiPut_ (l : List NI) (hl : l.length ≤ 1000000) (n : NI) : Ev (fun k => yAQ.f k l n.f0 n.f1 n.f2) (put l n) := by
  have fin : ∀ i : Nat, i ≤ l.length → place n.f0 l = i → Ev (fun k => yAQ.j1 k l (i : Int) false n.f0 n.f1 n.f2) (put l n) := by
    intro i hi e
    have ht : (l.take ((i : Int)).toNat).length = i := by rw [List.length_take]; omega
    have hd : (l.drop ((i : Int)).toNat).length = l.length - i := by rw [List.length_drop]; omega
    refine Ev.step (fun _ => yAQ.j1.eq_2 ..) (Ev.neg (by decide) (Ev.have rfl (Ev.pos (by omega) (Ev.pos (by omega) (Ev.have rfl (Ev.pos ?_ (Ev.have rfl (Ev.have rfl (Ev.pos ?_ (Ev.have rfl (Ev.have rfl (Ev.pos ?_ (Ev.some ?_)))))))))))))
    · simp only [List.length_nil]; omega
    · simp only [List.nil_append, List.length_cons, List.length_nil]; omega
    · simp only [List.nil_append, List.length_append, List.length_cons, List.length_nil]; omega
    · unfold put
      rw [e]
      rfl
  have key : ∀ d i : Nat, i + d = l.length → (∀ j, j < i → ky l j < n.f0) → Ev (fun k => yAQ.l0 k l (i : Int) n.f0 n.f1 n.f2) (put l n) := by
    intro d
    induction d with
    | zero =>
      intro i hi h
      exact Ev.step (fun _ => yAQ.l0.eq_2 ..) (Ev.neg (by omega) (fin i (by omega) (place_take n.f0 l i (by omega) h (fun h => by omega))))
    | succ d ih =>
      intro i hi h
      by_cases c : ky l i < n.f0
      · have h2 := ih (i + 1) (by omega) (fun j hj => by
          by_cases e : j = i
          · rw [e]; exact c
          · exact h j (by omega))
        rw [← wrap_succ (by omega)] at h2
        exact Ev.step (fun _ => yAQ.l0.eq_2 ..) (Ev.pos (by omega) (Ev.pos (by omega) (Ev.step (fun _ => yAQ.j1.eq_2 ..) (Ev.pos (decide_eq_true c) h2))))
      · have h3 := fin i (by omega) (place_take n.f0 l i (by omega) h (fun _ => c))
        rw [← decide_eq_false c] at h3
        exact Ev.step (fun _ => yAQ.l0.eq_2 ..) (Ev.pos (by omega) (Ev.pos (by omega) h3))
  exact key l.length 0 (by omega) (fun j hj => absurd hj (Nat.not_lt_zero _))
end Go.Proofs.YtglcpghappepaaaGreatDoor.MTier
end
section
/- AddNote: what the reference and the program answer, in plain words (out of the pure text of the exact law). No condition. -/
namespace Go.Proofs.YtglcpghappepaaaGreatDoor.MCAddNote
open Go.RowKit Go.Proofs.YtglcpghappepaaaGreatDoor.G Go.Proofs.YtglcpghappepaaaGreatDoorW.PrintWords Go.Proofs.YtglcpghappepaaaGreatDoorW.PrintLast Go.Proofs.YtglcpghappepaaaGreatDoor.MPure Go.Proofs.YtglcpghappepaaaGreatDoor.MWord Go.Proofs.YtglcpghappepaaaGreatDoor.MNote Go.Proofs.YtglcpghappepaaaGreatDoor.MSort Go.Proofs.YtglcpghappepaaaGreatDoor.MTier

def addR (l : List NI) (n : NI) : List NI × Bool := if tierB l = true ∧ noteB n.f0 n.f1 n.f2 = true then tierOr (put l n) else ([], false)
theorem AddNote_s (l : List NI) (hl : Sized l) (n : NI) (hn : n.f2.size ≤ 140737488351232) : Ev (fun k => yAn.f k l n.f0 n.f1 n.f2) (addR l n) := by
  unfold yAn.f addR
  refine Ev.bind (tiGood_ l hl) (Ev.ite (fun h1 => Ev.bind (tiNote_ _ _ _ hn) (Ev.step (fun _ => yAn.j0.eq_2 ..) (Ev.ite (fun h2 => Ev.some ?_) (fun h2 => ?_)))) (fun h1 => Ev.step (fun _ => yAn.j0.eq_2 ..) (Ev.pos rfl (Ev.some ?_))))
  · rw [if_neg]
    rintro ⟨_, h⟩
    rw [h] at h2
    cases h2
  · have h3 : noteB n.f0 n.f1 n.f2 = true := by simpa using h2
    rw [if_pos ⟨h1, h3⟩]
    have hk := tier_KB h1
    have hlen : l.length ≤ 1000000 := by
      unfold tierB at h1
      simp only [Bool.and_eq_true, decide_eq_true_eq] at h1
      omega
    have hz : Sized (put l n) := by
      refine ⟨by rw [put_length]; omega, fun x hx => ?_⟩
      rcases List.mem_append.1 ((put_perm l n).mem_iff.1 hx) with h | h
      · exact hl.2 x h
      · rw [List.mem_singleton.1 h]; exact hn
    exact Ev.bind (tiPut_ l hlen n) (Ev.bind (MTier.tiIf_ _ hz) (Ev.some rfl))
  · rw [if_neg (fun h => h1 h.1)]
theorem AddNote_i (l : List NI) (hl : Sized l) (n : NI) (hn : n.f2.size ≤ 140737488351232) : Ev (fun k => yAZ.f k l n.f0 n.f1 n.f2) (addR l n) := by
  unfold yAZ.f addR
  refine Ev.bind (IsTier_ l hl) (Ev.ite (fun h1 => Ev.bind (IsNote_ _ _ _ hn) (Ev.step (fun _ => yAZ.j0.eq_2 ..) (Ev.ite (fun h2 => Ev.some ?_) (fun h2 => ?_)))) (fun h1 => Ev.step (fun _ => yAZ.j0.eq_2 ..) (Ev.pos rfl (Ev.some ?_))))
  · rw [if_neg]
    rintro ⟨_, h⟩
    rw [h] at h2
    cases h2
  · have h3 : noteB n.f0 n.f1 n.f2 = true := by simpa using h2
    rw [if_pos ⟨h1, h3⟩]
    have hk := tier_KB h1
    have hlen : l.length ≤ 1000000 := by
      unfold tierB at h1
      simp only [Bool.and_eq_true, decide_eq_true_eq] at h1
      omega
    have hc : yA3.f l = some l := by
      unfold yA3.f
      rw [if_pos (by omega)]
    have hz : Sized (l ++ [n]) := by
      refine ⟨by simp; omega, fun x hx => ?_⟩
      rcases List.mem_append.1 hx with h | h
      · exact hl.2 x h
      · rw [List.mem_singleton.1 h]; exact hn
    have hkn : KB (l ++ [n]) := by
      refine ⟨fun x hx => ?_, by simp; omega⟩
      rcases List.mem_append.1 hx with h | h
      · exact hk.1 x h
      · rw [List.mem_singleton.1 h]; have := note_in h3; omega
    exact Ev.have hc (Ev.have rfl (Ev.pos (by simp; omega) (Ev.bind (sortedTier_ (l ++ [n]) (put l n) hkn hz (put_perm l n) (put_srt l n (tier_srt h1))) (Ev.some rfl))))
  · rw [if_neg (fun h => h1 h.1)]
theorem addR_length (l : List NI) (n : NI) : (addR l n).1.length ≤ l.length + 1 := by
  unfold addR tierOr
  split
  · split
    · rw [put_length]; exact Nat.le_refl _
    · exact Nat.zero_le _
  · exact Nat.zero_le _
end Go.Proofs.YtglcpghappepaaaGreatDoor.MCAddNote
end
section
/- Ranges of frames. -/
namespace Go.Proofs.YtglcpghappepaaaGreatDoor.MCut
open Go.RowKit Go.Proofs.YtglcpghappepaaaGreatDoor.G Go.Proofs.YtglcpghappepaaaGreatDoorW.PrintWords Go.Proofs.YtglcpghappepaaaGreatDoorW.PrintLast Go.Proofs.YtglcpghappepaaaGreatDoor.MPure Go.Proofs.YtglcpghappepaaaGreatDoor.MWord Go.Proofs.YtglcpghappepaaaGreatDoor.MNote

def rangeB (a b : Int) : Bool := frameB a && frameB b && decide (a < b)
theorem isRange_ (a b : Int) : yA0.f a b = some (rangeB a b) := by
  unfold yA0.f rangeB
  rw [isFrame_, isFrame_]
  simp only [Option.bind_some]
  cases frameB a <;> cases frameB b <;> simp
end Go.Proofs.YtglcpghappepaaaGreatDoor.MCut
end
section
/- The greater and the lesser of two numbers. No condition. -/
namespace Go.Proofs.YtglcpghappepaaaGreatDoor.MCut
open Go.RowKit Go.Proofs.YtglcpghappepaaaGreatDoor.G Go.Proofs.YtglcpghappepaaaGreatDoorW.PrintWords Go.Proofs.YtglcpghappepaaaGreatDoorW.PrintLast Go.Proofs.YtglcpghappepaaaGreatDoor.MPure Go.Proofs.YtglcpghappepaaaGreatDoor.MWord Go.Proofs.YtglcpghappepaaaGreatDoor.MNote

theorem l1Most_ (a b : Int) : yAh.f a b = some (mx a b) := by
  unfold yAh.f mx
  by_cases h : a > b
  · rw [if_pos h]; congr 1; split <;> omega
  · rw [if_neg h]; congr 1; split <;> omega
theorem l1Least_ (a b : Int) : yAf.f a b = some (mn a b) := by
  unfold yAf.f mn
  by_cases h : a < b
  · rw [if_pos h]; congr 1; split <;> omega
  · rw [if_neg h]; congr 1; split <;> omega
end Go.Proofs.YtglcpghappepaaaGreatDoor.MCut
end
section
/- The parts of notes in a span: the reference's and the program's cut are one list; spans and ranges of frames. -/
namespace Go.Proofs.YtglcpghappepaaaGreatDoor.MCut
open Go.RowKit Go.Proofs.YtglcpghappepaaaGreatDoor.G Go.Proofs.YtglcpghappepaaaGreatDoorW.PrintWords Go.Proofs.YtglcpghappepaaaGreatDoorW.PrintLast Go.Proofs.YtglcpghappepaaaGreatDoor.MPure Go.Proofs.YtglcpghappepaaaGreatDoor.MWord Go.Proofs.YtglcpghappepaaaGreatDoor.MNote

theorem tiSpan_ (l : List NI) (hl : Sized l) (a b : Int) : Ev (fun k => yAv.f k l a b) (tierB l && rangeB a b) := by
  unfold yAv.f rangeB
  refine Ev.bind (tiGood_ l hl) (Ev.ite (fun h1 => ?_) (fun h1 => Ev.some (by simp [h1])))
  refine Ev.have (tiFrame_ a) (Ev.ite (fun h2 => ?_) (fun h2 => Ev.some (by simp [h2])))
  refine Ev.have (tiFrame_ b) (Ev.ite (fun h3 => Ev.some (by simp [h1, h2, h3])) (fun h3 => Ev.some (by simp [h3])))
/-- A note's part in a span, if any. -/
def cut1 (a b : Int) (x : NI) : Option NI := if mx x.f0 a < mn x.f1 b then some ⟨mx x.f0 a, mn x.f1 b, x.f2⟩ else none
def cutL (a b : Int) (l : List NI) : List NI := l.filterMap (cut1 a b)
theorem cutL_length (a b : Int) (l : List NI) : (cutL a b l).length ≤ l.length := List.length_filterMap_le _ _
theorem take_atN (l : List NI) (i : Nat) (h : i < l.length) : l.take (i + 1) = l.take i ++ [atN l i] := by
  have e : atN l i = l[i] := by
    unfold atN
    rw [List.getD_eq_getElem?_getD, List.getElem?_eq_getElem h]
    rfl
  rw [e, List.take_succ_eq_append_getElem h]
theorem cutL_take (a b : Int) (l : List NI) (i : Nat) (h : i < l.length) : cutL a b (l.take (i + 1)) = cutL a b (l.take i) ++ (match cut1 a b (atN l i) with | some y => [y] | none => []) := by
  unfold cutL
  rw [take_atN l i h, List.filterMap_append]
  congr 1
  cases hc : cut1 a b (atN l i) <;> simp [hc]
theorem cut_i (l : List NI) (hl : l.length ≤ 4398046511104) (a b : Int) : Ev (fun k => yAo.f k l a b) (cutL a b l) := by
  have key : ∀ d i : Nat, i + d = l.length → Ev (fun k => yAo.l0 k a b (cutL a b (l.take i)) l (l.length : Int) (i : Int)) (cutL a b l) := by
    intro d
    induction d with
    | zero =>
      intro i hi
      refine Ev.step (fun _ => yAo.l0.eq_2 ..) (Ev.neg (by omega) (Ev.some ?_))
      rw [List.take_of_length_le (by omega)]
    | succ d ih =>
      intro i hi
      have h := ih (i + 1) (by omega)
      have hlen := cutL_length a b (l.take i)
      have hti : (l.take i).length = i := by simp; omega
      rw [cutL_take a b l i (by omega)] at h
      refine Ev.step (fun _ => yAo.l0.eq_2 ..) (Ev.pos (by omega) (Ev.pos (by omega) (Ev.pos (by omega) ?_)))
      rw [wrap_succ (by omega)]
      refine Ev.ite (fun hc => Ev.pos (by omega) ?_) (fun hc => ?_)
      · have e : cut1 a b (atN l i) = some ⟨mx (atN l i).f0 a, mn (atN l i).f1 b, (atN l i).f2⟩ := if_pos hc
        rw [e] at h
        exact h
      · have e : cut1 a b (atN l i) = none := if_neg hc
        rw [e] at h
        simpa using h
  exact key l.length 0 (by omega)
theorem cut_s (l : List NI) (hl : l.length ≤ 4398046511104) (a b : Int) : Ev (fun k => yAi.f k l a b) (cutL a b l) := by
  have key : ∀ d i : Nat, i + d = l.length → Ev (fun k => yAi.l0 k a b (cutL a b (l.take i)) l (l.length : Int) (i : Int)) (cutL a b l) := by
    intro d
    induction d with
    | zero =>
      intro i hi
      refine Ev.step (fun _ => yAi.l0.eq_2 ..) (Ev.neg (by omega) (Ev.some ?_))
      rw [List.take_of_length_le (by omega)]
    | succ d ih =>
      intro i hi
      have h := ih (i + 1) (by omega)
      have hlen := cutL_length a b (l.take i)
      have hti : (l.take i).length = i := by simp; omega
      rw [cutL_take a b l i (by omega)] at h
      refine Ev.step (fun _ => yAi.l0.eq_2 ..) (Ev.pos (by omega) (Ev.pos (by omega) (Ev.pos (by omega) (Ev.have (l1Most_ _ _) (Ev.have (l1Least_ _ _) ?_)))))
      rw [wrap_succ (by omega)]
      refine Ev.ite (fun hc => Ev.pos (by omega) ?_) (fun hc => ?_)
      · have e : cut1 a b (atN l i) = some ⟨mx (atN l i).f0 a, mn (atN l i).f1 b, (atN l i).f2⟩ := if_pos hc
        rw [e] at h
        exact h
      · have e : cut1 a b (atN l i) = none := if_neg hc
        rw [e] at h
        simpa using h
  exact key l.length 0 (by omega)
end Go.Proofs.YtglcpghappepaaaGreatDoor.MCut
end
section
/- CutTier: what the reference and the program answer, in plain words (out of the pure text of the exact law). No condition. -/
namespace Go.Proofs.YtglcpghappepaaaGreatDoor.MCCutTier
open Go.RowKit Go.Proofs.YtglcpghappepaaaGreatDoor.G Go.Proofs.YtglcpghappepaaaGreatDoorW.PrintWords Go.Proofs.YtglcpghappepaaaGreatDoorW.PrintLast Go.Proofs.YtglcpghappepaaaGreatDoor.MPure Go.Proofs.YtglcpghappepaaaGreatDoor.MWord Go.Proofs.YtglcpghappepaaaGreatDoor.MNote Go.Proofs.YtglcpghappepaaaGreatDoor.MCut

def cutR (l : List NI) (a b : Int) : List NI × Bool := if tierB l = true ∧ rangeB a b = true then (cutL a b l, true) else ([], false)
theorem CutTier_s (l : List NI) (hl : Sized l) (hl2 : l.length ≤ 4398046511104) (a b : Int) : Ev (fun k => yBG.f k l a b) (cutR l a b) := by
  unfold yBG.f cutR
  refine Ev.bind (tiSpan_ l hl a b) (Ev.ite (fun h => ?_) (fun h => Ev.some ?_))
  · simp only [Bool.and_eq_true] at h
    exact Ev.bind (cut_s l hl2 a b) (Ev.some (by rw [if_pos h]))
  · simp only [Bool.and_eq_true] at h
    rw [if_neg h]
theorem CutTier_i (l : List NI) (hl : Sized l) (hl2 : l.length ≤ 4398046511104) (a b : Int) : Ev (fun k => yBF.f k l a b) (cutR l a b) := by
  unfold yBF.f cutR
  refine Ev.bind (IsTier_ l hl) (Ev.ite (fun h1 => ?_) (fun h1 => Ev.some (by simp [h1])))
  refine Ev.have (isRange_ a b) (Ev.ite (fun h2 => ?_) (fun h2 => Ev.some (by simp [h2])))
  exact Ev.bind (cut_i l hl2 a b) (Ev.some (by rw [if_pos ⟨h1, h2⟩]))
theorem cutR_length (l : List NI) (a b : Int) : (cutR l a b).1.length ≤ l.length := by
  unfold cutR
  split
  · exact cutL_length a b l
  · exact Nat.zero_le _
end Go.Proofs.YtglcpghappepaaaGreatDoor.MCCutTier
end
section
/- NoteAt: what the reference and the program answer, in plain words (out of the pure text of the exact law). No condition. -/
namespace Go.Proofs.YtglcpghappepaaaGreatDoor.MCNoteAt
open Go.RowKit Go.Proofs.YtglcpghappepaaaGreatDoor.G Go.Proofs.YtglcpghappepaaaGreatDoorW.PrintWords Go.Proofs.YtglcpghappepaaaGreatDoorW.PrintLast Go.Proofs.YtglcpghappepaaaGreatDoor.MPure Go.Proofs.YtglcpghappepaaaGreatDoor.MWord Go.Proofs.YtglcpghappepaaaGreatDoor.MNote Go.Proofs.YtglcpghappepaaaGreatDoor.MAt Go.Proofs.YtglcpghappepaaaGreatDoor.MAt0

/-- What both come to. -/
def noteAtR (l : List NI) (a : Int) : Int × Bool := if tierB l = true ∧ frameB a = true ∧ 0 ≤ idxOf (yAa.p a) l then (idxOf (yAa.p a) l, true) else (0, false)
theorem NoteAt_s (l : List NI) (hl : Sized l) (a : Int) : Ev (fun k => yBI.f k l a) (noteAtR l a) := by
  unfold yBI.f noteAtR
  refine Ev.bind (tiGood_ l hl) (Ev.ite (fun h1 => ?_) (fun h1 => Ev.some (by simp [h1])))
  refine Ev.have (tiFrame_ a) (Ev.ite (fun h2 => ?_) (fun h2 => Ev.some (by simp [h2])))
  refine Ev.bind (tiAt_ l hl a) (Ev.ite (fun h3 => Ev.some ?_) (fun h3 => Ev.bind (tiAt_ l hl a) (Ev.some ?_)))
  · rw [if_neg (by omega)]
  · rw [if_pos ⟨h1, h2, by omega⟩]
theorem NoteAt_i (l : List NI) (hl : Sized l) (a : Int) : Ev (fun k => yAp.f k l a) (noteAtR l a) := by
  unfold yAp.f noteAtR
  refine Ev.bind (IsTier_ l hl) (Ev.ite (fun h1 => ?_) (fun h1 => Ev.step (fun _ => yAp.j0.eq_2 ..) (Ev.pos rfl (Ev.some (by simp [h1])))))
  refine Ev.have (isFrame_ a) (Ev.step (fun _ => yAp.j0.eq_2 ..) (Ev.ite (fun h2 => Ev.some ?_) (fun h2 => ?_)))
  · simp only [Bool.not_eq_true'] at h2
    simp [h2]
  · simp only [Bool.not_eq_true', Bool.not_eq_false] at h2
    refine Ev.have rfl (Ev.ite (fun h3 => Ev.some ?_) (fun h3 => Ev.some ?_))
    · rw [if_neg (by omega)]
    · rw [if_pos ⟨h1, h2, by omega⟩]
end Go.Proofs.YtglcpghappepaaaGreatDoor.MCNoteAt
end
section
/- Numerals: what the reference writes of a number that is not negative is what strconv.Itoa writes, no condition but the number's size; and how long it is. -/
namespace Go.Proofs.YtglcpghappepaaaGreatDoor.MNum
open Go.RowKit Go.Proofs.YtglcpghappepaaaGreatDoor.G Go.Proofs.YtglcpghappepaaaGreatDoorW.PrintWords Go.Proofs.YtglcpghappepaaaGreatDoorW.PrintLast Go.Proofs.YtglcpghappepaaaGreatDoor.MPure

/-- The decimal numeral of a number. -/
def num (n : Int) : ByteArray := ⟨(Lib.itoa n).toArray⟩
def numN (u : Nat) : ByteArray := ⟨(Lib.decDigits u).toArray⟩
theorem num_nat (u : Nat) : num (u : Int) = numN u := by
  unfold num numN Lib.itoa
  rw [if_neg (by omega), Int.toNat_natCast]
theorem digits_len : ∀ (d u : Nat), u < 10 ^ (d + 1) → (Lib.decDigits u).length ≤ d + 1 := by
  intro d
  induction d with
  | zero =>
    intro u hu
    rw [Lib.decDigits, dif_pos (by simpa using hu)]
    exact Nat.le_refl _
  | succ d ih =>
    intro u hu
    rw [Lib.decDigits]
    split
    · exact Nat.succ_le_succ (Nat.zero_le _)
    · have := ih (u / 10) (by rw [Nat.pow_succ] at hu; omega)
      rw [List.length_append, List.length_singleton]
      omega
theorem numN_size (d u : Nat) (h : u < 10 ^ (d + 1)) : (numN u).size ≤ d + 1 := digits_len d u h
theorem one_digit (d : Nat) (h : d < 10) : strOfNums [(wrap64 (48 + (d : Int))) % 256] = ⟨[UInt8.ofNat (48 + d)].toArray⟩ := by
  have e : (wrap64 (48 + (d : Int))) % 256 = ((48 + d : Nat) : Int) := by unfold wrap64; omega
  rw [e]
  rfl
theorem bytes_snoc (l : List UInt8) (x : UInt8) : (⟨l.toArray⟩ : ByteArray) ++ ⟨[x].toArray⟩ = ⟨(l ++ [x]).toArray⟩ := by
  apply ByteArray.ext
  simp
theorem l1Num_ : ∀ (d u : Nat), u < 10 ^ (d + 1) → d ≤ 18 → Ev (fun k => yAj.f k (u : Int)) (numN u) := by
  intro d
  induction d with
  | zero =>
    intro u hu _
    have hu : u < 10 := by simpa using hu
    refine Ev.step (fun _ => yAj.f.eq_2 ..) (Ev.pos (by omega) (Ev.some ?_))
    rw [one_digit u hu]
    unfold numN
    rw [Lib.decDigits, dif_pos hu]
  | succ d ih =>
    intro u hu hd
    by_cases h : u < 10
    · refine Ev.step (fun _ => yAj.f.eq_2 ..) (Ev.pos (by omega) (Ev.some ?_))
      rw [one_digit u h]
      unfold numN
      rw [Lib.decDigits, dif_pos h]
    · have h10 : u / 10 < 10 ^ (d + 1) := by rw [Nat.pow_succ] at hu; omega
      have hb : u < 10 ^ 20 := Nat.lt_of_lt_of_le hu (Nat.pow_le_pow_right (by decide) (by omega))
      have e1 : wrap64 (Int.tdiv (u : Int) 10) = ((u / 10 : Nat) : Int) := by
        rw [show Int.tdiv (u : Int) 10 = ((u / 10 : Nat) : Int) from rfl]
        have : u / 10 < 10 ^ 18 := Nat.lt_of_lt_of_le h10 (Nat.pow_le_pow_right (by decide) (by omega))
        exact wrap_in (by omega) (by have h18 : (10 : Nat) ^ 18 = 1000000000000000000 := by decide
                                     omega)
      have e2 : Int.tmod (u : Int) 10 = ((u % 10 : Nat) : Int) := rfl
      have key := ih (u / 10) h10 (by omega)
      rw [← e1] at key
      have hs := numN_size d (u / 10) h10
      refine Ev.step (fun _ => yAj.f.eq_2 ..) (Ev.neg (by omega) (Ev.bind key (Ev.have rfl (Ev.pos ?_ (Ev.some ?_)))))
      · rw [e2, one_digit _ (Nat.mod_lt _ (by decide))]
        show (numN (u / 10)).size + 1 ≤ 9223372036854775807
        omega
      · rw [e2, one_digit _ (Nat.mod_lt _ (by decide))]
        unfold numN
        rw [bytes_snoc]
        rw [Lib.decDigits.eq_1 u, dif_neg h]
theorem l1Num_at (n : Int) (h0 : 0 ≤ n) (h1 : n < 1000000) : Ev (fun k => yAj.f k n) (num n) := by
  obtain ⟨u, rfl⟩ : ∃ u : Nat, n = (u : Int) := ⟨n.toNat, by omega⟩
  rw [num_nat]
  exact l1Num_ 5 u (by omega) (by omega)
theorem Itoa_at (n : Int) (h0 : 0 ≤ n) (h1 : n < 1000000) : strconv_Itoa.f n = some (num n) := if_pos ⟨by omega, by omega⟩
theorem num_size (n : Int) (h0 : 0 ≤ n) (h1 : n < 1000000) : (num n).size ≤ 6 := by
  obtain ⟨u, rfl⟩ : ∃ u : Nat, n = (u : Int) := ⟨n.toNat, by omega⟩
  rw [num_nat]
  exact numN_size 5 u (by omega)
end Go.Proofs.YtglcpghappepaaaGreatDoor.MNum
end
section
/- The text of a tier: both functions write the same one; no condition but that it is a tier. -/
namespace Go.Proofs.YtglcpghappepaaaGreatDoor.MTierT
open Go.RowKit Go.Proofs.YtglcpghappepaaaGreatDoor.G Go.Proofs.YtglcpghappepaaaGreatDoorW.PrintWords Go.Proofs.YtglcpghappepaaaGreatDoorW.PrintLast Go.Proofs.YtglcpghappepaaaGreatDoor.MPure Go.Proofs.YtglcpghappepaaaGreatDoor.MWord Go.Proofs.YtglcpghappepaaaGreatDoor.MNote Go.Proofs.YtglcpghappepaaaGreatDoor.MNum

/-- What is written of one note. -/
def piece (x : NI) : ByteArray := ((((num x.f0 ++ (⟨#[45]⟩ : ByteArray)) ++ num x.f1) ++ (⟨#[32]⟩ : ByteArray)) ++ x.f2) ++ (⟨#[59]⟩ : ByteArray)
def tailT (s : ByteArray) (l : List NI) : ByteArray := l.foldl (fun s x => s ++ piece x) s
def tierT (l : List NI) : ByteArray := tailT ⟨#[]⟩ l
theorem tier_40 {l : List NI} (h : tierB l = true) : l.length ≤ 40 := by
  unfold tierB at h
  have := of_decide_eq_true (Bool.and_eq_true_iff.1 h).2
  omega
theorem tier_note {l : List NI} (h : tierB l = true) {i : Nat} (hi : i < l.length) : noteB (atN l i).f0 (atN l i).f1 (atN l i).f2 = true := by
  unfold tierB at h
  exact (Bool.and_eq_true_iff.1 (List.all_eq_true.1 (Bool.and_eq_true_iff.1 h).1 i (List.mem_range.2 hi))).1
theorem note_says {f t : Int} {g : ByteArray} (h : noteB f t g = true) : (0 ≤ f ∧ f < 1000000) ∧ (0 ≤ t ∧ t < 1000000) ∧ g.size ≤ 8 := by
  unfold noteB at h
  obtain ⟨h, hw⟩ := Bool.and_eq_true_iff.1 h
  obtain ⟨h, _⟩ := Bool.and_eq_true_iff.1 h
  obtain ⟨ha, hb⟩ := Bool.and_eq_true_iff.1 h
  have ha := of_decide_eq_true ha
  have hb := of_decide_eq_true hb
  exact ⟨⟨ha.1, by omega⟩, ⟨hb.1, by omega⟩, by
    unfold wordB at hw
    have := of_decide_eq_true (Bool.and_eq_true_iff.1 hw).2
    omega⟩
theorem drop_at {l : List NI} {i : Nat} (h : i < l.length) : l.drop i = atN l i :: l.drop (i + 1) := by
  rw [List.drop_eq_getElem_cons h]
  congr 1
  unfold atN
  rw [List.getD_eq_getElem?_getD, List.getElem?_eq_getElem h]
  rfl
theorem piece_size {x : NI} (h : noteB x.f0 x.f1 x.f2 = true) : (piece x).size ≤ 23 := by
  obtain ⟨⟨a0, a1⟩, ⟨b0, b1⟩, c⟩ := note_says h
  have ha := num_size x.f0 a0 a1
  have hb := num_size x.f1 b0 b1
  have e1 : (⟨#[45]⟩ : ByteArray).size = 1 := rfl
  have e2 : (⟨#[32]⟩ : ByteArray).size = 1 := rfl
  have e3 : (⟨#[59]⟩ : ByteArray).size = 1 := rfl
  unfold piece
  simp only [ByteArray.size_append]
  omega
theorem text_loops (l : List NI) (h : tierB l = true) : ∀ d i : Nat, i + d = l.length → ∀ s : ByteArray, s.size ≤ 23 * i →
    Ev (fun k => yAX.l0 k s l (l.length : Int) (i : Int)) (tailT s (l.drop i)) ∧ Ev (fun k => yAV.l0 k s l (l.length : Int) (i : Int)) (tailT s (l.drop i)) := by
  have h40 := tier_40 h
  intro d
  induction d with
  | zero =>
    intro i hi s _
    rw [List.drop_of_length_le (by omega)]
    exact ⟨Ev.step (fun _ => yAX.l0.eq_2 ..) (Ev.neg (by omega) (Ev.some rfl)), Ev.step (fun _ => yAV.l0.eq_2 ..) (Ev.neg (by omega) (Ev.some rfl))⟩
  | succ d ih =>
    intro i hi s hs
    have hn := tier_note h (i := i) (by omega)
    have hz := piece_size hn
    obtain ⟨⟨a0, a1⟩, ⟨b0, b1⟩, c⟩ := note_says hn
    have ha := num_size _ a0 a1
    have hb := num_size _ b0 b1
    have e1 : (⟨#[45]⟩ : ByteArray).size = 1 := rfl
    have e2 : (⟨#[32]⟩ : ByteArray).size = 1 := rfl
    have e3 : (⟨#[59]⟩ : ByteArray).size = 1 := rfl
    have p := ih (i + 1) (by omega) (s ++ piece (atN l i)) (by rw [ByteArray.size_append]; omega)
    rw [← wrap_succ (by omega)] at p
    rw [drop_at (by omega)]
    have s1 : (num (atN l i).f0).size + 1 ≤ 9223372036854775807 := by omega
    have s2 : (num (atN l i).f0 ++ (⟨#[45]⟩ : ByteArray)).size + (num (atN l i).f1).size ≤ 9223372036854775807 := by simp only [ByteArray.size_append]; omega
    have s3 : ((num (atN l i).f0 ++ (⟨#[45]⟩ : ByteArray)) ++ num (atN l i).f1).size + 1 ≤ 9223372036854775807 := by simp only [ByteArray.size_append]; omega
    have s4 : (((num (atN l i).f0 ++ (⟨#[45]⟩ : ByteArray)) ++ num (atN l i).f1) ++ (⟨#[32]⟩ : ByteArray)).size + (atN l i).f2.size ≤ 9223372036854775807 := by simp only [ByteArray.size_append]; omega
    have s5 : ((((num (atN l i).f0 ++ (⟨#[45]⟩ : ByteArray)) ++ num (atN l i).f1) ++ (⟨#[32]⟩ : ByteArray)) ++ (atN l i).f2).size + 1 ≤ 9223372036854775807 := by simp only [ByteArray.size_append]; omega
    have s6 : s.size + (piece (atN l i)).size ≤ 9223372036854775807 := by omega
    exact ⟨Ev.step (fun _ => yAX.l0.eq_2 ..) (Ev.pos (by omega) (Ev.pos (by omega) (Ev.pos (by omega) (Ev.bind (l1Num_at _ a0 a1) (Ev.pos s1 (Ev.bind (l1Num_at _ b0 b1) (Ev.pos s2 (Ev.pos s3 (Ev.pos s4 (Ev.pos s5 (Ev.pos s6 p.1))))))))))),
      Ev.step (fun _ => yAV.l0.eq_2 ..) (Ev.pos (by omega) (Ev.pos (by omega) (Ev.pos (by omega) (Ev.have (Itoa_at _ a0 a1) (Ev.pos s1 (Ev.have (Itoa_at _ b0 b1) (Ev.pos s2 (Ev.pos s3 (Ev.pos s4 (Ev.pos s5 (Ev.pos s6 p.2)))))))))))⟩
def textR (l : List NI) : ByteArray × Bool := if tierB l = true then (tierT l, true) else (⟨#[]⟩, false)
theorem TierText_s (l : List NI) (hl : Sized l) : Ev (fun k => yBE.f k l) (textR l) := by
  unfold yBE.f textR
  refine Ev.bind (tiGood_ l hl) (Ev.ite (fun h => ?_) (fun h => ?_))
  · rw [if_pos h]
    exact Ev.bind (text_loops l h l.length 0 (by omega) ⟨#[]⟩ (Nat.le_refl _)).1 (Ev.some rfl)
  · rw [if_neg h]
    exact Ev.some rfl
theorem TierText_i (l : List NI) (hl : Sized l) : Ev (fun k => yBD.f k l) (textR l) := by
  unfold yBD.f textR
  refine Ev.bind (IsTier_ l hl) (Ev.ite (fun h => ?_) (fun h => ?_))
  · rw [if_pos h]
    exact Ev.bind (text_loops l h l.length 0 (by omega) ⟨#[]⟩ (Nat.le_refl _)).2 (Ev.some rfl)
  · rw [if_neg h]
    exact Ev.some rfl
end Go.Proofs.YtglcpghappepaaaGreatDoor.MTierT
end
section
/- Texts cut at a byte, numerals read back: what the printed functions of ParseTier come to at any text, and at the pieces of a tier's text. -/
namespace Go.Proofs.YtglcpghappepaaaGreatDoor.MSplit
open Go.RowKit Go.Proofs.YtglcpghappepaaaGreatDoor.G Go.Proofs.YtglcpghappepaaaGreatDoorW.PrintWords Go.Proofs.YtglcpghappepaaaGreatDoorW.PrintLast Go.Proofs.YtglcpghappepaaaGreatDoor.MPure Go.Proofs.YtglcpghappepaaaGreatDoor.MWord Go.Proofs.YtglcpghappepaaaGreatDoor.MNum Go.Proofs.YtglcpghappepaaaGreatDoor.MSeq

/-! ### lists of MSeq.bytes -/
def cutsS (c : UInt8) : List UInt8 → List UInt8 → List (List UInt8)
  | acc, [] => [acc]
  | acc, x :: xs => if x = c then acc :: cutsS c [] xs else cutsS c (acc ++ [x]) xs
theorem cutsS_ne (c : UInt8) : ∀ l acc : List UInt8, 0 < (cutsS c acc l).length
  | [], _ => Nat.succ_pos 0
  | x :: xs, acc => by
    rw [cutsS]
    split
    · exact Nat.succ_pos _
    · exact cutsS_ne c xs _
theorem cutsS_mem (c : UInt8) : ∀ (l acc : List UInt8) (x : List UInt8), x ∈ cutsS c acc l → x.length ≤ acc.length + l.length
  | [], acc, x, h => by
    rw [cutsS, List.mem_singleton] at h
    rw [h]
    exact Nat.le_add_right _ _
  | y :: l, acc, x, h => by
    rw [cutsS] at h
    rw [List.length_cons]
    split at h
    · rcases List.mem_cons.1 h with h | h
      · rw [h]; omega
      · have := cutsS_mem c l [] x h
        rw [List.length_nil] at this
        omega
    · have := cutsS_mem c l _ x h
      rw [List.length_append, List.length_singleton] at this
      omega
theorem cutsS_app {c : UInt8} (b : List UInt8) : ∀ (a acc : List UInt8), c ∉ a → cutsS c acc (a ++ c :: b) = (acc ++ a) :: cutsS c [] b
  | [], acc, _ => by rw [List.nil_append, cutsS, if_pos rfl, List.append_nil]
  | x :: a, acc, h => by
    have hx : x ≠ c := fun e => h (by rw [e]; exact List.mem_cons_self ..)
    rw [List.cons_append, cutsS, if_neg hx, cutsS_app b a _ (fun e => h (List.mem_cons_of_mem _ e)), List.append_assoc]
    rfl
theorem cutsS_one {c : UInt8} : ∀ (a acc : List UInt8), c ∉ a → cutsS c acc a = [acc ++ a]
  | [], acc, _ => by rw [cutsS, List.append_nil]
  | x :: a, acc, h => by
    have hx : x ≠ c := fun e => h (by rw [e]; exact List.mem_cons_self ..)
    rw [cutsS, if_neg hx, cutsS_one a _ (fun e => h (List.mem_cons_of_mem _ e)), List.append_assoc]
    rfl
theorem cuts_mem (c : UInt8) : ∀ (l acc : List UInt8) (x : List UInt8), x ∈ cuts c acc l → x.length ≤ acc.length + l.length
  | [], acc, x, h => by
    rw [cuts, List.mem_singleton] at h
    rw [h]
    exact Nat.le_add_right _ _
  | y :: l, acc, x, h => by
    rw [cuts] at h
    rw [List.length_cons]
    split at h
    · rcases List.mem_cons.1 h with h | h
      · rw [h, List.length_append, List.length_singleton]; omega
      · have := cuts_mem c l [] x h
        rw [List.length_nil] at this
        omega
    · have := cuts_mem c l _ x h
      rw [List.length_append, List.length_singleton] at this
      omega
theorem cuts_app {c : UInt8} (b : List UInt8) : ∀ (a acc : List UInt8), c ∉ a → cuts c acc (a ++ c :: b) = (acc ++ a ++ [c]) :: cuts c [] b
  | [], acc, _ => by rw [List.nil_append, cuts, if_pos rfl, List.append_nil]
  | x :: a, acc, h => by
    have hx : x ≠ c := fun e => h (by rw [e]; exact List.mem_cons_self ..)
    rw [List.cons_append, cuts, if_neg hx, cuts_app b a _ (fun e => h (List.mem_cons_of_mem _ e)), List.append_assoc acc]
    rfl
theorem index_app {c : UInt8} (b : List UInt8) : ∀ a : List UInt8, c ∉ a → Lib.indexByte (a ++ c :: b) c = (a.length : Int)
  | [], _ => by
    rw [List.nil_append, Lib.indexByte, if_pos (by simp)]
    rfl
  | x :: a, h => by
    have hx : (x == c) = false := by
      rw [beq_eq_false_iff_ne]
      exact fun e => h (by rw [e]; exact List.mem_cons_self ..)
    rw [List.cons_append, Lib.indexByte, hx, index_app b a (fun e => h (List.mem_cons_of_mem _ e)), if_neg (by simp)]
    have : ((a.length : Int) == -1) = false := by
      rw [beq_eq_false_iff_ne]
      omega
    rw [this, if_neg (by simp), List.length_cons]
    omega

/-! ### texts as lists of MSeq.bytes -/
theorem size_list (s : ByteArray) : s.data.toList.length = s.size := by
  rw [Array.length_toList]
  rfl
theorem bytes_size (l : List UInt8) : (MSeq.bytes l).size = l.length := by
  rw [← size_list]
  rfl
theorem bytes_list (l : List UInt8) : (MSeq.bytes l).data.toList = l := rfl
theorem extract_bytes (v : ByteArray) (i j : Nat) : v.extract i j = MSeq.bytes ((v.data.toList.take j).drop i) := by
  rw [← bytes_at (v.extract i j), extract_at]
theorem bt_byte (s : ByteArray) (i : Nat) (h : i < s.data.toList.length) : bt s (i : Int) = ((s.data.toList[i]'h).toNat : Int) := by
  have h2 : i < s.size := by rw [size_list] at h; exact h
  rw [← bt_at s (i : Int) h2, Array.getElem_toList]
  rfl
theorem byte_eq (x c : UInt8) : ((x.toNat : Int) = (c.toNat : Int)) ↔ x = c := by
  constructor
  · intro h
    exact UInt8.toNat_inj.1 (by omega)
  · rintro rfl; rfl

/-! ### the reference's split -/
theorem split_ (s : ByteArray) (hs : s.size ≤ 1048576) (c : UInt8) (z : Int) (hz : z = (c.toNat : Int)) : Ev (fun k => yAb.f k s z) ((cutsS c [] s.data.toList).map MSeq.bytes) := by
  subst hz
  have key : ∀ d i p : Nat, i + d = s.size → p ≤ i → ∀ out : List ByteArray, out.length ≤ i → Ev (fun k => yAb.l0 k s (c.toNat : Int) out (p : Int) (i : Int)) (out ++ (cutsS c ((s.data.toList.take i).drop p) (s.data.toList.drop i)).map MSeq.bytes) := by
    intro d
    induction d with
    | zero =>
      intro i p hi hp out ho
      refine Ev.step (fun _ => yAb.l0.eq_2 ..) (Ev.neg (by omega) (Ev.pos (by omega) (Ev.pos (by omega) (Ev.pos (by omega) (Ev.some ?_)))))
      have hd : s.data.toList.drop i = [] := List.drop_of_length_le (by rw [size_list]; omega)
      rw [hd, cutsS, Int.toNat_natCast, extract_bytes]
      obtain rfl : i = s.size := by omega
      rfl
    | succ d ih =>
      intro i p hi hp out ho
      have hl : i < s.data.toList.length := by rw [size_list]; omega
      have hw : wrap64 ((i : Int) + 1) = ((i + 1 : Nat) : Int) := wrap_succ (by omega)
      rw [List.drop_eq_getElem_cons hl, cutsS]
      refine Ev.step (fun _ => yAb.l0.eq_2 ..) (Ev.pos (by omega) (Ev.pos (by omega) (Ev.ite (fun h => ?_) (fun h => ?_))))
      · rw [bt_byte s i hl, byte_eq] at h
        rw [if_pos h]
        refine Ev.pos (by omega) (Ev.pos (by omega) (Ev.pos (by omega) (Ev.pos (by omega) ?_)))
        rw [hw, Int.toNat_natCast, Int.toNat_natCast, extract_bytes]
        have := ih (i + 1) (i + 1) (by omega) (Nat.le_refl _) (out ++ [MSeq.bytes ((s.data.toList.take i).drop p)]) (by rw [List.length_append, List.length_singleton]; omega)
        have hd : (s.data.toList.take (i + 1)).drop (i + 1) = [] := List.drop_of_length_le (by rw [List.length_take]; omega)
        rw [hd, List.append_assoc] at this
        exact this
      · rw [bt_byte s i hl, byte_eq] at h
        rw [if_neg h]
        rw [hw]
        have := ih (i + 1) p (by omega) (by omega) out (by omega)
        rw [List.take_succ_eq_append_getElem hl, List.drop_append_of_le_length (by rw [List.length_take]; omega)] at this
        exact this
  have h := key s.size 0 0 (by omega) (Nat.le_refl _) [] (Nat.le_refl _)
  exact h

/-! ### the reference's reading of numerals -/
theorem read_loop_any (s : ByteArray) (hs : s.size ≤ 1048576) : ∀ d i : Nat, i + d = s.size → ∀ n : Int, ∃ v, Ev (fun k => yAR.l0 k s n (i : Int)) v := by
  intro d
  induction d with
  | zero =>
    intro i hi n
    exact ⟨n, Ev.step (fun _ => yAR.l0.eq_2 ..) (Ev.neg (by omega) (Ev.some rfl))⟩
  | succ d ih =>
    intro i hi n
    by_cases h1 : bt s (i : Int) < 48
    · exact ⟨-1, Ev.step (fun _ => yAR.l0.eq_2 ..) (Ev.pos (by omega) (Ev.pos (by omega) (Ev.pos h1 (Ev.some rfl))))⟩
    by_cases h2 : bt s (i : Int) > 57
    · exact ⟨-1, Ev.step (fun _ => yAR.l0.eq_2 ..) (Ev.pos (by omega) (Ev.pos (by omega) (Ev.neg h1 (Ev.pos h2 (Ev.some rfl)))))⟩
    obtain ⟨v, hv⟩ := ih (i + 1) (by omega) (wrap64 (wrap64 (10 * n) + (bt s (i : Int) - 48) % 256))
    rw [← wrap_succ (by omega)] at hv
    exact ⟨v, Ev.step (fun _ => yAR.l0.eq_2 ..) (Ev.pos (by omega) (Ev.pos (by omega) (Ev.neg h1 (Ev.neg h2 hv))))⟩
theorem read_j_any (s : ByteArray) (hs : s.size ≤ 1048576) (b : Bool) : ∃ v, Ev (fun k => yAR.j0 k s b) v := by
  cases b with
  | true => exact ⟨-1, Ev.step (fun _ => yAR.j0.eq_2 ..) (Ev.pos rfl (Ev.some rfl))⟩
  | false =>
    obtain ⟨v, hv⟩ := read_loop_any s hs s.size 0 (by omega) 0
    exact ⟨v, Ev.step (fun _ => yAR.j0.eq_2 ..) (Ev.neg (by decide) hv)⟩
theorem read_any (s : ByteArray) (hs : s.size ≤ 1048576) : ∃ v, Ev (fun k => yAR.f k s) v := by
  unfold yAR.f
  obtain ⟨v0, h0⟩ := read_j_any s hs true
  obtain ⟨v1, h1⟩ := read_j_any s hs (decide ((s.size : Int) > 1))
  obtain ⟨v2, h2⟩ := read_j_any s hs false
  by_cases hi : decide (1 ≤ (s.size : Int) ∧ (s.size : Int) ≤ 6) = true
  · have hp := (of_decide_eq_true hi).1
    by_cases hb : bt s 0 = 48
    · exact ⟨v1, Ev.have (l1In_ _ _ _) (Ev.pos hi (Ev.pos (by omega) (Ev.pos hb h1)))⟩
    · exact ⟨v2, Ev.have (l1In_ _ _ _) (Ev.pos hi (Ev.pos (by omega) (Ev.neg hb h2)))⟩
  · exact ⟨v0, Ev.have (l1In_ _ _ _) (Ev.neg hi h0)⟩

/-! ### numerals -/
theorem dec_snoc {l : List UInt8} {acc n d : Nat} {b : UInt8} (h : Lib.decFrom acc l = some n) (hd : Lib.digitVal b = some d) : Lib.decFrom acc (l ++ [b]) = some (n * 10 + d) := by
  have := Lib.decFrom_take (l ++ [b]) l.length acc n b d (by rw [List.take_left' rfl]; exact h) (by simp) hd
  rwa [List.take_of_length_le (by simp)] at this
theorem digit_val (d : Nat) (h : d < 10) : Lib.digitVal (UInt8.ofNat (48 + d)) = some d := by
  have : ∀ d : Fin 10, Lib.digitVal (UInt8.ofNat (48 + d.val)) = some d.val := by decide
  exact this ⟨d, h⟩
theorem dec_digits (u : Nat) : Lib.decFrom 0 (Lib.decDigits u) = some u := by
  induction u using Nat.strongRecOn with
  | ind u ih =>
    rw [Lib.decDigits]
    split
    · rename_i h
      rw [Lib.decFrom, digit_val u h]
      show Lib.decFrom (0 * 10 + u) [] = some u
      rw [Lib.decFrom]
      congr 1
      omega
    · rename_i h
      rw [dec_snoc (ih (u / 10) (by omega)) (digit_val (u % 10) (Nat.mod_lt _ (by decide)))]
      congr 1
      omega
theorem digits_ne (u : Nat) : Lib.decDigits u ≠ [] := by
  rw [Lib.decDigits]
  split
  · simp
  · simp
theorem digits_byte {u : Nat} {b : UInt8} (h : b ∈ Lib.decDigits u) : 48 ≤ b.toNat ∧ b.toNat ≤ 57 := by
  obtain ⟨k, hk⟩ := List.getElem?_of_mem h
  obtain ⟨d, hd⟩ := Lib.digit_of_decFrom _ _ _ (dec_digits u) k b hk
  exact ⟨(Lib.digitVal_eq hd).1, (Lib.digitVal_eq hd).2.1⟩
theorem digits_head (u : Nat) : 1 ≤ u → ∀ c r, Lib.decDigits u = c :: r → c.toNat ≠ 48 := by
  induction u using Nat.strongRecOn with
  | ind u ih =>
    intro hu c r h
    rw [Lib.decDigits] at h
    split at h
    · rename_i h10
      have hv := digit_val u h10
      obtain ⟨rfl, _⟩ := List.cons.inj h
      have := (Lib.digitVal_eq hv).2.2
      omega
    · rename_i h10
      cases hq : Lib.decDigits (u / 10) with
      | nil => exact absurd hq (digits_ne _)
      | cons a t =>
        rw [hq] at h
        obtain ⟨rfl, _⟩ := List.cons.inj h
        exact ih (u / 10) (by omega) (by omega) _ _ hq
theorem num_list (u : Nat) : (num (u : Int)).data.toList = Lib.decDigits u := by rw [num_nat]; rfl
theorem itoa_nat (u : Nat) : Lib.itoa (u : Int) = Lib.decDigits u := by
  unfold Lib.itoa
  rw [if_neg (by omega), Int.toNat_natCast]
theorem atoi_digits (u : Nat) : Lib.atoi (Lib.decDigits u) = some (u : Int) := by
  cases hq : Lib.decDigits u with
  | nil => exact absurd hq (digits_ne _)
  | cons a t =>
    have hb := digits_byte (u := u) (b := a) (by rw [hq]; exact List.mem_cons_self ..)
    have h45 : (a == 45) = false := by
      rw [beq_eq_false_iff_ne]
      rintro rfl
      exact absurd hb.1 (by decide)
    have h43 : (a == 43) = false := by
      rw [beq_eq_false_iff_ne]
      rintro rfl
      exact absurd hb.1 (by decide)
    have hd := dec_digits u
    rw [hq] at hd
    rw [Lib.atoi, h45, h43]
    show (Lib.decNat (a :: t)).map _ = _
    rw [Lib.decNat]
    show (Lib.decFrom 0 (a :: t)).map _ = _
    rw [hd]
    rfl
theorem decimal_num (n : Int) (h0 : 0 ≤ n) (h1 : n < 1000000) : yAe.f (num n) = some (n, true) := by
  have hz := num_size n h0 h1
  obtain ⟨u, rfl⟩ := Int.eq_ofNat_of_zero_le h0
  rw [yAe.f, if_pos (by omega), num_list, yAe.num, Lib.atoiAll_short _ (by rw [← num_list, size_list]; omega), atoi_digits]
  show some (if Lib.itoa (u : Int) = Lib.decDigits u then ((u : Int), true) else (0, false)) = _
  rw [if_pos (itoa_nat u)]
theorem decimal_any (s : ByteArray) (hs : s.size ≤ 1048576) : ∃ p, yAe.f s = some p := ⟨_, if_pos (by omega)⟩
theorem read_nums (m b e : Nat) (hlt : m < 100000000000000000) (e0 : 48 ≤ b) (e1 : b ≤ 57) (e2 : e = b - 48) : wrap64 (10 * (m : Int)) = 10 * (m : Int) ∧ ((b : Int) - 48) % 256 = (e : Int) ∧ wrap64 (10 * (m : Int) + (e : Int)) = ((m * 10 + e : Nat) : Int) ∧ ¬ ((b : Int) < 48) ∧ ¬ ((b : Int) > 57) := by
  refine ⟨wrap_in (by omega) (by omega), by omega, ?_, by omega, by omega⟩
  rw [wrap_in (by omega) (by omega)]
  omega
theorem read_loop_num (s : ByteArray) (h6 : s.size ≤ 6) (n : Nat) (hn : Lib.decFrom 0 s.data.toList = some n) : ∀ d i : Nat, i + d = s.size → ∀ m : Nat, Lib.decFrom 0 (s.data.toList.take i) = some m → Ev (fun k => yAR.l0 k s (m : Int) (i : Int)) (n : Int) := by
  intro d
  induction d with
  | zero =>
    intro i hi m hm
    rw [List.take_of_length_le (by rw [size_list]; omega), hn] at hm
    obtain rfl := Option.some.inj hm
    exact Ev.step (fun _ => yAR.l0.eq_2 ..) (Ev.neg (by omega) (Ev.some rfl))
  | succ d ih =>
    intro i hi m hm
    have hl : i < s.data.toList.length := by rw [size_list]; omega
    obtain ⟨e, he⟩ := Lib.digit_of_decFrom _ _ _ hn i _ (List.getElem?_eq_getElem hl)
    obtain ⟨e0, e1, e2⟩ := Lib.digitVal_eq he
    have hb := bt_byte s i hl
    have hlt := Lib.decFrom_take_lt hm (by omega)
    have p := ih (i + 1) (by omega) (m * 10 + e) (Lib.decFrom_take _ _ _ _ _ _ hm (List.getElem?_eq_getElem hl) he)
    have hq := read_nums m _ e hlt e0 e1 e2
    rw [← hb] at hq
    obtain ⟨w1, w2, w3, w4, w5⟩ := hq
    have u1 : (i : Int) < (s.size : Int) := Int.ofNat_lt.2 (by rw [← size_list]; exact hl)
    refine Ev.step (fun _ => yAR.l0.eq_2 ..) (Ev.pos u1 (Ev.pos (Int.natCast_nonneg i) (Ev.neg w4 (Ev.neg w5 ?_))))
    rw [w1, w2, w3, wrap_succ (by omega)]
    exact p
theorem read_num (n : Int) (h0 : 0 ≤ n) (h1 : n < 1000000) : Ev (fun k => yAR.f k (num n)) n := by
  have hz := num_size n h0 h1
  obtain ⟨u, rfl⟩ := Int.eq_ofNat_of_zero_le h0
  have hl := num_list u
  have hp : 0 < (num (u : Int)).size := by
    rw [← size_list, hl]
    exact List.length_pos_iff.2 (digits_ne u)
  have hd := dec_digits u
  rw [← hl] at hd
  have hq := read_loop_num (num (u : Int)) hz u hd _ 0 (Nat.zero_add _) 0 rfl
  have hj : Ev (fun k => yAR.j0 k (num (u : Int)) false) (u : Int) := Ev.step (fun _ => yAR.j0.eq_2 ..) (Ev.neg (by decide) hq)
  unfold yAR.f
  refine Ev.have (l1In_ _ _ _) (Ev.pos (decide_eq_true (by omega)) (Ev.pos (by omega) (Ev.ite (fun h => ?_) (fun _ => hj))))
  have : u = 0 := by
    apply Classical.byContradiction
    intro hu
    have hb := bt_byte (num (u : Int)) 0 (by rw [size_list]; exact hp)
    cases hc : Lib.decDigits u with
    | nil => exact absurd hc (digits_ne u)
    | cons a t =>
      have hne := digits_head u (by omega) a t hc
      apply hne
      have e : ((num (u : Int)).data.toList)[0]'(by rw [size_list]; exact hp) = a := by
        apply Option.some.inj
        rw [← List.getElem?_eq_getElem, hl, hc]
        rfl
      rw [e] at hb
      have h' : bt (num (u : Int)) ((0 : Nat) : Int) = 48 := h
      omega
  subst this
  have e1 : (num ((0 : Nat) : Int)).size = 1 := by
    rw [← size_list, hl, Lib.decDigits, dif_pos (by decide)]
    rfl
  rw [e1]
  exact hj

/-! ### the library's cuts -/
theorem trim_any (x : ByteArray) (hs : x.size ≤ 1048576) : ∃ t, yAu.f x ⟨#[59]⟩ = some t ∧ t.size ≤ x.size := by
  have e1 : ((⟨#[59]⟩ : ByteArray).size : Int) = 1 := rfl
  unfold yAu.f stringslite_TrimSuffix.f stringslite_HasSuffix.f
  rw [e1]
  by_cases h : (x.size : Int) ≥ 1
  · have w : wrap64 ((x.size : Int) - 1) = (x.size : Int) - 1 := wrap_in (by omega) (by omega)
    rw [w, if_pos h, if_pos (by omega), if_pos (by omega)]
    simp only [Option.bind_some]
    split
    · rw [if_pos (by omega), if_pos (by omega)]
      refine ⟨_, rfl, ?_⟩
      rw [ByteArray.size_extract]
      omega
    · exact ⟨_, rfl, Nat.le_refl _⟩
  · rw [if_neg h]
    exact ⟨x, rfl, Nat.le_refl _⟩
theorem trim_at (b : List UInt8) (hb : b.length ≤ 1048576) : yAu.f (MSeq.bytes (b ++ [59])) ⟨#[59]⟩ = some (MSeq.bytes b) := by
  have e1 : ((⟨#[59]⟩ : ByteArray).size : Int) = 1 := rfl
  have e2 : (MSeq.bytes (b ++ [59])).size = b.length + 1 := by rw [bytes_size]; simp
  have w : wrap64 (((b.length + 1 : Nat) : Int) - 1) = (b.length : Int) := by rw [wrap_in (by omega) (by omega)]; omega
  have q : (((MSeq.bytes (b ++ [59])).extract (b.length : Int).toNat (b.length + 1)).toList == (⟨#[59]⟩ : ByteArray).toList) = true := by
    rw [Int.toNat_natCast, extract_bytes, ByteArray.toList_eq, ByteArray.toList_eq, bytes_list, bytes_list, List.take_of_length_le (by simp), List.drop_left' rfl]
    rfl
  unfold yAu.f stringslite_TrimSuffix.f stringslite_HasSuffix.f
  rw [e1, e2, w, if_pos (by omega), if_pos (by omega), if_pos (by omega), q]
  simp only [Option.bind_some]
  rw [if_pos trivial, if_pos (by omega), if_pos (by omega), Int.toNat_natCast, extract_bytes, bytes_list, List.take_left' rfl]
  rfl
theorem index_lt (l : List UInt8) (c : UInt8) : Lib.indexByte l c = -1 ∨ ∃ j : Nat, Lib.indexByte l c = (j : Int) ∧ j < l.length := by
  rcases cuts_at c l [] with ⟨h, _⟩ | ⟨j, h, h2, _⟩
  · exact Or.inl h
  · exact Or.inr ⟨j, h, h2⟩
theorem cut_any (x : ByteArray) (c : UInt8) (hs : x.size ≤ 1048576) : ∃ r, yAt.f x ⟨#[c]⟩ = some r ∧ r.1.size ≤ x.size ∧ r.2.1.size ≤ x.size := by
  have e1 : (⟨#[c]⟩ : ByteArray).size = 1 := rfl
  have e3 : (⟨#[c]⟩ : ByteArray).data.getD 0 0 = c := rfl
  unfold yAt.f stringslite_Cut.f stringslite_Index.f
  rw [if_pos e1, e3, e1]
  simp only [Option.bind_some]
  rcases index_lt x.data.toList c with h | ⟨j, h, hj⟩
  · rw [h, if_neg (by omega)]
    exact ⟨_, rfl, Nat.le_refl _, Nat.zero_le _⟩
  · rw [size_list] at hj
    have w : wrap64 ((j : Int) + ((1 : Nat) : Int)) = ((j + 1 : Nat) : Int) := wrap_succ (by omega)
    rw [h, w, if_pos (by omega), if_pos (by omega), if_pos (by omega), if_pos (by omega), if_pos (by omega)]
    refine ⟨_, rfl, ?_, ?_⟩
    · show (x.extract 0 _).size ≤ _
      rw [ByteArray.size_extract]
      omega
    · show (x.extract _ x.size).size ≤ _
      rw [ByteArray.size_extract]
      omega
theorem cut_at (a b : List UInt8) (c : UInt8) (hc : c ∉ a) (hs : a.length + b.length ≤ 1048576) : yAt.f (MSeq.bytes (a ++ c :: b)) ⟨#[c]⟩ = some (MSeq.bytes a, MSeq.bytes b, true) := by
  have e1 : (⟨#[c]⟩ : ByteArray).size = 1 := rfl
  have e3 : (⟨#[c]⟩ : ByteArray).data.getD 0 0 = c := rfl
  have e2 : (MSeq.bytes (a ++ c :: b)).size = a.length + (b.length + 1) := by rw [bytes_size]; simp
  have w : wrap64 ((a.length : Int) + ((1 : Nat) : Int)) = ((a.length + 1 : Nat) : Int) := wrap_succ (by omega)
  unfold yAt.f stringslite_Cut.f stringslite_Index.f
  rw [if_pos e1, e3, e1]
  simp only [Option.bind_some]
  rw [bytes_list, index_app b a hc, w, e2, if_pos (by omega), if_pos (by omega), if_pos (by omega), if_pos (by omega), if_pos (by omega)]
  rw [Int.toNat_natCast, Int.toNat_natCast, extract_bytes, extract_bytes, bytes_list, List.take_left' rfl, List.take_of_length_le (by simp)]
  have : (a ++ c :: b).drop (a.length + 1) = b := by
    rw [← List.drop_drop, List.drop_left' rfl]
    rfl
  rw [this]
  rfl
end Go.Proofs.YtglcpghappepaaaGreatDoor.MSplit
end
section
/- ParseTier: what the reference and the program answer, in plain words (out of the pure text of the exact law). No condition. -/
namespace Go.Proofs.YtglcpghappepaaaGreatDoor.MCParseTier
open Go.RowKit Go.Proofs.YtglcpghappepaaaGreatDoor.G Go.Proofs.YtglcpghappepaaaGreatDoorW.PrintWords Go.Proofs.YtglcpghappepaaaGreatDoorW.PrintLast Go.Proofs.YtglcpghappepaaaGreatDoor.MPure Go.Proofs.YtglcpghappepaaaGreatDoor.MWord Go.Proofs.YtglcpghappepaaaGreatDoor.MNum Go.Proofs.YtglcpghappepaaaGreatDoor.MNote Go.Proofs.YtglcpghappepaaaGreatDoor.MTierT Go.Proofs.YtglcpghappepaaaGreatDoor.MSeq Go.Proofs.YtglcpghappepaaaGreatDoor.MSplit

/-! ### a note's text -/
def times (x : NI) : List UInt8 := Lib.itoa x.f0 ++ 45 :: Lib.itoa x.f1
def body (x : NI) : List UInt8 := times x ++ 32 :: x.f2.data.toList
def piecL (x : NI) : List UInt8 := body x ++ [59]
theorem piece_list (x : NI) : (piece x).data.toList = piecL x := by
  unfold piece piecL body times num
  simp [ByteArray.data_append]
theorem text_list : ∀ (l : List NI) (s : ByteArray), (tailT s l).data.toList = s.data.toList ++ (l.map piecL).flatten
  | [], s => by
    rw [List.map_nil, List.flatten_nil, List.append_nil]
    rfl
  | x :: l, s => by
    show (tailT (s ++ piece x) l).data.toList = _
    rw [text_list l, List.map_cons, List.flatten_cons, ByteArray.data_append, Array.toList_append, piece_list, List.append_assoc]
theorem tier_list (l : List NI) : (tierT l).data.toList = (l.map piecL).flatten := text_list l _
theorem tier_notes {l : List NI} (h : tierB l = true) : ∀ x, x ∈ l → noteB x.f0 x.f1 x.f2 = true := by
  intro x hx
  obtain ⟨i, hi, rfl⟩ := List.mem_iff_getElem.1 hx
  have := tier_note h hi
  have e : atN l i = l[i] := by
    unfold atN
    rw [List.getD_eq_getElem?_getD, List.getElem?_eq_getElem hi]
    rfl
  rwa [e] at this
theorem itoa_byte {n : Int} (h0 : 0 ≤ n) {b : UInt8} (h : b ∈ Lib.itoa n) : 48 ≤ b.toNat ∧ b.toNat ≤ 57 := by
  obtain ⟨u, rfl⟩ := Int.eq_ofNat_of_zero_le h0
  rw [itoa_nat] at h
  exact digits_byte h
theorem itoa_size {n : Int} (h0 : 0 ≤ n) (h1 : n < 1000000) : (Lib.itoa n).length ≤ 6 := num_size n h0 h1
theorem gloss_byte {g : ByteArray} (h : wordB capB g = true) {b : UInt8} (hb : b ∈ g.data.toList) : 65 ≤ b.toNat ∧ b.toNat ≤ 90 := by
  obtain ⟨i, hi, rfl⟩ := List.mem_iff_getElem.1 hb
  unfold wordB at h
  have h2 := List.all_eq_true.1 (Bool.and_eq_true_iff.1 h).1 i (List.mem_range.2 (by rw [← size_list]; exact hi))
  rw [bt_byte g i hi] at h2
  have := of_decide_eq_true h2
  omega
theorem note_word {f t : Int} {g : ByteArray} (h : noteB f t g = true) : wordB capB g = true := by
  unfold noteB at h
  exact (Bool.and_eq_true_iff.1 h).2
theorem times_byte {x : NI} (h : noteB x.f0 x.f1 x.f2 = true) {b : UInt8} (hb : b ∈ times x) : 45 ≤ b.toNat ∧ b.toNat ≤ 57 := by
  obtain ⟨⟨a0, _⟩, ⟨b0, _⟩, _⟩ := note_says h
  unfold times at hb
  rcases List.mem_append.1 hb with hb | hb
  · have := itoa_byte a0 hb
    omega
  · rcases List.mem_cons.1 hb with rfl | hb
    · decide
    · have := itoa_byte b0 hb
      omega
theorem no_32 {x : NI} (h : noteB x.f0 x.f1 x.f2 = true) : (32 : UInt8) ∉ times x := fun hb => absurd (times_byte h hb).1 (by decide)
theorem no_45 {n : Int} (h : 0 ≤ n) : (45 : UInt8) ∉ Lib.itoa n := fun hb => absurd (itoa_byte h hb).1 (by decide)
theorem no_59 {x : NI} (h : noteB x.f0 x.f1 x.f2 = true) : (59 : UInt8) ∉ body x := by
  intro hb
  rcases List.mem_append.1 hb with hb | hb
  · exact absurd (times_byte h hb).2 (by decide)
  · rcases List.mem_cons.1 hb with hb | hb
    · exact absurd hb (by decide)
    · exact absurd (gloss_byte (note_word h) hb).1 (by decide)
theorem no_32g {x : NI} (h : noteB x.f0 x.f1 x.f2 = true) : (32 : UInt8) ∉ x.f2.data.toList := fun hb => absurd (gloss_byte (note_word h) hb).1 (by decide)
theorem cuts_text : ∀ l : List NI, (∀ x, x ∈ l → noteB x.f0 x.f1 x.f2 = true) → cuts 59 [] (l.map piecL).flatten = l.map piecL ++ [[]]
  | [], _ => rfl
  | x :: l, h => by
    rw [List.map_cons, List.flatten_cons]
    unfold piecL
    rw [List.append_assoc, List.singleton_append, cuts_app _ _ _ (no_59 (h x (List.mem_cons_self ..)))]
    exact congrArg _ (cuts_text l (fun y hy => h y (List.mem_cons_of_mem _ hy)))
theorem cutsS_text : ∀ l : List NI, (∀ x, x ∈ l → noteB x.f0 x.f1 x.f2 = true) → cutsS 59 [] (l.map piecL).flatten = l.map body ++ [[]]
  | [], _ => rfl
  | x :: l, h => by
    rw [List.map_cons, List.flatten_cons]
    unfold piecL
    rw [List.append_assoc, List.singleton_append, cutsS_app _ _ _ (no_59 (h x (List.mem_cons_self ..)))]
    exact congrArg _ (cutsS_text l (fun y hy => h y (List.mem_cons_of_mem _ hy)))

/-! ### the program's one -/
theorem note_any (x : ByteArray) (hs : x.size ≤ 1048576) : ∃ n, yAC.note x = some n ∧ n.f2.size ≤ x.size := by
  obtain ⟨t, ht, zt⟩ := trim_any x hs
  obtain ⟨c, hc, zc, zg⟩ := cut_any t 32 (by omega)
  obtain ⟨d, hd, zd, ze⟩ := cut_any c.1 45 (by omega)
  obtain ⟨p, hp⟩ := decimal_any d.1 (by omega)
  obtain ⟨q, hq⟩ := decimal_any d.2.1 (by omega)
  refine ⟨⟨p.1, q.1, c.2.1⟩, ?_, Nat.le_trans zg zt⟩
  unfold yAC.note
  rw [ht]
  show (yAt.f t ⟨#[32]⟩).bind _ = _
  rw [hc]
  show (yAt.f c.1 ⟨#[45]⟩).bind _ = _
  rw [hd]
  show (yAe.f d.1).bind _ = _
  rw [hp]
  show (yAe.f d.2.1).bind _ = _
  rw [hq]
  rfl
theorem body_size {x : NI} (h : noteB x.f0 x.f1 x.f2 = true) : (times x).length ≤ 13 ∧ x.f2.data.toList.length ≤ 8 ∧ (body x).length ≤ 22 := by
  obtain ⟨⟨a0, a1⟩, ⟨b0, b1⟩, c⟩ := note_says h
  have ha := itoa_size a0 a1
  have hb := itoa_size b0 b1
  have hg : x.f2.data.toList.length ≤ 8 := by rw [size_list]; exact c
  have ht : (times x).length ≤ 13 := by
    unfold times
    rw [List.length_append, List.length_cons]
    omega
  refine ⟨ht, hg, ?_⟩
  unfold body
  rw [List.length_append, List.length_cons]
  omega
theorem note_at {x : NI} (h : noteB x.f0 x.f1 x.f2 = true) : yAC.note (MSeq.bytes (piecL x)) = some x := by
  obtain ⟨⟨a0, a1⟩, ⟨b0, b1⟩, c⟩ := note_says h
  obtain ⟨z1, z2, z3⟩ := body_size h
  have ha := itoa_size a0 a1
  have hb := itoa_size b0 b1
  have ht : yAu.f (MSeq.bytes (piecL x)) ⟨#[59]⟩ = some (MSeq.bytes (body x)) := trim_at (body x) (by omega)
  have hc : yAt.f (MSeq.bytes (body x)) ⟨#[32]⟩ = some (MSeq.bytes (times x), MSeq.bytes x.f2.data.toList, true) := cut_at (times x) x.f2.data.toList 32 (no_32 h) (by omega)
  have hd : yAt.f (MSeq.bytes (times x)) ⟨#[45]⟩ = some (num x.f0, num x.f1, true) := cut_at (Lib.itoa x.f0) (Lib.itoa x.f1) 45 (no_45 a0) (by omega)
  unfold yAC.note
  rw [ht]
  show (yAt.f (MSeq.bytes (body x)) ⟨#[32]⟩).bind _ = _
  rw [hc]
  show (yAt.f (MSeq.bytes (times x)) ⟨#[45]⟩).bind _ = _
  rw [hd]
  show (yAe.f (num x.f0)).bind _ = _
  rw [decimal_num _ a0 a1]
  show (yAe.f (num x.f1)).bind _ = _
  rw [decimal_num _ b0 b1, bytes_at]
  rfl
theorem outs_any (M : Nat) (hM : M ≤ 1048576) : ∀ (xs : List ByteArray) (out : List NI), (∀ x, x ∈ xs → x.size ≤ M) → out.length ≤ 41 → (∀ n, n ∈ out → n.f2.size ≤ M) → ∃ o, yAC.outs out xs = some o ∧ o.length ≤ 41 ∧ ∀ n, n ∈ o → n.f2.size ≤ M
  | [], out, _, hl, ho => ⟨out, rfl, hl, ho⟩
  | x :: xs, out, hx, hl, ho => by
    rw [yAC.outs, yAC.step]
    by_cases h : x.toList = [] ∨ 40 < out.length
    · rw [if_pos h]
      exact outs_any M hM xs out (fun y hy => hx y (List.mem_cons_of_mem _ hy)) hl ho
    · rw [if_neg h]
      have hz := hx x (List.mem_cons_self ..)
      obtain ⟨n, hn, zn⟩ := note_any x (by omega)
      rw [hn]
      refine outs_any M hM xs (out ++ [n]) (fun y hy => hx y (List.mem_cons_of_mem _ hy)) ?_ ?_
      · rw [List.length_append, List.length_singleton]
        omega
      · intro y hy
        rcases List.mem_append.1 hy with hy | hy
        · exact ho y hy
        · rw [List.mem_singleton.1 hy]
          omega
theorem outs_at : ∀ (l o : List NI), (∀ x, x ∈ l → noteB x.f0 x.f1 x.f2 = true) → o.length + l.length ≤ 40 → yAC.outs o ((l.map piecL ++ [[]]).map MSeq.bytes) = some (o ++ l)
  | [], o, _, _ => by
    show (yAC.step o (MSeq.bytes [])).bind _ = _
    rw [yAC.step, if_pos (Or.inl (by rw [ByteArray.toList_eq]; rfl)), List.append_nil]
    rfl
  | x :: l, o, h, hl => by
    have hx := h x (List.mem_cons_self ..)
    rw [List.length_cons] at hl
    show (yAC.step o (MSeq.bytes (piecL x))).bind (fun q => yAC.outs q ((l.map piecL ++ [[]]).map MSeq.bytes)) = _
    rw [yAC.step, if_neg ?_, note_at hx]
    · show yAC.outs (o ++ [x]) ((l.map piecL ++ [[]]).map MSeq.bytes) = _
      rw [outs_at l (o ++ [x]) (fun y hy => h y (List.mem_cons_of_mem _ hy)) (by rw [List.length_append, List.length_singleton]; omega), List.append_assoc]
      rfl
    · rintro (h2 | h2)
      · rw [ByteArray.toList_eq, bytes_list] at h2
        unfold piecL at h2
        simp at h2
      · omega
/-- What ParseTier answers: the tier whose text it is, or nothing. -/
theorem yBP {l : List NI} {s : ByteArray} (hs : s.size ≤ 1048576) (h : tierB l = true) (ht : tierT l = s) : Ev (fun k => yAC.f k s) (l, true) := by
  have h40 := tier_40 h
  have hn := tier_notes h
  have hz : Sized l := ⟨by omega, fun x hx => by have := (note_says (hn x hx)).2.2; omega⟩
  have ho : yAC.outs [] (MSeq.parts s) = some l := by
    unfold MSeq.parts
    rw [← ht, tier_list, cuts_text l hn]
    exact outs_at l [] hn (by rw [List.length_nil]; omega)
  unfold yAC.f
  refine Ev.pos (by omega) (Ev.have ho (Ev.bind (IsTier_ l hz) (Ev.pos h (Ev.bind (text_loops l h l.length 0 (by omega) ⟨#[]⟩ (Nat.le_refl _)).2 (Ev.pos ?_ (Ev.some rfl))))))
  exact congrArg ByteArray.toList ht
theorem yBR {s : ByteArray} (hs : s.size ≤ 1048576) (hno : ∀ l, tierB l = true → tierT l ≠ s) : Ev (fun k => yAC.f k s) (([] : List NI), false) := by
  obtain ⟨o, ho, hl, hg⟩ := outs_any s.size hs (MSeq.parts s) [] (fun x hx => by
    obtain ⟨y, hy, rfl⟩ := List.mem_map.1 hx
    have := cuts_mem _ _ _ _ hy
    rw [List.length_nil, size_list] at this
    rw [bytes_size]
    omega) (Nat.zero_le _) (fun n hn => nomatch hn)
  have hz : Sized o := ⟨by omega, fun x hx => by have := hg x hx; omega⟩
  unfold yAC.f
  refine Ev.pos (by omega) (Ev.have ho (Ev.bind (IsTier_ o hz) (Ev.ite (fun h => ?_) (fun _ => Ev.some rfl))))
  refine Ev.bind (text_loops o h o.length 0 (by omega) ⟨#[]⟩ (Nat.le_refl _)).2 (Ev.neg ?_ (Ev.some rfl))
  intro e
  apply hno o h
  rw [ByteArray.toList_eq, ByteArray.toList_eq] at e
  have := congrArg MSeq.bytes e
  rw [bytes_at, bytes_at] at this
  exact this

/-! ### the reference's one -/
theorem rd_of {α : Type} (d : α) (l : List α) (i : Nat) (h : i < l.length) : rdOf d l (i : Int) = l[i] := by
  show l.getD i d = _
  rw [List.getD_eq_getElem?_getD, List.getElem?_eq_getElem h]
  rfl
theorem split_mem {s : ByteArray} {c : UInt8} {x : ByteArray} (h : x ∈ (cutsS c [] s.data.toList).map MSeq.bytes) : x.size ≤ s.size := by
  obtain ⟨y, hy, rfl⟩ := List.mem_map.1 h
  have := cutsS_mem _ _ _ _ hy
  rw [List.length_nil, size_list] at this
  rw [bytes_size]
  omega
theorem yBO (s : ByteArray) (hno : ∀ l, tierB l = true → tierT l ≠ s) (o : List NI) (hz : Sized o) (ys : List ByteArray) (i : Nat) (hi : ys.length ≤ i) : Ev (fun k => yAK.l0 k s o ys (ys.length : Int) (i : Int)) (([] : List NI), false) := by
  refine Ev.step (fun _ => yAK.l0.eq_2 ..) (Ev.neg (by omega) (Ev.bind (tiGood_ o hz) (Ev.ite (fun h => ?_) (fun _ => Ev.some rfl))))
  refine Ev.bind (text_loops o h o.length 0 (by omega) ⟨#[]⟩ (Nat.le_refl _)).1 (Ev.neg ?_ (Ev.some rfl))
  intro e
  apply hno o h
  rw [ByteArray.toList_eq, ByteArray.toList_eq] at e
  have := congrArg MSeq.bytes e
  rw [bytes_at, bytes_at] at this
  exact this
theorem yBN (s : ByteArray) (hno : ∀ l, tierB l = true → tierT l ≠ s) (ys : List ByteArray) (hys : ys.length ≤ 41) (hm : ∀ y, y ∈ ys → y.size ≤ 1048576) : ∀ d i : Nat, i + d = ys.length → ∀ o : List NI, o.length ≤ i → (∀ n, n ∈ o → n.f2.size ≤ 1048576) →
    Ev (fun k => yAK.l0 k s o ys (ys.length : Int) (i : Int)) (([] : List NI), false) := by
  intro d
  induction d with
  | zero =>
    intro i hi o ho hg
    exact yBO s hno o ⟨by omega, fun x hx => by have := hg x hx; omega⟩ ys i (by omega)
  | succ d ih =>
    intro i hi o ho hg
    have hy := rd_of ByteArray.empty ys i (by omega)
    have hyz := hm _ (List.getElem_mem (by omega : i < ys.length))
    rw [← hy] at hyz
    generalize hye : rdOf ByteArray.empty ys (i : Int) = y at hy hyz
    have h1 := split_ y hyz 32 32 rfl
    generalize hw : (cutsS 32 [] y.data.toList).map MSeq.bytes = w at h1
    have hw0 : 0 < w.length := by rw [← hw, List.length_map]; exact cutsS_ne _ _ _
    have hwm : ∀ x, x ∈ w → x.size ≤ 1048576 := fun x hx => by
      rw [← hw] at hx
      exact Nat.le_trans (split_mem hx) hyz
    have hz0 : (rdOf ByteArray.empty w ((0 : Nat) : Int)).size ≤ 1048576 := by
      rw [rd_of _ w 0 hw0]
      exact hwm _ (List.getElem_mem hw0)
    have h2 := split_ _ hz0 45 45 rfl
    generalize hv : (cutsS 45 [] (rdOf ByteArray.empty w ((0 : Nat) : Int)).data.toList).map MSeq.bytes = v at h2
    have hvm : ∀ x, x ∈ v → x.size ≤ 1048576 := fun x hx => by
      rw [← hv] at hx
      exact Nat.le_trans (split_mem hx) hz0
    refine Ev.step (fun _ => yAK.l0.eq_2 ..) (Ev.pos (by omega) (Ev.pos (by omega) (Ev.pos (by omega) ?_)))
    rw [hye]
    refine Ev.bind h1 (Ev.pos (by omega) (Ev.bind h2 (Ev.ite (fun hw2 => ?_) (fun _ => ?_))))
    · by_cases hv2 : (v.length : Int) = 2
      · have e : ((v.length : Int) != 2) = false := by rw [hv2]; rfl
        rw [e]
        have v0 : v[0]'(by omega) = rdOf ByteArray.empty v 0 := (rd_of _ v 0 (by omega)).symm
        have v1 : v[1]'(by omega) = rdOf ByteArray.empty v 1 := (rd_of _ v 1 (by omega)).symm
        have w1 : w[1]'(by omega) = rdOf ByteArray.empty w 1 := (rd_of _ w 1 (by omega)).symm
        have z0 := hvm _ (List.getElem_mem (by omega : 0 < v.length))
        have z1 := hvm _ (List.getElem_mem (by omega : 1 < v.length))
        have z2 := hwm _ (List.getElem_mem (by omega : 1 < w.length))
        rw [v0] at z0
        rw [v1] at z1
        rw [w1] at z2
        obtain ⟨a, ha⟩ := read_any _ z0
        obtain ⟨b, hb⟩ := read_any _ z1
        refine Ev.step (fun _ => yAK.j1.eq_2 ..) (Ev.neg (by decide) (Ev.pos (by omega) (Ev.bind ha (Ev.pos (by omega) (Ev.bind hb (Ev.pos (by omega) (Ev.pos (by omega) ?_)))))))
        rw [wrap_succ (by omega)]
        refine ih (i + 1) (by omega) _ (by rw [List.length_append, List.length_singleton]; omega) ?_
        intro n hn
        rcases List.mem_append.1 hn with hn | hn
        · exact hg n hn
        · rw [List.mem_singleton.1 hn]
          exact z2
      · have e : ((v.length : Int) != 2) = true := by rw [bne_iff_ne]; exact hv2
        rw [e]
        exact Ev.step (fun _ => yAK.j1.eq_2 ..) (Ev.pos rfl (Ev.some rfl))
    · exact Ev.step (fun _ => yAK.j1.eq_2 ..) (Ev.pos rfl (Ev.some rfl))
theorem yBL (n : Nat) (h : 0 < n) (h2 : n ≤ 1048577) : (wrap64 ((n : Int) - 1)) = ((n - 1 : Nat) : Int) := wrap_pred h (by omega)
theorem cutsS_len (c : UInt8) : ∀ l acc : List UInt8, (cutsS c acc l).length ≤ l.length + 1
  | [], _ => Nat.le_refl _
  | x :: xs, acc => by
    rw [cutsS, List.length_cons]
    split
    · have := cutsS_len c xs []
      rw [List.length_cons]
      omega
    · have := cutsS_len c xs (acc ++ [x])
      omega
theorem yBS {s : ByteArray} (hs : s.size ≤ 1048576) (hno : ∀ l, tierB l = true → tierT l ≠ s) : Ev (fun k => yAK.f k s) (([] : List NI), false) := by
  have h0 := split_ s hs 59 59 rfl
  have hp := cutsS_ne 59 s.data.toList []
  have hp2 := cutsS_len 59 s.data.toList []
  rw [size_list] at hp2
  have hm : ∀ x, x ∈ (cutsS 59 [] s.data.toList).map MSeq.bytes → x.size ≤ 1048576 := fun x hx => Nat.le_trans (split_mem hx) hs
  rw [← List.length_map (f := MSeq.bytes)] at hp hp2
  generalize (cutsS 59 [] s.data.toList).map MSeq.bytes = ps at h0 hp hp2 hm
  unfold yAK.f
  refine Ev.bind h0 (Ev.ite (fun _ => Ev.some rfl) (fun h => ?_))
  rw [yBL ps.length hp (by omega)]
  refine Ev.pos (by omega) (Ev.pos (by omega) (Ev.have rfl ?_))
  rw [Int.toNat_natCast]
  exact yBN s hno (ps.take (ps.length - 1)) (by rw [List.length_take]; omega) (fun y hy => hm y (List.mem_of_mem_take hy)) _ 0 (Nat.zero_add _) [] (Nat.le_refl _) (fun n hn => nomatch hn)
theorem two_pos (a b : ByteArray) : (0 : Int) < (([a, b] : List ByteArray).length : Int) := by
  show (0 : Int) < 2
  decide
theorem two_one (a b : ByteArray) : (1 : Int) < (([a, b] : List ByteArray).length : Int) := by
  show (1 : Int) < 2
  decide
theorem two_ne (a b : ByteArray) : ¬ ((([a, b] : List ByteArray).length : Int) != 2) = true := by
  show ¬ ((2 : Int) != 2) = true
  decide
theorem yBM (s : ByteArray) (l : List NI) (h : tierB l = true) (ht : tierT l = s) : ∀ d i : Nat, i + d = l.length →
    Ev (fun k => yAK.l0 k s (l.take i) ((l.map body).map MSeq.bytes) (((l.map body).map MSeq.bytes).length : Int) (i : Int)) (l, true) := by
  have h40 := tier_40 h
  have hn := tier_notes h
  have hlen : ((l.map body).map MSeq.bytes).length = l.length := by rw [List.length_map, List.length_map]
  intro d
  induction d with
  | zero =>
    intro i hi
    rw [List.take_of_length_le (by omega)]
    refine Ev.step (fun _ => yAK.l0.eq_2 ..) (Ev.neg (by omega) (Ev.bind (tiGood_ l ⟨by omega, fun x hx => by have := (note_says (hn x hx)).2.2; omega⟩) (Ev.pos h ?_)))
    refine Ev.bind (text_loops l h l.length 0 (by omega) ⟨#[]⟩ (Nat.le_refl _)).1 (Ev.pos ?_ (Ev.some rfl))
    exact congrArg ByteArray.toList ht
  | succ d ih =>
    intro i hi
    have hil : i < l.length := by omega
    have hx := hn _ (List.getElem_mem hil)
    have ey : rdOf ByteArray.empty ((l.map body).map MSeq.bytes) (i : Int) = MSeq.bytes (body l[i]) := by
      rw [rd_of _ _ i (by omega), List.getElem_map, List.getElem_map]
    have p := ih (i + 1) (by omega)
    rw [List.take_succ_eq_append_getElem hil] at p
    generalize l[i] = x at hx ey p
    obtain ⟨⟨a0, a1⟩, ⟨b0, b1⟩, c⟩ := note_says hx
    obtain ⟨z1, z2, z3⟩ := body_size hx
    have h1 := split_ (MSeq.bytes (body x)) (by rw [bytes_size]; omega) 32 32 rfl
    have e1 : (cutsS 32 [] (MSeq.bytes (body x)).data.toList).map MSeq.bytes = [MSeq.bytes (times x), x.f2] := by
      rw [bytes_list]
      unfold body
      rw [cutsS_app _ _ _ (no_32 hx), cutsS_one _ _ (no_32g hx)]
      show [MSeq.bytes (times x), MSeq.bytes x.f2.data.toList] = _
      rw [bytes_at]
    rw [e1] at h1
    have h2 := split_ (MSeq.bytes (times x)) (by rw [bytes_size]; omega) 45 45 rfl
    have e2 : (cutsS 45 [] (MSeq.bytes (times x)).data.toList).map MSeq.bytes = [num x.f0, num x.f1] := by
      rw [bytes_list]
      unfold times
      rw [cutsS_app _ _ _ (no_45 a0), cutsS_one _ _ (no_45 b0)]
      rfl
    rw [e2] at h2
    refine Ev.step (fun _ => yAK.l0.eq_2 ..) (Ev.pos (by omega) (Ev.pos (by omega) (Ev.pos (by omega) ?_)))
    rw [ey]
    refine Ev.bind h1 (Ev.pos (two_pos _ _) (Ev.bind h2 (Ev.pos rfl ?_)))
    have ht : (l.take i).length ≤ 40 := by rw [List.length_take]; omega
    refine Ev.step (fun _ => yAK.j1.eq_2 ..) (Ev.neg (two_ne _ _) (Ev.pos (two_pos _ _) (Ev.bind (read_num _ a0 a1) (Ev.pos (two_one _ _) (Ev.bind (read_num _ b0 b1) (Ev.pos (two_one _ _) (Ev.pos (by omega) ?_)))))))
    rw [wrap_succ (by omega)]
    exact p
theorem yBQ {l : List NI} {s : ByteArray} (hs : s.size ≤ 1048576) (h : tierB l = true) (ht : tierT l = s) : Ev (fun k => yAK.f k s) (l, true) := by
  have h40 := tier_40 h
  have h0 := split_ s hs 59 59 rfl
  have e : (cutsS 59 [] s.data.toList).map MSeq.bytes = (l.map body).map MSeq.bytes ++ [MSeq.bytes []] := by
    rw [← ht, tier_list, cutsS_text l (tier_notes h), List.map_append]
    rfl
  rw [e] at h0
  have hlen : ((l.map body).map MSeq.bytes ++ [MSeq.bytes []]).length = l.length + 1 := by rw [List.length_append, List.length_map, List.length_map]; rfl
  have hlen2 : ((l.map body).map MSeq.bytes).length = l.length := by rw [List.length_map, List.length_map]
  have p := yBM s l h ht l.length 0 (Nat.zero_add _)
  unfold yAK.f
  refine Ev.bind h0 ?_
  rw [hlen, yBL (l.length + 1) (Nat.succ_pos _) (by omega)]
  refine Ev.neg (by omega) (Ev.pos (by omega) (Ev.pos (by omega) (Ev.have rfl ?_)))
  rw [Int.toNat_natCast, Nat.add_sub_cancel, List.take_left' hlen2]
  exact p

/-! ### the law -/
end Go.Proofs.YtglcpghappepaaaGreatDoor.MCParseTier
end
section
/- What the laws draw: every cursor's function answers, and what it answers. No condition. -/
namespace Go.Proofs.YtglcpghappepaaaGreatDoor.MDraw
open Go.RowKit Go.Proofs.YtglcpghappepaaaGreatDoor.G Go.Proofs.YtglcpghappepaaaGreatDoorW.PrintWords Go.Proofs.YtglcpghappepaaaGreatDoorW.PrintLast Go.Proofs.YtglcpghappepaaaGreatDoor.MPure

/-- The bytes that come in. -/
def Bytes (s : List Int) : Prop := ∀ a, a ∈ s → (Lit.int .u8 a).wf = true
theorem Bytes.at {s : List Int} (h : Bytes s) (i : Int) (h0 : 0 ≤ i) (h1 : i < (s.length : Int)) : 0 ≤ rd s i ∧ rd s i ≤ 255 := by
  have hm : rd s i ∈ s := by
    show s.getD i.toNat 0 ∈ s
    rw [List.getD_eq_getElem?_getD, List.getElem?_eq_getElem (show i.toNat < s.length by omega)]
    exact List.getElem_mem _
  have := h _ hm
  simp only [Lit.wf, Bool.and_eq_true, decide_eq_true_eq] at this
  exact this
theorem and_255 (x : Int) : 0 ≤ Go.bits .and .u64 x 255 ∧ Go.bits .and .u64 x 255 ≤ 255 := by
  have h : ((BitVec.ofInt IntKind.u64.bits x) &&& (BitVec.ofInt IntKind.u64.bits 255)).toNat ≤ 255 := by
    rw [BitVec.toNat_and]
    exact Nat.le_trans Nat.and_le_right (by decide)
  unfold Go.bits
  simp only
  generalize ((BitVec.ofInt IntKind.u64.bits x) &&& (BitVec.ofInt IntKind.u64.bits 255)).toNat = n at h
  have e : IntKind.u64.wrap (n : Int) = (n : Int) := by
    have h1 : (0 : Int) ≤ n := by omega
    have h2 : (n : Int) ≤ 255 := by omega
    generalize (n : Int) = z at h1 h2
    unfold IntKind.wrap
    simp [IntKind.signed, IntKind.bits]
    omega
  rw [e]
  omega
theorem next_ (s : List Int) (hs : Bytes s) (a d : Int) (h0 : 0 ≤ a) (h1 : a ≤ 1000000000000000) : ∃ v d', yAy.f s a d = some (v, a + 1, d') ∧ 0 ≤ v ∧ v ≤ 255 := by
  have hw : wrap64 (a + 1) = a + 1 := wrap_in (by omega) (by omega)
  unfold yAy.f
  rw [hw]
  split
  · rename_i h
    have hr := hs.at a h0 h
    have hv : wrap64 (rd s a) = rd s a := wrap_in (by omega) (by omega)
    rw [if_pos (by omega), hv]
    exact ⟨_, _, rfl, hr.1, hr.2⟩
  · split
    · exact ⟨_, _, rfl, by omega, by omega⟩
    · have hb := and_255 ((IntKind.u64.wrap ((IntKind.u64.wrap ((IntKind.u64.wrap (d * 6364136223846793005)) + 0)) + 1442695040888963407)) / 1099511627776)
      refine ⟨_, _, rfl, ?_, ?_⟩
      · rw [wrap_in (by omega) (by omega)]; exact hb.1
      · rw [wrap_in (by omega) (by omega)]; exact hb.2
theorem pick_ (s : List Int) (hs : Bytes s) (a d n : Int) (h0 : 0 ≤ a) (h1 : a ≤ 1000000000000) : ∃ v a' d', yAF.f s a d n = some (v, a', d') ∧ 0 ≤ v ∧ v ≤ 65535 ∧ (1 ≤ n → v < n) ∧ a ≤ a' ∧ a' ≤ a + 2 := by
  unfold yAF.f
  split
  · exact ⟨_, _, _, rfl, by omega, by omega, fun h => by omega, by omega, by omega⟩
  · rename_i hn
    obtain ⟨v, d1, e1, v0, v1⟩ := next_ s hs a d h0 (by omega)
    rw [e1]
    simp only [Option.bind_some]
    split
    · obtain ⟨u, d2, e2, u0, u1⟩ := next_ s hs (a + 1) d1 (by omega) (by omega)
      rw [e2]
      simp only [Option.bind_some]
      rw [if_neg (by omega), wrap_in (show -9223372036854775808 ≤ v * 256 by omega) (by omega), wrap_in (show -9223372036854775808 ≤ v * 256 + u by omega) (by omega)]
      have t0 := Int.tmod_nonneg n (show 0 ≤ v * 256 + u by omega)
      have t1 := Int.tmod_lt_of_pos (v * 256 + u) (show 0 < n by omega)
      have t2 : Int.tmod (v * 256 + u) n ≤ v * 256 + u := by
        rw [Int.tmod_eq_emod_of_nonneg (by omega)]
        have := Int.mul_ediv_add_emod (v * 256 + u) n
        have h3 : 0 ≤ (v * 256 + u) / n := Int.ediv_nonneg (by omega) (by omega)
        have h4 : 0 ≤ n * ((v * 256 + u) / n) := Int.mul_nonneg (by omega) h3
        omega
      exact ⟨_, _, _, rfl, t0, by omega, fun _ => t1, by omega, by omega⟩
    · rw [if_neg (by omega)]
      have t0 := Int.tmod_nonneg n v0
      have t1 := Int.tmod_lt_of_pos v (show 0 < n by omega)
      have t2 : Int.tmod v n ≤ v := by
        rw [Int.tmod_eq_emod_of_nonneg v0]
        have := Int.mul_ediv_add_emod v n
        have h3 : 0 ≤ v / n := Int.ediv_nonneg v0 (by omega)
        have h4 : 0 ≤ n * (v / n) := Int.mul_nonneg (by omega) h3
        omega
      exact ⟨_, _, _, rfl, t0, by omega, fun _ => t1, by omega, by omega⟩
theorem one_ (s : List Int) (hs : Bytes s) (a d n : Int) (h0 : 0 ≤ a) (h1 : a ≤ 1000000000000) : ∃ v a' d', yAw.f s a d n = some (v, a', d') ∧ a ≤ a' ∧ a' ≤ a + 2 := by
  obtain ⟨v, a', d', e, _, _, _, g1, g2⟩ := pick_ s hs a d n h0 h1
  unfold yAw.f
  rw [e]
  exact ⟨_, _, _, rfl, g1, g2⟩
theorem among_ (s : List Int) (hs : Bytes s) (a d : Int) (l : List Int) (hl : 0 < l.length) (h0 : 0 ≤ a) (h1 : a ≤ 1000000000000) : ∃ v a' d', yAI.f s a d l = some (v, a', d') ∧ v ∈ l ∧ a ≤ a' ∧ a' ≤ a + 2 := by
  obtain ⟨v, a', d', e, v0, _, v1, g1, g2⟩ := pick_ s hs a d (l.length : Int) h0 h1
  have hv := v1 (by omega)
  unfold yAI.f
  rw [e]
  simp only [Option.bind_some]
  rw [if_pos v0, if_pos hv]
  refine ⟨_, _, _, rfl, ?_, g1, g2⟩
  show l.getD v.toNat 0 ∈ l
  rw [List.getD_eq_getElem?_getD, List.getElem?_eq_getElem (show v.toNat < l.length by omega)]
  exact List.getElem_mem _
theorem of_ (s : List Int) (hs : Bytes s) (a d : Int) (l : List ByteArray) (hl : 0 < l.length) (h0 : 0 ≤ a) (h1 : a ≤ 1000000000000) : ∃ v a' d', yAc.f s a d l = some (v, a', d') ∧ v ∈ l ∧ a ≤ a' ∧ a' ≤ a + 2 := by
  obtain ⟨v, a', d', e, v0, _, v1, g1, g2⟩ := pick_ s hs a d (l.length : Int) h0 h1
  have hv := v1 (by omega)
  unfold yAc.f
  rw [e]
  simp only [Option.bind_some]
  rw [if_pos v0, if_pos hv]
  refine ⟨_, _, _, rfl, ?_, g1, g2⟩
  show l.getD v.toNat ByteArray.empty ∈ l
  rw [List.getD_eq_getElem?_getD, List.getElem?_eq_getElem (show v.toNat < l.length by omega)]
  exact List.getElem_mem _
/-- A number of the machine. -/
def I64 (z : Int) : Prop := -9223372036854775808 ≤ z ∧ z ≤ 9223372036854775807
theorem wrap_i64 (z : Int) : I64 (wrap64 z) := by unfold I64 wrap64; omega
end Go.Proofs.YtglcpghappepaaaGreatDoor.MDraw
end
section
/- The drawn tiers: every draw answers with notes that are sized. No condition. -/
namespace Go.Proofs.YtglcpghappepaaaGreatDoor.MDrawT
open Go.RowKit Go.Proofs.YtglcpghappepaaaGreatDoor.G Go.Proofs.YtglcpghappepaaaGreatDoorW.PrintWords Go.Proofs.YtglcpghappepaaaGreatDoorW.PrintLast Go.Proofs.YtglcpghappepaaaGreatDoor.MPure Go.Proofs.YtglcpghappepaaaGreatDoor.MWord Go.Proofs.YtglcpghappepaaaGreatDoor.MNote Go.Proofs.YtglcpghappepaaaGreatDoor.MDraw

theorem note_ (s : List Int) (hs : Bytes s) (a d f : Int) (h0 : 0 ≤ a) (h1 : a ≤ 100000000000) : ∃ x y g a' d', yAx.f s a d f = some (x, y, g, a', d') ∧ g.size ≤ 100 ∧ a ≤ a' ∧ a' ≤ a + 10 := by
  obtain ⟨v1, a1, d1, e1, m1, p1, q1⟩ := among_ s hs a d [1, 5, 8, 20] (by decide) h0 (by omega)
  obtain ⟨v2, a2, d2, e2, m2, p2, q2⟩ := of_ s hs a1 d1 [(⟨#[72, 79, 85, 83, 69]⟩ : ByteArray), (⟨#[71, 79]⟩ : ByteArray), (⟨#[73]⟩ : ByteArray), (⟨#[89, 79, 85]⟩ : ByteArray), (⟨#[71, 79]⟩ : ByteArray), (⟨#[71, 73, 86, 69]⟩ : ByteArray), (⟨#[66, 79, 79, 75]⟩ : ByteArray)] (by decide) (by omega) (by omega)
  obtain ⟨v3, a3, d3, e3, _, _, _, p3, q3⟩ := pick_ s hs a2 d2 60 (by omega) (by omega)
  have hg : v2.size ≤ 100 := by
    simp only [List.mem_cons, List.not_mem_nil, or_false] at m2
    rcases m2 with rfl | rfl | rfl | rfl | rfl | rfl | rfl <;> decide
  unfold yAx.f
  rw [e1]; simp only [Option.bind_some]; rw [e2]; simp only [Option.bind_some]; rw [e3]; simp only [Option.bind_some]
  split
  · obtain ⟨v4, a4, d4, e4, m4, p4, q4⟩ := among_ s hs a3 d3 [f, wrap64 (f - 1), 100000] (by simp) (by omega) (by omega)
    rw [e4]
    exact ⟨_, _, _, _, _, rfl, hg, by show a ≤ a4; omega, by show a4 ≤ a + 10; omega⟩
  · split
    · obtain ⟨v4, a4, d4, e4, m4, p4, q4⟩ := of_ s hs a3 d3 [(⟨#[]⟩ : ByteArray), (⟨#[103, 111]⟩ : ByteArray), (⟨#[78, 73, 78, 69, 76, 69, 84, 84, 82]⟩ : ByteArray)] (by decide) (by omega) (by omega)
      rw [e4]
      refine ⟨_, _, _, _, _, rfl, ?_, by show a ≤ a4; omega, by show a4 ≤ a + 10; omega⟩
      simp only [List.mem_cons, List.not_mem_nil, or_false] at m4
      show v4.size ≤ 100
      rcases m4 with rfl | rfl | rfl <;> decide
    · split
      · obtain ⟨v4, a4, d4, e4, m4, p4, q4⟩ := among_ s hs a3 d3 [(-1), (-9223372036854775808)] (by decide) (by omega) (by omega)
        rw [e4]
        exact ⟨_, _, _, _, _, rfl, hg, by show a ≤ a4; omega, by show a4 ≤ a + 10; omega⟩
      · exact ⟨_, _, _, _, _, rfl, hg, by show a ≤ a3; omega, by show a3 ≤ a + 10; omega⟩
/-- Notes with short texts. -/
def Short (l : List NI) : Prop := ∀ x, x ∈ l → x.f2.size ≤ 100
theorem Short.sized {l : List NI} (h : Short l) (hl : l.length ≤ 100) : Sized l := ⟨by omega, fun x hx => Nat.le_trans (h x hx) (by decide)⟩
theorem Short.snoc {l : List NI} (h : Short l) {x : NI} (hx : x.f2.size ≤ 100) : Short (l ++ [x]) := fun y hy => by
  rcases List.mem_append.1 hy with hy | hy
  · exact h y hy
  · obtain rfl := List.mem_singleton.1 hy; exact hx
theorem most_ (a b : Int) : ∃ v, yAh.f a b = some v := by
  unfold yAh.f
  split <;> exact ⟨_, rfl⟩
theorem least_ (a b : Int) : ∃ v, yAf.f a b = some v := by
  unfold yAf.f
  split <;> exact ⟨_, rfl⟩
theorem tier_loop (s : List Int) (hs : Bytes s) : ∀ (n : Nat) (l : List NI) (f m a d : Int), l.length + n = m.toNat → m ≤ 60 → Short l → 0 ≤ a → a + 20 * n ≤ 10000000000 → ∃ r a' d', Ev (fun k => yAG.l0 k l f m s a d) (r, a', d') ∧ r.length ≤ l.length + n ∧ Short r ∧ a ≤ a' ∧ a' ≤ a + 20 * n := by
  intro n
  induction n with
  | zero =>
    intro l f m a d hl hm hS h0 h1
    exact ⟨l, a, d, Ev.step (fun _ => yAG.l0.eq_2 ..) (Ev.neg (by omega) (Ev.some rfl)), by omega, hS, by omega, by omega⟩
  | succ n ih =>
    intro l f m a d hl hm hS h0 h1
    obtain ⟨x, y, g, a1, d1, e1, hg, p1, q1⟩ := note_ s hs a d f h0 (by omega)
    have step : ∀ (b : Bool) (a2 d2 : Int), a1 ≤ a2 → a2 ≤ a1 + 2 → (b = true → 0 < l.length) → ∃ r a' d', Ev (fun k => yAG.j2 k l m (l.length : Int) b s a2 d2 x y g) (r, a', d') ∧ r.length ≤ l.length + (n + 1) ∧ Short r ∧ a ≤ a' ∧ a' ≤ a + 20 * ((n + 1 : Nat) : Int) := by
      intro b a2 d2 pa qa hb
      obtain ⟨v5, e5⟩ := most_ 0 y
      obtain ⟨v6, e6⟩ := least_ 90000 v5
      obtain ⟨v7, a7, d7, e7, _, p7, q7⟩ := among_ s hs a2 d2 [0, 0, 2, 5] (by decide) (by omega) (by omega)
      cases b with
      | true =>
        have hpos := hb rfl
        have hp := wrap_pred (i := l.length) hpos (by omega)
        have hmem : rd_T25 l ((l.length - 1 : Nat) : Int) ∈ l := by
          show l.getD (l.length - 1) z25 ∈ l
          rw [List.getD_eq_getElem?_getD, List.getElem?_eq_getElem (show l.length - 1 < l.length by omega)]
          exact List.getElem_mem _
        have hsm := hS _ hmem
        obtain ⟨r, a', d', er, hr, hSr, pr, qr⟩ := ih (l ++ [⟨x, y, (rd_T25 l ((l.length - 1 : Nat) : Int)).f2⟩]) (wrap64 (v6 + v7)) m a7 d7 (by rw [List.length_append]; show l.length + 1 + n = _; omega) hm (hS.snoc hsm) (by omega) (by omega)
        refine ⟨r, a', d', Ev.step (fun _ => yAG.j2.eq_2 ..) (Ev.pos rfl ?_), by rw [List.length_append] at hr; show r.length ≤ _; have : ([⟨x, y, (rd_T25 l ((l.length - 1 : Nat) : Int)).f2⟩] : List NI).length = 1 := rfl; omega, hSr, by omega, by omega⟩
        rw [hp]
        exact Ev.pos (by omega) (Ev.pos (by omega) (Ev.pos (by omega) (Ev.have e5 (Ev.have e6 (Ev.have e7 er)))))
      | false =>
        obtain ⟨r, a', d', er, hr, hSr, pr, qr⟩ := ih (l ++ [⟨x, y, g⟩]) (wrap64 (v6 + v7)) m a7 d7 (by rw [List.length_append]; show l.length + 1 + n = _; omega) hm (hS.snoc hg) (by omega) (by omega)
        refine ⟨r, a', d', Ev.step (fun _ => yAG.j2.eq_2 ..) (Ev.neg (by decide) ?_), by rw [List.length_append] at hr; have : ([⟨x, y, g⟩] : List NI).length = 1 := rfl; omega, hSr, by omega, by omega⟩
        exact Ev.pos (by omega) (Ev.have e5 (Ev.have e6 (Ev.have e7 er)))
    by_cases hpos : 0 < l.length
    · obtain ⟨b, a2, d2, e2, p2, q2⟩ := one_ s hs a1 d1 4 (by omega) (by omega)
      obtain ⟨r, a', d', er, hr, hSr, pr, qr⟩ := step b a2 d2 p2 q2 (fun _ => hpos)
      exact ⟨r, a', d', Ev.step (fun _ => yAG.l0.eq_2 ..) (Ev.pos (by omega) (Ev.have e1 (Ev.pos (by omega) (Ev.have e2 er)))), hr, hSr, pr, qr⟩
    · obtain ⟨r, a', d', er, hr, hSr, pr, qr⟩ := step false a1 d1 (by omega) (by omega) (fun h => (nomatch h))
      exact ⟨r, a', d', Ev.step (fun _ => yAG.l0.eq_2 ..) (Ev.pos (by omega) (Ev.have e1 (Ev.neg (by omega) er))), hr, hSr, pr, qr⟩
/-- A drawn tier: at most 41 notes with short texts. -/
theorem tier_ (s : List Int) (hs : Bytes s) (a d : Int) (h0 : 0 ≤ a) (h1 : a ≤ 1000000000) : ∃ r a' d', Ev (fun k => yAG.f k s a d) (r, a', d') ∧ r.length ≤ 60 ∧ Short r ∧ a ≤ a' ∧ a' ≤ a + 2000 := by
  obtain ⟨v1, a1, d1, e1, _, _, _, p1, q1⟩ := pick_ s hs a d 10 h0 (by omega)
  obtain ⟨v2, a2, d2, e2, v20, _, v21, p2, q2⟩ := pick_ s hs a1 d1 8 (by omega) (by omega)
  obtain ⟨b, a3, d3, e3, p3, q3⟩ := one_ s hs a2 d2 12 (by omega) (by omega)
  have hv2 := v21 (by omega)
  have go : ∀ (m a4 d4 : Int), 0 ≤ m → m ≤ 60 → a ≤ a4 → a4 ≤ a + 10 → ∃ r a' d', Ev (fun k => yAG.j0 k [] v1 m s a4 d4) (r, a', d') ∧ r.length ≤ 60 ∧ Short r ∧ a ≤ a' ∧ a' ≤ a + 2000 := by
    intro m a4 d4 hm0 hm pa qa
    obtain ⟨r, a', d', er, hr, hSr, pr, qr⟩ := tier_loop s hs m.toNat [] v1 m a4 d4 (by simp) hm (fun x hx => (nomatch hx)) (by omega) (by omega)
    exact ⟨r, a', d', Ev.step (fun _ => yAG.j0.eq_2 ..) er, by have : ([] : List NI).length = 0 := rfl; omega, hSr, by omega, by omega⟩
  cases b with
  | true =>
    obtain ⟨v4, a4, d4, e4, v40, _, v41, p4, q4⟩ := pick_ s hs a3 d3 2 (by omega) (by omega)
    have hv4 := v41 (by omega)
    obtain ⟨r, a', d', er, hr, hSr, pr, qr⟩ := go (wrap64 (40 + v4)) a4 d4 (by rw [wrap_in (by omega) (by omega)]; omega) (by rw [wrap_in (by omega) (by omega)]; omega) (by omega) (by omega)
    refine ⟨r, a', d', ?_, hr, hSr, pr, qr⟩
    unfold yAG.f
    exact Ev.have e1 (Ev.have e2 (Ev.have e3 (Ev.pos rfl (Ev.have e4 er))))
  | false =>
    obtain ⟨r, a', d', er, hr, hSr, pr, qr⟩ := go v2 a3 d3 v20 (by omega) (by omega) (by omega)
    refine ⟨r, a', d', ?_, hr, hSr, pr, qr⟩
    unfold yAG.f
    exact Ev.have e1 (Ev.have e2 (Ev.have e3 (Ev.neg (show ¬ false = true by decide) er)))
end Go.Proofs.YtglcpghappepaaaGreatDoor.MDrawT
end
section
/- What is drawn for the tiers' law: tiers, notes, frames and texts, each of a size that is known. No condition but that the code is bytes. -/
namespace Go.Proofs.YtglcpghappepaaaGreatDoor.MDrawS
open Go.RowKit Go.Proofs.YtglcpghappepaaaGreatDoor.G Go.Proofs.YtglcpghappepaaaGreatDoorW.PrintWords Go.Proofs.YtglcpghappepaaaGreatDoorW.PrintLast Go.Proofs.YtglcpghappepaaaGreatDoor.MPure Go.Proofs.YtglcpghappepaaaGreatDoor.MWord Go.Proofs.YtglcpghappepaaaGreatDoor.MNote Go.Proofs.YtglcpghappepaaaGreatDoor.MDraw Go.Proofs.YtglcpghappepaaaGreatDoor.MDrawT Go.Proofs.YtglcpghappepaaaGreatDoor.MTierT

theorem frame_ (s : List Int) (hs : Bytes s) (a d : Int) (h0 : 0 ≤ a) (h1 : a ≤ 100000000000) : ∃ v a' d', yAz.f s a d = some (v, a', d') ∧ a ≤ a' ∧ a' ≤ a + 10 := by
  obtain ⟨v1, a1, d1, e1, _, _, _, p1, q1⟩ := pick_ s hs a d 60 h0 (by omega)
  obtain ⟨v2, a2, d2, e2, _, p2, q2⟩ := among_ s hs a1 d1 [15, (-1), 100000] (by decide) (by omega) (by omega)
  obtain ⟨v3, a3, d3, e3, _, p3, q3⟩ := among_ s hs a2 d2 [0, 5, 10, 12, v1, 99999, v2] (by simp) (by omega) (by omega)
  unfold yAz.f
  rw [e1]; simp only [Option.bind_some]; rw [e2]; simp only [Option.bind_some]; rw [e3]
  exact ⟨_, _, _, rfl, by show a ≤ a3; omega, by show a3 ≤ a + 10; omega⟩
theorem DrawCutTier_ (s : List Int) (hs : Bytes s) : ∃ u a b, Ev (fun k => yBA.f k s) (u, a, b) ∧ u.length ≤ 60 ∧ Short u := by
  obtain ⟨v1, a1, d1, e1, p1, q1⟩ := frame_ s hs 0 0 (by omega) (by omega)
  obtain ⟨u, a2, d2, e2, hl, hS, p2, q2⟩ := tier_ s hs a1 d1 (by omega) (by omega)
  obtain ⟨v3, a3, d3, e3, p3, q3⟩ := frame_ s hs a2 d2 (by omega) (by omega)
  obtain ⟨v4, e4⟩ := most_ 0 v1
  obtain ⟨v5, e5⟩ := least_ 99999 (wrap64 (20 + v4))
  obtain ⟨v6, e6⟩ := least_ 99999 (wrap64 (1 + v4))
  obtain ⟨v7, a7, d7, e7, _, _, _⟩ := among_ s hs a3 d3 [v3, v5, v6, v1] (by simp) (by omega) (by omega)
  refine ⟨u, v1, v7, ?_, hl, hS⟩
  unfold yBA.f
  exact Ev.have e1 (Ev.bind e2 (Ev.have e3 (Ev.have e4 (Ev.have e5 (Ev.have e4 (Ev.have e6 (Ev.have e7 (Ev.some rfl))))))))
theorem DrawCoveredFrames_ (s : List Int) (hs : Bytes s) : ∃ u a b, Ev (fun k => yA5.f k s) (u, a, b) ∧ u.length ≤ 60 ∧ Short u := by
  obtain ⟨u, a, b, e, h⟩ := DrawCutTier_ s hs
  exact ⟨u, a, b, Ev.bind e (Ev.some rfl), h⟩
theorem DrawTierText_ (s : List Int) (hs : Bytes s) : ∃ u, Ev (fun k => yA8.f k s) u ∧ u.length ≤ 60 ∧ Short u := by
  obtain ⟨u, a, d, e, hl, hS, _, _⟩ := tier_ s hs 0 0 (by omega) (by omega)
  refine ⟨u, ?_, hl, hS⟩
  unfold yA8.f yBC.f
  exact Ev.bind (Ev.bind e (Ev.some rfl)) (Ev.some rfl)
theorem DrawAddNote_ (s : List Int) (hs : Bytes s) : ∃ l x y g, Ev (fun k => yAP.f k s) (l, x, y, g) ∧ l.length ≤ 60 ∧ Short l ∧ g.size ≤ 100 := by
  obtain ⟨l, a1, d1, e1, hl, hS, p1, q1⟩ := tier_ s hs 0 0 (by omega) (by omega)
  have go : ∀ (b : Bool) (a2 d2 : Int), 0 ≤ a2 → a2 ≤ 10000 → (b = true → 0 < l.length) → ∃ x y g, Ev (fun k => yAP.j0 k l (l.length : Int) b s a2 d2) (l, x, y, g) ∧ g.size ≤ 100 := by
    intro b a2 d2 h0 h1 hb
    cases b with
    | true =>
      have hp := hb rfl
      have hw : wrap64 ((l.length : Int) - 1) = (l.length : Int) - 1 := wrap_in (by omega) (by omega)
      obtain ⟨v, a3, d3, e3, _, _, _, p3, q3⟩ := pick_ s hs a2 d2 3 h0 (by omega)
      obtain ⟨x, y, g, a4, d4, e4, hg, _, _⟩ := note_ s hs a3 d3 (wrap64 (((rd_T25 l (wrap64 ((l.length : Int) - 1))).f1) + v)) (by omega) (by omega)
      exact ⟨x, y, g, Ev.step (fun _ => yAP.j0.eq_2 ..) (Ev.pos rfl (Ev.pos (by omega) (Ev.pos (by omega) (Ev.have e3 (Ev.have e4 (Ev.some rfl)))))), hg⟩
    | false =>
      obtain ⟨v, a3, d3, e3, _, _, _, p3, q3⟩ := pick_ s hs a2 d2 60 h0 (by omega)
      obtain ⟨x, y, g, a4, d4, e4, hg, _, _⟩ := note_ s hs a3 d3 v (by omega) (by omega)
      exact ⟨x, y, g, Ev.step (fun _ => yAP.j0.eq_2 ..) (Ev.neg (by decide) (Ev.have e3 (Ev.have e4 (Ev.some rfl)))), hg⟩
  unfold yAP.f
  by_cases hp : 0 < l.length
  · cases ht : tierB l with
    | true =>
      obtain ⟨b, a2, d2, e2, p2, q2⟩ := one_ s hs a1 d1 2 (by omega) (by omega)
      obtain ⟨x, y, g, er, hg⟩ := go b a2 d2 (by omega) (by omega) (fun _ => hp)
      exact ⟨l, x, y, g, Ev.bind e1 (Ev.pos (by show (l.length : Int) > 0; omega) (Ev.bind (Ev.eq (tiGood_ l (hS.sized (by omega))) ht) (Ev.pos rfl (Ev.have e2 er)))), hl, hS, hg⟩
    | false =>
      obtain ⟨x, y, g, er, hg⟩ := go false a1 d1 (by omega) (by omega) (fun h => nomatch h)
      exact ⟨l, x, y, g, Ev.bind e1 (Ev.pos (by show (l.length : Int) > 0; omega) (Ev.bind (Ev.eq (tiGood_ l (hS.sized (by omega))) ht) (Ev.neg (by decide) er))), hl, hS, hg⟩
  · obtain ⟨x, y, g, er, hg⟩ := go false a1 d1 (by omega) (by omega) (fun h => nomatch h)
    exact ⟨l, x, y, g, Ev.bind e1 (Ev.neg (by show ¬ (l.length : Int) > 0; omega) er), hl, hS, hg⟩

/-! ### a text that is spoilt -/
theorem spoilt_loop (s : List Int) (hs : Bytes s) (z : ByteArray) (hz : 1 ≤ z.size) (hz2 : z.size ≤ 100) : ∀ (n : Nat) (t : ByteArray) (a d : Int), n ≤ 10 → t.size + n ≤ 2000 → 0 ≤ a → a + 10 * n ≤ 100000 → ∃ r a' d', Ev (fun k => yAL.l0 k t z (n : Int) s a d) (r, a', d') ∧ r.size ≤ 2000 := by
  intro n
  induction n with
  | zero =>
    intro t a d _ ht h0 h1
    exact ⟨t, a, d, Ev.step (fun _ => yAL.l0.eq_2 ..) (Ev.neg (by decide) (Ev.step (fun _ => yAL.j1.eq_2 ..) (Ev.neg (by decide) (Ev.some rfl)))), by omega⟩
  | succ n ih =>
    intro t a d hn ht h0 h1
    by_cases hp : (t.size : Int) > 0
    · obtain ⟨v1, a1, d1, e1, v10, _, v11, p1, q1⟩ := pick_ s hs a d (t.size : Int) h0 (by omega)
      obtain ⟨v2, a2, d2, e2, v20, _, v21, p2, q2⟩ := pick_ s hs a1 d1 (z.size : Int) (by omega) (by omega)
      obtain ⟨v3, a3, d3, e3, v30, _, v31, p3, q3⟩ := pick_ s hs a2 d2 3 (by omega) (by omega)
      have g1 := v11 (by omega)
      have g2 := v21 (by omega)
      have hw : wrap64 (((n + 1 : Nat) : Int) - 1) = (n : Int) := by rw [wrap_in (by omega) (by omega)]; omega
      have hw1 : wrap64 (v1 + 1) = v1 + 1 := wrap_in (by omega) (by omega)
      have s0 : (t.extract 0 v1.toNat).size ≤ v1.toNat := by rw [ByteArray.size_extract]; omega
      have s1 : (t.extract v1.toNat t.size).size = t.size - v1.toNat := by rw [ByteArray.size_extract]; omega
      have s2 : (t.extract (v1 + 1).toNat t.size).size = t.size - (v1 + 1).toNat := by rw [ByteArray.size_extract]; omega
      have s3 : ∀ b : Int, (strOfNums [b]).size = 1 := fun _ => rfl
      have s4 := s3 (bt z v2)
      have wrapn : ∀ (t' : ByteArray), t'.size ≤ t.size + 1 → ∃ r a' d', Ev (fun k => yAL.l0 k t' z (wrap64 (((n + 1 : Nat) : Int) - 1)) s a3 d3) (r, a', d') ∧ r.size ≤ 2000 := by
        intro t' h'
        rw [hw]
        exact ih t' a3 d3 (by omega) (by omega) (by omega) (by omega)
      have enter : ∀ {R : ByteArray × Int × Int}, Ev (fun k => if v3 = 0 then (if 0 ≤ v1 then (if v1 ≤ (t.size : Int) then (if (t.extract 0 (v1 : Int).toNat).size + (strOfNums [bt z v2]).size ≤ 9223372036854775807 then (if ((t.extract 0 (v1 : Int).toNat) ++ (strOfNums [bt z v2])).size + (t.extract (v1 : Int).toNat t.size).size ≤ 9223372036854775807 then (yAL.l0 k (((t.extract 0 (v1 : Int).toNat) ++ (strOfNums [bt z v2])) ++ (t.extract (v1 : Int).toNat t.size)) z (wrap64 (((n + 1 : Nat) : Int) - 1)) s a3 d3) else (none)) else (none)) else (none)) else (none)) else (if v3 = 1 then (if 0 ≤ v1 then (if v1 ≤ (t.size : Int) then (if (t.extract 0 (v1 : Int).toNat).size + (strOfNums [bt z v2]).size ≤ 9223372036854775807 then (if 0 ≤ (wrap64 (v1 + 1)) then (if (wrap64 (v1 + 1)) ≤ (t.size : Int) then (if ((t.extract 0 (v1 : Int).toNat) ++ (strOfNums [bt z v2])).size + (t.extract ((wrap64 (v1 + 1)) : Int).toNat t.size).size ≤ 9223372036854775807 then (yAL.l0 k (((t.extract 0 (v1 : Int).toNat) ++ (strOfNums [bt z v2])) ++ (t.extract ((wrap64 (v1 + 1)) : Int).toNat t.size)) z (wrap64 (((n + 1 : Nat) : Int) - 1)) s a3 d3) else (none)) else (none)) else (none)) else (none)) else (none)) else (none)) else (if 0 ≤ v1 then (if v1 ≤ (t.size : Int) then (if 0 ≤ (wrap64 (v1 + 1)) then (if (wrap64 (v1 + 1)) ≤ (t.size : Int) then (if (t.extract 0 (v1 : Int).toNat).size + (t.extract ((wrap64 (v1 + 1)) : Int).toNat t.size).size ≤ 9223372036854775807 then (yAL.l0 k ((t.extract 0 (v1 : Int).toNat) ++ (t.extract ((wrap64 (v1 + 1)) : Int).toNat t.size)) z (wrap64 (((n + 1 : Nat) : Int) - 1)) s a3 d3) else (none)) else (none)) else (none)) else (none)) else (none)))) R → Ev (fun k => yAL.l0 k t z ((n + 1 : Nat) : Int) s a d) R := fun h =>
        Ev.step (fun _ => yAL.l0.eq_2 ..) (Ev.pos (by omega) (Ev.step (fun _ => yAL.j1.eq_2 ..) (Ev.pos (decide_eq_true hp) (Ev.have e1 (Ev.have e2 (Ev.pos (by omega) (Ev.pos (by omega) (Ev.have rfl (Ev.have e3 h)))))))))
      by_cases c0 : v3 = 0
      · obtain ⟨r, a', d', er, hr⟩ := wrapn (((t.extract 0 (v1 : Int).toNat) ++ (strOfNums [bt z v2])) ++ (t.extract (v1 : Int).toNat t.size)) (by rw [ByteArray.size_append, ByteArray.size_append]; omega)
        exact ⟨r, a', d', enter (Ev.pos c0 (Ev.pos (by omega) (Ev.pos (by omega) (Ev.pos (by omega) (Ev.pos (by rw [ByteArray.size_append]; omega) er))))), hr⟩
      · by_cases c1 : v3 = 1
        · obtain ⟨r, a', d', er, hr⟩ := wrapn (((t.extract 0 (v1 : Int).toNat) ++ (strOfNums [bt z v2])) ++ (t.extract ((wrap64 (v1 + 1)) : Int).toNat t.size)) (by rw [ByteArray.size_append, ByteArray.size_append, hw1]; omega)
          exact ⟨r, a', d', enter (Ev.neg c0 (Ev.pos c1 (Ev.pos (by omega) (Ev.pos (by omega) (Ev.pos (by omega) (Ev.pos (by omega) (Ev.pos (by omega) (Ev.pos (by rw [ByteArray.size_append, hw1]; omega) er)))))))), hr⟩
        · obtain ⟨r, a', d', er, hr⟩ := wrapn ((t.extract 0 (v1 : Int).toNat) ++ (t.extract ((wrap64 (v1 + 1)) : Int).toNat t.size)) (by rw [ByteArray.size_append, hw1]; omega)
          exact ⟨r, a', d', enter (Ev.neg c0 (Ev.neg c1 (Ev.pos (by omega) (Ev.pos (by omega) (Ev.pos (by omega) (Ev.pos (by omega) (Ev.pos (by rw [hw1]; omega) er))))))), hr⟩
    · exact ⟨t, a, d, Ev.step (fun _ => yAL.l0.eq_2 ..) (Ev.pos (by omega) (Ev.step (fun _ => yAL.j1.eq_2 ..) (Ev.neg (by rw [decide_eq_true_eq]; exact hp) (Ev.some rfl)))), by omega⟩
theorem spoilt_ (s : List Int) (hs : Bytes s) (z t : ByteArray) (hz : 1 ≤ z.size) (hz2 : z.size ≤ 100) (a d : Int) (ht : t.size ≤ 1990) (h0 : 0 ≤ a) (h1 : a ≤ 50000) : ∃ r a' d', Ev (fun k => yAL.f k s a d t z) (r, a', d') ∧ r.size ≤ 2000 := by
  obtain ⟨v1, a1, d1, e1, v10, _, v11, p1, q1⟩ := pick_ s hs a d 2 h0 (by omega)
  have g := v11 (by omega)
  have hw : wrap64 (1 + v1) = ((1 + v1.toNat : Nat) : Int) := by rw [wrap_in (by omega) (by omega)]; omega
  obtain ⟨r, a', d', er, hr⟩ := spoilt_loop s hs z hz hz2 (1 + v1.toNat) t a1 d1 (by omega) (by omega) (by omega) (by omega)
  rw [← hw] at er
  exact ⟨r, a', d', Ev.have e1 er, hr⟩
theorem text_size {l : List NI} (h : tierB l = true) : (tierT l).size ≤ 920 := by
  have hl := tier_40 h
  have key : ∀ (l : List NI), (∀ x, x ∈ l → noteB x.f0 x.f1 x.f2 = true) → ∀ s : ByteArray, (tailT s l).size ≤ s.size + 23 * l.length := by
    intro l
    induction l with
    | nil => exact fun _ s => Nat.le_refl _
    | cons x l ih =>
      intro hx s
      have h1 := ih (fun y hy => hx y (List.mem_cons_of_mem _ hy)) (s ++ piece x)
      have h2 := piece_size (hx x (List.mem_cons_self ..))
      rw [ByteArray.size_append] at h1
      rw [List.length_cons]
      show (tailT (s ++ piece x) l).size ≤ _
      omega
  have hn : ∀ x, x ∈ l → noteB x.f0 x.f1 x.f2 = true := fun x hx => by
    obtain ⟨i, hi, rfl⟩ := List.mem_iff_getElem.1 hx
    have := tier_note h hi
    unfold atN at this
    rw [List.getD_eq_getElem?_getD, List.getElem?_eq_getElem hi] at this
    exact this
  have := key l hn ⟨#[]⟩
  have h0 : (⟨#[]⟩ : ByteArray).size = 0 := rfl
  show (tailT ⟨#[]⟩ l).size ≤ 920
  omega
theorem DrawParseTier_ (s : List Int) (hs : Bytes s) : ∃ t, Ev (fun k => yAN.f k s) t ∧ t.size ≤ 2000 := by
  obtain ⟨l, a1, d1, e1, hl, hS, p1, q1⟩ := tier_ s hs 0 0 (by omega) (by omega)
  have go : ∀ t : ByteArray, t.size ≤ 1990 → ∃ r, Ev (fun k => yAN.j0 k t s a1 d1) r ∧ r.size ≤ 2000 := by
    intro t ht
    obtain ⟨v, a2, d2, e2, _, _, _, p2, q2⟩ := pick_ s hs a1 d1 5 (by omega) (by omega)
    have j1 : ∀ b : Bool, ∃ r, Ev (fun k => yAN.j1 k t v b s a2 d2) r ∧ r.size ≤ 2000 := by
      intro b
      cases b with
      | true =>
        obtain ⟨r, a3, d3, er, hr⟩ := spoilt_ s hs (⟨#[45, 59, 32, 48, 49, 57, 65, 71]⟩ : ByteArray) t (by decide) (by decide) a2 d2 ht (by omega) (by omega)
        exact ⟨r, Ev.step (fun _ => yAN.j1.eq_2 ..) (Ev.pos rfl (Ev.bind er (Ev.some rfl))), hr⟩
      | false =>
        by_cases c : v = 2
        · obtain ⟨r, a3, d3, er, hm, _, _⟩ := of_ s hs a2 d2 [(⟨#[]⟩ : ByteArray), (⟨#[59]⟩ : ByteArray), (⟨#[53, 45, 49, 48, 32, 72, 79, 85, 83, 69]⟩ : ByteArray), (⟨#[49, 48, 45, 53, 32, 71, 79, 59]⟩ : ByteArray), (⟨#[48, 53, 45, 49, 48, 32, 71, 79, 59]⟩ : ByteArray), (⟨#[53, 45, 49, 48, 59]⟩ : ByteArray), (⟨#[53, 45, 49, 48, 32, 103, 111, 59]⟩ : ByteArray), (⟨#[53, 45, 49, 48, 32, 71, 79, 59, 57, 45, 49, 50, 32, 71, 79, 59]⟩ : ByteArray)] (by decide) (by omega) (by omega)
          refine ⟨r, Ev.step (fun _ => yAN.j1.eq_2 ..) (Ev.neg (by decide) (Ev.pos c (Ev.have er (Ev.some rfl)))), ?_⟩
          simp only [List.mem_cons, List.not_mem_nil, or_false] at hm
          rcases hm with rfl | rfl | rfl | rfl | rfl | rfl | rfl | rfl <;> decide
        · exact ⟨t, Ev.step (fun _ => yAN.j1.eq_2 ..) (Ev.neg (by decide) (Ev.neg c (Ev.some rfl))), by omega⟩
    by_cases c : v = 0
    · obtain ⟨r, er, hr⟩ := j1 (v == 0)
      exact ⟨r, Ev.step (fun _ => yAN.j0.eq_2 ..) (Ev.have e2 (Ev.pos c er)), hr⟩
    · obtain ⟨r, er, hr⟩ := j1 (v == 1)
      exact ⟨r, Ev.step (fun _ => yAN.j0.eq_2 ..) (Ev.have e2 (Ev.neg c er)), hr⟩
  unfold yAN.f
  have hg := tiGood_ l (hS.sized (by omega))
  cases ht : tierB l with
  | true =>
    obtain ⟨r, er, hr⟩ := go (tierT l) (by have := text_size ht; omega)
    have et := (text_loops l ht l.length 0 (by omega) ⟨#[]⟩ (Nat.le_refl _)).1
    exact ⟨r, Ev.bind e1 (Ev.bind (Ev.eq hg ht) (Ev.pos rfl (Ev.bind et er))), hr⟩
  | false =>
    obtain ⟨r, er, hr⟩ := go (⟨#[53, 45, 49, 48, 32, 72, 79, 85, 83, 69, 59]⟩ : ByteArray) (by decide)
    exact ⟨r, Ev.bind e1 (Ev.bind (Ev.eq hg ht) (Ev.neg (by decide) er)), hr⟩
end Go.Proofs.YtglcpghappepaaaGreatDoor.MDrawS
end
section
/- What a tier's notes bear. -/

namespace Go.Proofs.YtglcpghappepaaaGreatDoor.MGlossT
open Go.RowKit Go.Proofs.YtglcpghappepaaaGreatDoor.G Go.Proofs.YtglcpghappepaaaGreatDoorW.PrintWords Go.Proofs.YtglcpghappepaaaGreatDoorW.PrintLast Go.Proofs.YtglcpghappepaaaGreatDoor.MPure Go.Proofs.YtglcpghappepaaaGreatDoor.MWord Go.Proofs.YtglcpghappepaaaGreatDoor.MNote

end Go.Proofs.YtglcpghappepaaaGreatDoor.MGlossT
end
section
/- The laws' other comparison of lists of lists: a list is like itself. No condition. -/
namespace Go.Proofs.YtglcpghappepaaaGreatDoor.MQLists2
open Go.RowKit Go.Proofs.YtglcpghappepaaaGreatDoor.G Go.Proofs.YtglcpghappepaaaGreatDoorW.PrintWords Go.Proofs.YtglcpghappepaaaGreatDoorW.PrintLast Go.Proofs.YtglcpghappepaaaGreatDoor.MPure

theorem qInts_ (l : List Int) (hl : l.length ≤ 140737488351232) : Ev (fun k => yAq.f k l l) true := by
  unfold yAq.f
  refine Ev.pos rfl ?_
  have h := loop_all0 (L := fun k i => yAq.l0 k l l (l.length : Int) i) l.length (fun _ => true) true (Ev.step (fun _ => yAq.l0.eq_2 ..) (Ev.neg (by omega) (Ev.some rfl)))
    (fun i hi _ r ih => by
      rw [← wrap_succ (by omega)] at ih
      exact Ev.step (fun _ => yAq.l0.eq_2 ..) (Ev.pos (by omega) (Ev.pos (by omega) (Ev.pos (by omega) (Ev.pos (by omega) (Ev.pos rfl ih))))))
    (fun _ _ h => by cases h)
  exact Ev.eq h (by simp)
theorem qLists_ (l : List (List Int)) (hl : l.length ≤ 140737488351232) (h2 : ∀ x, x ∈ l → x.length ≤ 140737488351232) : Ev (fun k => yAr.f k l l) true := by
  unfold yAr.f
  refine Ev.pos rfl ?_
  have h := loop_all0 (L := fun k i => yAr.l0 k l l (l.length : Int) i) l.length (fun _ => true) true (Ev.step (fun _ => yAr.l0.eq_2 ..) (Ev.neg (by omega) (Ev.some rfl)))
    (fun i hi _ r ih => by
      rw [← wrap_succ (by omega)] at ih
      have hm : (l.getD i []) ∈ l := by
        rw [List.getD_eq_getElem?_getD, List.getElem?_eq_getElem hi]
        exact List.getElem_mem _
      exact Ev.step (fun _ => yAr.l0.eq_2 ..) (Ev.pos (by omega) (Ev.pos (by omega) (Ev.pos (by omega) (Ev.pos (by omega) (Ev.bind (qInts_ _ (h2 _ hm)) (Ev.pos rfl ih)))))))
    (fun _ _ h => by cases h)
  exact Ev.eq h (by simp)
end Go.Proofs.YtglcpghappepaaaGreatDoor.MQLists2
end
section
/- The laws' comparison of notes: a list is like itself. No condition. -/
namespace Go.Proofs.YtglcpghappepaaaGreatDoor.MQNotes
open Go.RowKit Go.Proofs.YtglcpghappepaaaGreatDoor.G Go.Proofs.YtglcpghappepaaaGreatDoorW.PrintWords Go.Proofs.YtglcpghappepaaaGreatDoorW.PrintLast Go.Proofs.YtglcpghappepaaaGreatDoor.MPure Go.Proofs.YtglcpghappepaaaGreatDoor.MWord Go.Proofs.YtglcpghappepaaaGreatDoor.MNote

theorem qNotes_ (l : List NI) (hl : l.length ≤ 140737488351232) : Ev (fun k => yAd.f k l l) true := by
  unfold yAd.f
  refine Ev.pos rfl ?_
  have h := loop_all0 (L := fun k i => yAd.l0 k l l (l.length : Int) i) l.length (fun _ => true) true (Ev.step (fun _ => yAd.l0.eq_2 ..) (Ev.neg (by omega) (Ev.some rfl)))
    (fun i hi _ r ih => by
      rw [← wrap_succ (by omega)] at ih
      exact Ev.step (fun _ => yAd.l0.eq_2 ..) (Ev.pos (by omega) (Ev.pos (by omega) (Ev.pos (by omega) (Ev.pos (by omega) (Ev.neg (by simp) ih))))))
    (fun _ _ h => by cases h)
  exact Ev.eq h (by simp)
end Go.Proofs.YtglcpghappepaaaGreatDoor.MQNotes
end
section
/- Sums over lists, and the note at a frame. No condition but that the list is a tier. -/
namespace Go.Proofs.YtglcpghappepaaaGreatDoor.MTP
open Go.RowKit Go.Proofs.YtglcpghappepaaaGreatDoor.G Go.Proofs.YtglcpghappepaaaGreatDoorW.PrintWords Go.Proofs.YtglcpghappepaaaGreatDoorW.PrintLast Go.Proofs.YtglcpghappepaaaGreatDoor.MPure Go.Proofs.YtglcpghappepaaaGreatDoor.MWord Go.Proofs.YtglcpghappepaaaGreatDoor.MNote Go.Proofs.YtglcpghappepaaaGreatDoor.MSort Go.Proofs.YtglcpghappepaaaGreatDoor.MTier
open Go.Proofs.YtglcpghappepaaaGreatDoor.MCNoteAt (noteAtR)

theorem atN_eq (l : List NI) (i : Nat) (h : i < l.length) : atN l i = l[i] := by
  unfold atN
  rw [List.getD_eq_getElem?_getD, List.getElem?_eq_getElem h]
  rfl
theorem tier_short {l : List NI} (h : tierB l = true) : l.length ≤ 40 := by
  simp only [tierB, Bool.and_eq_true, decide_eq_true_eq] at h
  omega

theorem tier_before {l : List NI} (h : tierB l = true) {i j : Nat} (hij : i < j) (hj : j < l.length) : (atN l i).f1 ≤ (atN l j).f0 := by
  have h1 := tier_at h hj
  have h2 := h1.2
  by_cases e : i = j - 1
  · rw [e]; omega
  · have h3 := tier_lt h (j - 1 - i - 1) i (j - 1) (by omega) (by omega)
    have h4 := note_in (tier_at h (show j - 1 < l.length by omega)).1
    have h5 := tier_at h (show i + 1 < l.length by omega)
    have h6 : ky l (i + 1) ≤ ky l (j - 1) := by
      rcases Nat.lt_or_ge (i + 1) (j - 1) with c | c
      · exact Int.le_of_lt (tier_lt h (j - 1 - (i + 1) - 1) (i + 1) (j - 1) (by omega) (by omega))
      · rw [show i + 1 = j - 1 by omega]; exact Int.le_refl _
    have h7 := h5.2
    rw [show i + 1 - 1 = i by omega] at h7
    unfold ky at h6
    omega
/-! ### sums -/
def sm {α : Type} (l : List α) (f : α → Int) : Int := (l.map f).foldr (· + ·) 0
theorem sm_nil {α : Type} (f : α → Int) : sm [] f = 0 := rfl
theorem sm_cons {α : Type} (x : α) (l : List α) (f : α → Int) : sm (x :: l) f = f x + sm l f := rfl
theorem sm_app {α : Type} (f : α → Int) (m : List α) : ∀ l : List α, sm (l ++ m) f = sm l f + sm m f
  | [] => by rw [List.nil_append, sm_nil]; omega
  | x :: l => by rw [List.cons_append, sm_cons, sm_cons, sm_app f m l]; omega
theorem sm_zero {α : Type} : ∀ l : List α, sm l (fun _ => (0 : Int)) = 0
  | [] => rfl
  | x :: l => by rw [sm_cons, sm_zero l]; rfl
theorem sm_le {α : Type} {f g : α → Int} : ∀ {l : List α}, (∀ x, x ∈ l → f x ≤ g x) → sm l f ≤ sm l g
  | [], _ => Int.le_refl _
  | x :: l, h => by
    have h1 := h x (List.mem_cons_self ..)
    have h2 := sm_le (fun y hy => h y (List.mem_cons_of_mem _ hy) : ∀ y, y ∈ l → f y ≤ g y)
    rw [sm_cons, sm_cons]
    omega
theorem sm_nonneg {α : Type} {f : α → Int} {l : List α} (h : ∀ x, x ∈ l → 0 ≤ f x) : 0 ≤ sm l f := by
  have := sm_le (f := fun _ => 0) h
  rw [sm_zero] at this
  exact this
theorem note_of {l : List NI} (h : tierB l = true) {n : NI} (hn : n ∈ l) : 0 ≤ n.f0 ∧ n.f0 < n.f1 ∧ n.f1 ≤ 99999 := by
  obtain ⟨i, hi, rfl⟩ := List.mem_iff_getElem.1 hn
  have := note_in (tier_at h hi).1
  rw [atN_eq l i hi] at this
  exact this
def w2 (n : NI) : Int := n.f1 - n.f0
/-! ### the note at a frame -/
theorem at_note {l : List NI} (h : tierB l = true) {n : NI} (hn : n ∈ l) {f : Int} (h0 : n.f0 ≤ f) (h1 : f < n.f1) : ∃ i : Nat, i < l.length ∧ noteAtR l f = ((i : Int), true) ∧ atN l i = n := by
  obtain ⟨i, hi, rfl⟩ := List.mem_iff_getElem.1 hn
  have hb := note_of h (List.getElem_mem hi)
  have hit : ∀ m : NI, yAa.p f m = true ↔ m.f0 ≤ f ∧ f ≤ wrap64 (m.f1 - 1) := fun m => by
    show decide (m.f0 ≤ f ∧ f ≤ wrap64 (m.f1 - 1)) = true ↔ _
    rw [decide_eq_true_eq]
  have w : ∀ j, j < l.length → wrap64 ((atN l j).f1 - 1) = (atN l j).f1 - 1 := fun j hj => by
    have := note_of h (atN_mem hj)
    exact wrap_in (by omega) (by omega)
  have e := atN_eq l i hi
  have key : idxOf (yAa.p f) l = (i : Int) := by
    refine idxOf_hit z25 hi ?_ ?_
    · show yAa.p f (atN l i) = true
      rw [hit, w i hi, e]
      omega
    · intro j hj
      show yAa.p f (atN l j) = false
      rw [← Bool.not_eq_true, hit, w j (by omega)]
      have := tier_before h hj hi
      rw [e] at this
      omega
  refine ⟨i, hi, ?_, e⟩
  unfold noteAtR
  rw [key, if_pos ⟨h, by unfold frameB; rw [decide_eq_true_eq]; omega, Int.natCast_nonneg i⟩]
end Go.Proofs.YtglcpghappepaaaGreatDoor.MTP
end
section
/- Spans of frames: the gaps and the covered frames of a span make it up, a gap's first frame is in no note, and the parts of a tier are a tier. No condition. -/
namespace Go.Proofs.YtglcpghappepaaaGreatDoor.MTiers
open Go.RowKit Go.Proofs.YtglcpghappepaaaGreatDoor.G Go.Proofs.YtglcpghappepaaaGreatDoorW.PrintWords Go.Proofs.YtglcpghappepaaaGreatDoorW.PrintLast Go.Proofs.YtglcpghappepaaaGreatDoor.MPure Go.Proofs.YtglcpghappepaaaGreatDoor.MWord Go.Proofs.YtglcpghappepaaaGreatDoor.MNote Go.Proofs.YtglcpghappepaaaGreatDoor.MGlossT Go.Proofs.YtglcpghappepaaaGreatDoor.MCut Go.Proofs.YtglcpghappepaaaGreatDoor.MTP
open Go.Proofs.YtglcpghappepaaaGreatDoor.MTier (tier_at note_in)
open Go.Proofs.YtglcpghappepaaaGreatDoor.MCNoteAt (noteAtR)

/-- Notes that follow each other, from a frame on and no further than another. -/
def Chain (b : Int) : Int → List NI → Prop
  | a, [] => a ≤ b
  | a, x :: l => a ≤ x.f0 ∧ x.f0 < x.f1 ∧ Chain b x.f1 l
/-- The gaps between them. -/
def gp (b : Int) : Int → List NI → List (List Int)
  | a, [] => if a < b then [[a, b]] else []
  | a, x :: l => (if a < x.f0 then [[a, x.f0]] else []) ++ gp b x.f1 l
def wq (q : List Int) : Int := q.getD 1 0 - q.getD 0 0
theorem chain_le (b : Int) : ∀ (l : List NI) (a : Int), Chain b a l → a ≤ b
  | [], _, h => h
  | x :: l, a, h => by
    have h3 := chain_le b l x.f1 h.2.2
    have h1 := h.1
    have h2 := h.2.1
    omega
theorem chain_ge (b : Int) : ∀ (l : List NI) (a : Int), Chain b a l → ∀ y, y ∈ l → a ≤ y.f0
  | x :: l, a, h, y, hy => by
    rcases List.mem_cons.1 hy with rfl | hy
    · exact h.1
    · have h3 := chain_ge b l x.f1 h.2.2 y hy
      have h1 := h.1
      have h2 := h.2.1
      omega
theorem chain_pw (b : Int) : ∀ (l : List NI) (a : Int), Chain b a l → l.Pairwise (fun x y => x.f1 ≤ y.f0)
  | [], _, _ => List.Pairwise.nil
  | x :: l, _, h => List.Pairwise.cons (chain_ge b l x.f1 h.2.2) (chain_pw b l x.f1 h.2.2)
theorem gp_sum (b : Int) : ∀ (l : List NI) (a : Int), Chain b a l → sm (gp b a l) wq + sm l w2 = b - a
  | [], a, h => by
    have h0 : a ≤ b := h
    unfold gp
    split
    · rw [sm_cons, sm_nil, sm_nil]
      show b - a + 0 + 0 = b - a
      omega
    · rw [sm_nil, sm_nil]
      omega
  | x :: l, a, h => by
    have ih := gp_sum b l x.f1 h.2.2
    have h1 := h.1
    unfold gp
    rw [sm_app, sm_cons]
    have e : w2 x = x.f1 - x.f0 := rfl
    split
    · rw [sm_cons, sm_nil]
      have e2 : wq [a, x.f0] = x.f0 - a := rfl
      omega
    · rw [sm_nil]
      omega
theorem gp_mem (b : Int) : ∀ (l : List NI) (a : Int), Chain b a l → ∀ q, q ∈ gp b a l → ∃ p r, q = [p, r] ∧ a ≤ p ∧ p < r ∧ r ≤ b ∧ ∀ x, x ∈ l → ¬ (x.f0 ≤ p ∧ p < x.f1)
  | [], a, _, q, hq => by
    unfold gp at hq
    split at hq
    · exact ⟨a, b, List.mem_singleton.1 hq, Int.le_refl _, by assumption, Int.le_refl _, fun x hx => nomatch hx⟩
    · cases hq
  | x :: l, a, h, q, hq => by
    unfold gp at hq
    have h1 := h.1
    have h2 := h.2.1
    rcases List.mem_append.1 hq with hq | hq
    · split at hq
      · rename_i hlt
        have hb := chain_le b l x.f1 h.2.2
        refine ⟨a, x.f0, List.mem_singleton.1 hq, Int.le_refl _, hlt, by omega, fun y hy => ?_⟩
        rcases List.mem_cons.1 hy with rfl | hy
        · omega
        · have := chain_ge b l x.f1 h.2.2 y hy
          omega
      · cases hq
    · obtain ⟨p, r, e, g1, g2, g3, g4⟩ := gp_mem b l x.f1 h.2.2 q hq
      refine ⟨p, r, e, by omega, g2, g3, fun y hy => ?_⟩
      rcases List.mem_cons.1 hy with rfl | hy
      · omega
      · exact g4 y hy
theorem gp_len (b : Int) : ∀ (l : List NI) (a : Int), (gp b a l).length ≤ l.length + 1
  | [], a => by unfold gp; split <;> simp
  | x :: l, a => by
    have := gp_len b l x.f1
    unfold gp
    rw [List.length_append, List.length_cons]
    split
    · rw [List.length_singleton]; omega
    · rw [List.length_nil]; omega

/-! ### the parts of a tier -/
theorem tier_pw {l : List NI} (h : tierB l = true) : l.Pairwise (fun x y => x.f1 ≤ y.f0) := by
  rw [List.pairwise_iff_getElem]
  intro i j hi hj hij
  have := tier_before h hij hj
  rw [atN_eq l i hi, atN_eq l j hj] at this
  exact this
theorem tier_of {l : List NI} (h0 : l.length ≤ 40) (h1 : ∀ x, x ∈ l → noteB x.f0 x.f1 x.f2 = true) (h2 : l.Pairwise (fun x y => x.f1 ≤ y.f0)) : tierB l = true := by
  unfold tierB
  simp only [Bool.and_eq_true, decide_eq_true_eq, List.all_eq_true, List.mem_range]
  refine ⟨fun i hi => ?_, by omega⟩
  simp only [tierP, Bool.and_eq_true, Bool.or_eq_true, decide_eq_true_eq]
  rw [atN_eq l i hi]
  refine ⟨h1 _ (List.getElem_mem hi), ?_⟩
  by_cases e : i = 0
  · exact .inl e
  · right
    rw [atN_eq l (i - 1) (by omega)]
    exact List.pairwise_iff_getElem.1 h2 (i - 1) i (by omega) hi (by omega)
theorem mx_l (a b : Int) : a ≤ mx a b := by unfold mx; split <;> omega
theorem mx_r (a b : Int) : b ≤ mx a b := by unfold mx; split <;> omega
theorem mn_l (a b : Int) : mn a b ≤ a := by unfold mn; split <;> omega
theorem mn_r (a b : Int) : mn a b ≤ b := by unfold mn; split <;> omega
theorem mx_or (a b : Int) : mx a b = a ∨ mx a b = b := by unfold mx; split <;> simp
theorem mn_or (a b : Int) : mn a b = a ∨ mn a b = b := by unfold mn; split <;> simp
theorem cut_chain (a b : Int) : ∀ (l : List NI) (c : Int), c ≤ b → (∀ x, x ∈ l → c ≤ mx x.f0 a) → l.Pairwise (fun x y => x.f1 ≤ y.f0) → Chain b c (cutL a b l)
  | [], _, h, _, _ => h
  | x :: l, c, h, hc, hp => by
    have hp2 := List.pairwise_cons.1 hp
    unfold cutL
    rw [List.filterMap_cons]
    by_cases hx : mx x.f0 a < mn x.f1 b
    · have e : cut1 a b x = some ⟨mx x.f0 a, mn x.f1 b, x.f2⟩ := if_pos hx
      rw [e]
      exact ⟨hc x (List.mem_cons_self ..), hx, cut_chain a b l _ (mn_r _ _) (fun z hz => Int.le_trans (mn_l _ _) (Int.le_trans (hp2.1 z hz) (mx_l _ _))) hp2.2⟩
    · have e : cut1 a b x = none := if_neg hx
      rw [e]
      exact cut_chain a b l c h (fun z hz => hc z (List.mem_cons_of_mem _ hz)) hp2.2
theorem cut_mem {a b : Int} {l : List NI} {y : NI} (h : y ∈ cutL a b l) : ∃ x, x ∈ l ∧ mx x.f0 a < mn x.f1 b ∧ y = ⟨mx x.f0 a, mn x.f1 b, x.f2⟩ := by
  obtain ⟨x, hx, h⟩ := List.mem_filterMap.1 h
  unfold cut1 at h
  split at h
  · exact ⟨x, hx, by assumption, (Option.some.inj h).symm⟩
  · cases h
theorem cut_has {a b : Int} {l : List NI} {x : NI} (hx : x ∈ l) {p : Int} (h0 : x.f0 ≤ p) (h1 : p < x.f1) (h2 : a ≤ p) (h3 : p < b) : ∃ y, y ∈ cutL a b l ∧ y.f0 ≤ p ∧ p < y.f1 := by
  have g0 : mx x.f0 a ≤ p := by rcases mx_or x.f0 a with e | e <;> omega
  have g1 : p < mn x.f1 b := by rcases mn_or x.f1 b with e | e <;> omega
  exact ⟨⟨mx x.f0 a, mn x.f1 b, x.f2⟩, List.mem_filterMap.2 ⟨x, hx, if_pos (by omega)⟩, g0, g1⟩
theorem range_in {a b : Int} (h : rangeB a b = true) : 0 ≤ a ∧ a < b ∧ b ≤ 99999 := by
  unfold rangeB frameB at h
  simp only [Bool.and_eq_true, decide_eq_true_eq] at h
  omega
theorem tier_chain {l : List NI} (h : tierB l = true) {a b : Int} (hr : rangeB a b = true) : Chain b a (cutL a b l) :=
  cut_chain a b l a (by have := range_in hr; omega) (fun _ _ => mx_r _ _) (tier_pw h)
theorem note_all {l : List NI} (h : tierB l = true) {x : NI} (hx : x ∈ l) : noteB x.f0 x.f1 x.f2 = true := by
  obtain ⟨i, hi, rfl⟩ := List.mem_iff_getElem.1 hx
  have := (tier_at h hi).1
  rw [atN_eq l i hi] at this
  exact this
theorem tier_cut {l : List NI} (h : tierB l = true) {a b : Int} (hr : rangeB a b = true) : tierB (cutL a b l) = true := by
  refine tier_of (Nat.le_trans (cutL_length a b l) (tier_short h)) (fun y hy => ?_) (chain_pw b _ a (tier_chain h hr))
  obtain ⟨x, hx, hlt, rfl⟩ := cut_mem hy
  have hn := note_all h hx
  have hb := range_in hr
  have hi := note_in hn
  unfold noteB frameB at hn ⊢
  simp only [Bool.and_eq_true, decide_eq_true_eq] at hn ⊢
  have h1 := mx_l x.f0 a
  have h2 := mn_l x.f1 b
  exact ⟨⟨⟨by omega, by omega⟩, hlt⟩, hn.2⟩
/-- A frame that is in no note: no note is found. -/
theorem at_none {l : List NI} (h : tierB l = true) {p : Int} (hp : ∀ x, x ∈ l → ¬ (x.f0 ≤ p ∧ p < x.f1)) : noteAtR l p = (0, false) := by
  have key : idxOf (yAa.p p) l = -1 := by
    unfold idxOf
    rw [List.findIdx?_eq_none_iff.2 (fun x hx => ?_)]
    show decide (x.f0 ≤ p ∧ p ≤ wrap64 (x.f1 - 1)) = false
    have hi := note_in (note_all h hx)
    have hw : wrap64 (x.f1 - 1) = x.f1 - 1 := wrap_in (by omega) (by omega)
    rw [hw, decide_eq_false_iff_not]
    have := hp x hx
    omega
  unfold noteAtR
  rw [key, if_neg (by omega)]
/-- A gap's first frame is in no note. -/
theorem gap_free {l : List NI} (h : tierB l = true) {a b : Int} (hr : rangeB a b = true) {q : List Int} (hq : q ∈ gp b a (cutL a b l)) : ∃ p r, q = [p, r] ∧ 0 ≤ p ∧ p < r ∧ r ≤ 99999 ∧ noteAtR l p = (0, false) := by
  obtain ⟨p, r, e, g1, g2, g3, g4⟩ := gp_mem b _ a (tier_chain h hr) q hq
  have hb := range_in hr
  refine ⟨p, r, e, by omega, g2, by omega, at_none h (fun x hx hc => ?_)⟩
  obtain ⟨y, hy, y0, y1⟩ := cut_has hx hc.1 hc.2 g1 (by omega : p < b)
  exact g4 y hy ⟨y0, y1⟩

/-! ### the loops -/
theorem cov_bound {l : List NI} (h : tierB l = true) {a b : Int} (hr : rangeB a b = true) : sm (cutL a b l) w2 ≤ 100000 ∧ 0 ≤ sm (cutL a b l) w2 := by
  have h1 := gp_sum b _ a (tier_chain h hr)
  have hb := range_in hr
  have h2 : 0 ≤ sm (gp b a (cutL a b l)) wq := sm_nonneg (fun q hq => by
    obtain ⟨p, r, rfl, _, h3, _⟩ := gap_free h hr hq
    show 0 ≤ r - p
    omega)
  have h3 : 0 ≤ sm (cutL a b l) w2 := sm_nonneg (fun y hy => by
    obtain ⟨x, hx, hlt, rfl⟩ := cut_mem hy
    show 0 ≤ mn x.f1 b - mx x.f0 a
    omega)
  omega
theorem covered_at (c : List NI) (hc : c.length ≤ 40) (hb : ∀ y, y ∈ c → 0 ≤ y.f0 ∧ y.f0 < y.f1 ∧ y.f1 ≤ 99999) (T : Int) (hT : T ≤ 6000000) : ∀ d i : Nat, i + d = c.length → ∀ s : Int, 0 ≤ s → s + sm (c.drop i) w2 = T → Ev (fun k => yAU.l0 k s c (c.length : Int) (i : Int)) (T, true) ∧ Ev (fun k => yAM.l0 k s c (c.length : Int) (i : Int)) (T, true) := by
  intro d
  induction d with
  | zero =>
    intro i hi s hs0 hs
    rw [List.drop_eq_nil_of_le (by omega), sm_nil, Int.add_zero] at hs
    subst hs
    exact ⟨Ev.step (fun _ => yAU.l0.eq_2 ..) (Ev.neg (by omega) (Ev.some rfl)), Ev.step (fun _ => yAM.l0.eq_2 ..) (Ev.neg (by omega) (Ev.some rfl))⟩
  | succ d ih =>
    intro i hi s hs0 hs
    have e : rd_T25 c (i : Int) = c[i]'(by omega) := by
      show c.getD i z25 = _
      rw [List.getD_eq_getElem?_getD, List.getElem?_eq_getElem (by omega)]
      rfl
    rw [List.drop_eq_getElem_cons (show i < c.length by omega), ← e, sm_cons] at hs
    have hb0 := hb (rd_T25 c (i : Int)) (by rw [e]; exact List.getElem_mem _)
    have hr : 0 ≤ sm (c.drop (i + 1)) w2 := sm_nonneg (fun n hn => by
      have := hb n (List.mem_of_mem_drop hn)
      unfold w2
      omega)
    have hw : w2 (rd_T25 c (i : Int)) = (rd_T25 c (i : Int)).f1 - (rd_T25 c (i : Int)).f0 := rfl
    obtain ⟨h1, h2⟩ := ih (i + 1) (by omega) (s + w2 (rd_T25 c (i : Int))) (by omega) (by omega)
    have w1 : wrap64 ((rd_T25 c (i : Int)).f1 - (rd_T25 c (i : Int)).f0) = w2 (rd_T25 c (i : Int)) := wrap_in (by omega) (by omega)
    have w3 : wrap64 (s + w2 (rd_T25 c (i : Int))) = s + w2 (rd_T25 c (i : Int)) := wrap_in (by omega) (by omega)
    rw [← wrap_succ (by omega), ← w3, ← w1] at h1 h2
    exact ⟨Ev.step (fun _ => yAU.l0.eq_2 ..) (Ev.pos (by omega) (Ev.pos (by omega) (Ev.pos (by omega) h1))), Ev.step (fun _ => yAM.l0.eq_2 ..) (Ev.pos (by omega) (Ev.pos (by omega) (Ev.pos (by omega) h2)))⟩
theorem Covered_yes (l : List NI) (hl : Sized l) (h1 : tierB l = true) (a b : Int) (h2 : rangeB a b = true) : Ev (fun k => yAU.f k l a b) (sm (cutL a b l) w2, true) ∧ Ev (fun k => yAM.f k l a b) (sm (cutL a b l) w2, true) := by
  unfold yAU.f yAM.f
  have hs := tier_short h1
  have hc := cutL_length a b l
  have hb := (cov_bound h1 h2).1
  obtain ⟨hr, hq⟩ := covered_at (cutL a b l) (by omega) (fun y hy => note_in (note_all (tier_cut h1 h2) hy)) (sm (cutL a b l) w2) (by omega) (cutL a b l).length 0 (by omega) 0 (Int.le_refl _) (by rw [List.drop_zero, Int.zero_add])
  exact ⟨Ev.bind (Ev.eq (r := true) (tiSpan_ l hl a b) (by simp [h1, h2])) (Ev.pos rfl (Ev.bind (cut_s l (by omega) a b) hr)), Ev.bind (Ev.eq (IsTier_ l hl) h1) (Ev.pos rfl (Ev.have ((isRange_ a b).trans (congrArg some h2)) (Ev.step (fun _ => yAM.j0.eq_2 ..) (Ev.neg (by decide) (Ev.bind (cut_i l (by omega) a b) hq)))))⟩
theorem Covered_no (l : List NI) (hl : Sized l) (a b : Int) (h : (tierB l && rangeB a b) = false) : Ev (fun k => yAU.f k l a b) (0, false) ∧ Ev (fun k => yAM.f k l a b) (0, false) := by
  unfold yAU.f yAM.f
  refine ⟨Ev.bind (Ev.eq (r := false) (tiSpan_ l hl a b) h) (Ev.neg (by decide) (Ev.some rfl)), ?_⟩
  cases h1 : tierB l with
  | false => exact Ev.bind (Ev.eq (IsTier_ l hl) h1) (Ev.neg (by decide) (Ev.step (fun _ => yAM.j0.eq_2 ..) (Ev.pos rfl (Ev.some rfl))))
  | true =>
    rw [h1, Bool.true_and] at h
    exact Ev.bind (Ev.eq (IsTier_ l hl) h1) (Ev.pos rfl (Ev.have ((isRange_ a b).trans (congrArg some h)) (Ev.step (fun _ => yAM.j0.eq_2 ..) (Ev.pos rfl (Ev.some rfl)))))
theorem gaps_at (l : List NI) (hl : l.length ≤ 1000) (b : Int) : ∀ d i : Nat, i + d = l.length → ∀ (out : List (List Int)) (at_ : Int), out.length ≤ i →
    Ev (fun k => yAg.l0 k b out at_ l (l.length : Int) (i : Int)) (out ++ gp b at_ (l.drop i), true) ∧ Ev (fun k => yAS.l0 k at_ out (l ++ [⟨b, b, (⟨#[]⟩ : ByteArray)⟩]) ((l ++ [(⟨b, b, (⟨#[]⟩ : ByteArray)⟩ : NI)]).length : Int) (i : Int)) (out ++ gp b at_ (l.drop i), true) := by
  have hlen : (l ++ [(⟨b, b, (⟨#[]⟩ : ByteArray)⟩ : NI)]).length = l.length + 1 := by simp
  intro d
  induction d with
  | zero =>
    intro i hi out a ho
    obtain rfl : i = l.length := by omega
    have hr : rd_T25 (l ++ [(⟨b, b, (⟨#[]⟩ : ByteArray)⟩ : NI)]) (l.length : Int) = ⟨b, b, (⟨#[]⟩ : ByteArray)⟩ := by
      show (l ++ [(⟨b, b, (⟨#[]⟩ : ByteArray)⟩ : NI)]).getD l.length z25 = _
      simp [List.getD_eq_getElem?_getD]
    rw [List.drop_eq_nil_of_le (Nat.le_refl _)]
    unfold gp
    by_cases h : a < b
    · rw [if_pos h]
      refine ⟨Ev.step (fun _ => yAg.l0.eq_2 ..) (Ev.neg (by omega) (Ev.pos h (Ev.pos (by omega) (Ev.some rfl)))), ?_⟩
      refine Ev.step (fun _ => yAS.l0.eq_2 ..) (Ev.pos (by rw [hlen]; omega) (Ev.pos (by omega) (Ev.pos (by rw [hlen]; omega) ?_)))
      rw [hr]
      refine Ev.pos h (Ev.pos (by omega) ?_)
      rw [wrap_succ (by omega)]
      exact Ev.step (fun _ => yAS.l0.eq_2 ..) (Ev.neg (by rw [hlen]; omega) (Ev.some rfl))
    · rw [if_neg h, List.append_nil]
      refine ⟨Ev.step (fun _ => yAg.l0.eq_2 ..) (Ev.neg (by omega) (Ev.neg h (Ev.some rfl))), ?_⟩
      refine Ev.step (fun _ => yAS.l0.eq_2 ..) (Ev.pos (by rw [hlen]; omega) (Ev.pos (by omega) (Ev.pos (by rw [hlen]; omega) ?_)))
      rw [hr]
      refine Ev.neg h ?_
      rw [wrap_succ (by omega)]
      exact Ev.step (fun _ => yAS.l0.eq_2 ..) (Ev.neg (by rw [hlen]; omega) (Ev.some rfl))
  | succ d ih =>
    intro i hi out a ho
    have hr : rd_T25 (l ++ [(⟨b, b, (⟨#[]⟩ : ByteArray)⟩ : NI)]) (i : Int) = rd_T25 l (i : Int) := by
      show (l ++ [(⟨b, b, (⟨#[]⟩ : ByteArray)⟩ : NI)]).getD i z25 = l.getD i z25
      rw [List.getD_eq_getElem?_getD, List.getD_eq_getElem?_getD, List.getElem?_append_left (by omega)]
    have e : rd_T25 l (i : Int) = l[i]'(by omega) := by
      show l.getD i z25 = _
      rw [List.getD_eq_getElem?_getD, List.getElem?_eq_getElem (by omega)]
      rfl
    rw [List.drop_eq_getElem_cons (show i < l.length by omega), ← e]
    unfold gp
    by_cases h : a < (rd_T25 l (i : Int)).f0
    · rw [if_pos h]
      obtain ⟨h3, h4⟩ := ih (i + 1) (by omega) (out ++ [[a, (rd_T25 l (i : Int)).f0]]) (rd_T25 l (i : Int)).f1 (by simp; omega)
      rw [← wrap_succ (by omega), List.append_assoc] at h3 h4
      refine ⟨Ev.step (fun _ => yAg.l0.eq_2 ..) (Ev.pos (by omega) (Ev.pos (by omega) (Ev.pos (by omega) (Ev.pos h (Ev.pos (by omega) h3))))), Ev.step (fun _ => yAS.l0.eq_2 ..) (Ev.pos (by rw [hlen]; omega) (Ev.pos (by omega) (Ev.pos (by rw [hlen]; omega) ?_)))⟩
      rw [hr]
      exact Ev.pos h (Ev.pos (by omega) h4)
    · rw [if_neg h, List.nil_append]
      obtain ⟨h3, h4⟩ := ih (i + 1) (by omega) out (rd_T25 l (i : Int)).f1 (by omega)
      rw [← wrap_succ (by omega)] at h3 h4
      refine ⟨Ev.step (fun _ => yAg.l0.eq_2 ..) (Ev.pos (by omega) (Ev.pos (by omega) (Ev.pos (by omega) (Ev.neg h h3)))), Ev.step (fun _ => yAS.l0.eq_2 ..) (Ev.pos (by rw [hlen]; omega) (Ev.pos (by omega) (Ev.pos (by rw [hlen]; omega) ?_)))⟩
      rw [hr]
      exact Ev.neg h h4
theorem Gaps_yes (l : List NI) (hl : Sized l) (h1 : tierB l = true) (a b : Int) (h2 : rangeB a b = true) : Ev (fun k => yAg.f k l a b) (gp b a (cutL a b l), true) ∧ Ev (fun k => yAS.f k l a b) (gp b a (cutL a b l), true) := by
  unfold yAg.f yAS.f
  have hs := tier_short h1
  have hc := cutL_length a b l
  obtain ⟨g3, g4⟩ := gaps_at (cutL a b l) (by omega) b (cutL a b l).length 0 (by omega) [] a (Nat.zero_le _)
  rw [List.drop_zero, List.nil_append] at g3 g4
  exact ⟨Ev.bind (Ev.eq (r := true) (tiSpan_ l hl a b) (by simp [h1, h2])) (Ev.pos rfl (Ev.bind (cut_s l (by omega) a b) g3)), Ev.bind (Ev.eq (IsTier_ l hl) h1) (Ev.pos rfl (Ev.have ((isRange_ a b).trans (congrArg some h2)) (Ev.step (fun _ => yAS.j0.eq_2 ..) (Ev.neg (by simp) (Ev.bind (cut_i l (by omega) a b) (Ev.pos (by omega) (Ev.have rfl g4)))))))⟩
theorem Gaps_no (l : List NI) (hl : Sized l) (a b : Int) (h : (tierB l && rangeB a b) = false) : Ev (fun k => yAg.f k l a b) ([], false) ∧ Ev (fun k => yAS.f k l a b) ([], false) := by
  unfold yAg.f yAS.f
  refine ⟨Ev.bind (Ev.eq (r := false) (tiSpan_ l hl a b) h) (Ev.neg (by decide) (Ev.some rfl)), ?_⟩
  cases h1 : tierB l with
  | false => exact Ev.bind (Ev.eq (IsTier_ l hl) h1) (Ev.neg (by simp) (Ev.step (fun _ => yAS.j0.eq_2 ..) (Ev.pos rfl (Ev.some rfl))))
  | true =>
    rw [h1, Bool.true_and] at h
    exact Ev.bind (Ev.eq (IsTier_ l hl) h1) (Ev.pos rfl (Ev.have ((isRange_ a b).trans (congrArg some h)) (Ev.step (fun _ => yAS.j0.eq_2 ..) (Ev.pos rfl (Ev.some rfl)))))
end Go.Proofs.YtglcpghappepaaaGreatDoor.MTiers
end
