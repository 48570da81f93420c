/- Plain laws of the functions that the claim's functions call: what they compute, with no program in sight. No condition. -/
import Derived.Test.YtpdcopbnhaoilaaDoorWAll
import Derived.Lib.Bytealg
import Derived.Test.YtpdcopbnhaoilaaDoorG1
import Derived.Test.YtpdcopbnhaoilaaDoorG0
import Derived.Test.YtpdcopbnhaoilaaDoorG10
import Derived.Test.YtpdcopbnhaoilaaDoorG11
import Derived.Test.YtpdcopbnhaoilaaDoorG12
import Derived.Test.YtpdcopbnhaoilaaDoorG13
import Derived.Test.YtpdcopbnhaoilaaDoorG14
import Derived.Test.YtpdcopbnhaoilaaDoorG30
import Derived.Lib.ItoaNum
import Derived.Test.YtpdcopbnhaoilaaDoorG15
import Derived.Test.YtpdcopbnhaoilaaDoorG26
import Derived.Test.YtpdcopbnhaoilaaDoorG27
import Derived.Test.YtpdcopbnhaoilaaDoorG28
import Derived.Test.YtpdcopbnhaoilaaDoorG31
import Derived.Test.YtpdcopbnhaoilaaDoorMSeq
import Derived.Lib.AtoiTie
import Derived.Laws.Strings
section
/- Plain lemmas on rounds, lists and numbers, for the laws' pure statements: no program in sight. -/
namespace Go.Proofs.YtpdcopbnhaoilaaDoor.MPure
open Go.RowKit Go.Proofs.YtpdcopbnhaoilaaDoorW.PrintWords Go.Proofs.YtpdcopbnhaoilaaDoorW.PrintLast

theorem Ev.pos {α : Type} {c : Prop} [Decidable c] {f g : Nat → Option α} {r : α} (h : c) (k : Ev f r) : Ev (fun n => if c then f n else g n) r := by
  simpa only [if_pos h] using k
theorem Ev.neg {α : Type} {c : Prop} [Decidable c] {f g : Nat → Option α} {r : α} (h : ¬ c) (k : Ev g r) : Ev (fun n => if c then f n else g n) r := by
  simpa only [if_neg h] using k
theorem Ev.some {α : Type} {a r : α} (h : a = r) : Ev (fun _ => Option.some a) r := h ▸ Ev.now a
theorem Ev.have {α β : Type} {a : Option α} {x : α} {f : Nat → α → Option β} {r : β} (h : a = .some x) (k : Ev (fun n => f n x) r) : Ev (fun n => a.bind (f n)) r := by
  subst h
  exact k
theorem Ev.ite {α : Type} {c : Prop} [Decidable c] {f g : Nat → Option α} {r : α} (h : c → Ev f r) (k : ¬ c → Ev g r) : Ev (fun n => if c then f n else g n) r := by
  by_cases hc : c
  · exact Ev.pos hc (h hc)
  · exact Ev.neg hc (k hc)
theorem Ev.eq {α : Type} {g : Nat → Option α} {a r : α} (k : Ev g a) (h : a = r) : Ev g r := h ▸ k
theorem wrap_in {n : Int} (h : -9223372036854775808 ≤ n) (h' : n ≤ 9223372036854775807) : wrap64 n = n := by unfold wrap64; omega
theorem wrap_succ {i : Nat} (h : i ≤ 9223372036854775806) : wrap64 ((i : Int) + 1) = ((i + 1 : Nat) : Int) := by unfold wrap64; omega
theorem wrap_pred {i : Nat} (h0 : 0 < i) (h : i ≤ 9223372036854775806) : wrap64 ((i : Int) - 1) = ((i - 1 : Nat) : Int) := by unfold wrap64; omega
/-- A loop that stops with 'false' at the first place at which p does not hold, and answers e behind the last one. -/
theorem loop_all {L : Nat → Int → Option Bool} (n : Nat) (p : Nat → Bool) (e : Bool) (hend : Ev (fun k => L k (n : Int)) e)
    (hyes : ∀ i : Nat, i < n → p i = true → ∀ r, Ev (fun k => L k ((i + 1 : Nat) : Int)) r → Ev (fun k => L k (i : Int)) r) (hno : ∀ i : Nat, i < n → p i = false → Ev (fun k => L k (i : Int)) false) :
    ∀ d i : Nat, i + d = n → Ev (fun k => L k (i : Int)) ((List.range' i d).all p && e)
  | 0, i, h => by
    have : i = n := by omega
    subst this
    simpa using hend
  | d + 1, i, h => by
    have hi : i < n := by omega
    cases hp : p i with
    | true =>
      have ih := loop_all n p e hend hyes hno d (i + 1) (by omega)
      have := hyes i hi hp _ ih
      simpa [List.range'_succ, hp] using this
    | false =>
      have := hno i hi hp
      simpa [List.range'_succ, hp] using this
/-- The same from its begin. -/
theorem loop_all0 {L : Nat → Int → Option Bool} (n : Nat) (p : Nat → Bool) (e : Bool) (hend : Ev (fun k => L k (n : Int)) e)
    (hyes : ∀ i : Nat, i < n → p i = true → ∀ r, Ev (fun k => L k ((i + 1 : Nat) : Int)) r → Ev (fun k => L k (i : Int)) r) (hno : ∀ i : Nat, i < n → p i = false → Ev (fun k => L k (i : Int)) false) :
    Ev (fun k => L k 0) ((List.range n).all p && e) := by
  have h := loop_all n p e hend hyes hno n 0 (by omega)
  rw [← List.range_eq_range'] at h
  exact h

theorem all_congr {n : Nat} {p q : Nat → Bool} (h : ∀ i, i < n → p i = q i) : (List.range n).all p = (List.range n).all q := by
  rw [Bool.eq_iff_iff]
  simp only [List.all_eq_true, List.mem_range]
  constructor
  · exact fun H i hi => by rw [← h i hi]; exact H i hi
  · exact fun H i hi => by rw [h i hi]; exact H i hi

/-- A list that is filled from its begin. -/
theorem set_fill {α : Type} {xs ys : List α} (h : ys.length = xs.length) {i : Nat} (hi : i < xs.length) : (xs.take i ++ ys.drop i).set i xs[i] = xs.take (i + 1) ++ ys.drop (i + 1) := by
  rw [List.set_append, if_neg (by simp; omega)]
  have : i - (List.take i xs).length = 0 := by simp; omega
  rw [this, List.drop_eq_getElem_cons (show i < ys.length by omega), List.set_cons_zero, List.take_succ_eq_append_getElem hi, List.append_assoc]
  rfl
theorem fill_all {α : Type} {xs ys : List α} (h : ys.length = xs.length) {i : Nat} (hi : xs.length ≤ i) : xs.take i ++ ys.drop i = xs := by
  rw [List.take_of_length_le hi, List.drop_of_length_le (by omega), List.append_nil]
theorem fill_length {α : Type} {xs ys : List α} (h : ys.length = xs.length) (i : Nat) : (xs.take i ++ ys.drop i).length = xs.length := by
  simp; omega
end Go.Proofs.YtpdcopbnhaoilaaDoor.MPure
end
section
/- Words: what the printed functions on texts of some letters come to. -/
namespace Go.Proofs.YtpdcopbnhaoilaaDoor.MWord
open Go.RowKit Go.Proofs.YtpdcopbnhaoilaaDoor.G Go.Proofs.YtpdcopbnhaoilaaDoorW.PrintWords Go.Proofs.YtpdcopbnhaoilaaDoorW.PrintLast Go.Proofs.YtpdcopbnhaoilaaDoor.MPure

/-- 1 to 8 bytes, of each of which p holds. -/
def wordB (p : Int → Bool) (s : ByteArray) : Bool := (List.range s.size).all (fun i => p (bt s (i : Int))) && decide (1 ≤ (s.size : Int) ∧ (s.size : Int) ≤ 8)
def capB (c : Int) : Bool := decide (65 ≤ c ∧ c ≤ 90)
theorem l1In_ (a b c : Int) : spec_l1In.f a b c = some (decide (b ≤ a ∧ a ≤ c)) := by
  unfold spec_l1In.f
  by_cases h : a ≥ b
  · rw [if_pos h]; simp [show b ≤ a from h]
  · rw [if_neg h]; simp [show ¬ b ≤ a from h]
theorem within_ (a b c : Int) : impl_within.f a b c = some (decide (b ≤ a ∧ a ≤ c)) := by
  unfold impl_within.f
  by_cases h : a ≥ b
  · rw [if_pos h]; simp [show b ≤ a from h]
  · rw [if_neg h]; simp [show ¬ b ≤ a from h]

/-- Which bytes are among some letters. -/
def amongB (ls : ByteArray) (c : Int) : Bool := decide (0 ≤ Lib.indexByte ls.data.toList c.toNat.toUInt8)
theorem hasOnly_ (s ls : ByteArray) (hs : s.size ≤ 140737488351232) : Ev (fun k => impl_hasOnly.f k s ls) ((List.range s.size).all (fun i => amongB ls (bt s (i : Int)))) := by
  refine Ev.eq (loop_all0 (L := fun k i => impl_hasOnly.l0 k s ls (s.size : Int) i) s.size (fun i => amongB ls (bt s (i : Int))) true ?_ ?_ ?_) (Bool.and_true _)
  · refine Ev.step (f := fun _ => _) (fun k => ?_) (Ev.some rfl)
    simp only [impl_hasOnly.l0]
    rw [if_neg (by omega)]
  · intro i hi hp r hr
    refine Ev.step (f := fun k => impl_hasOnly.l0 k s ls (s.size : Int) ((i + 1 : Nat) : Int)) (fun k => ?_) hr
    simp only [amongB, decide_eq_true_eq] at hp
    simp only [impl_hasOnly.l0, strings_IndexByte.f, Option.bind_some]
    rw [if_pos (by omega), if_pos (by omega), if_pos (by omega), if_neg (by omega), wrap_succ (by omega)]
  · intro i hi hp
    refine Ev.step (f := fun k => some false) (fun k => ?_) (Ev.some rfl)
    simp only [amongB, decide_eq_false_iff_not] at hp
    simp only [impl_hasOnly.l0, strings_IndexByte.f, Option.bind_some]
    rw [if_pos (by omega), if_pos (by omega), if_pos (by omega), if_pos (by omega)]
theorem isWordOf_ (s ls : ByteArray) (hs : s.size ≤ 140737488351232) : Ev (fun k => impl_isWordOf.f k s ls) (wordB (amongB ls) s) := by
  unfold impl_isWordOf.f
  refine Ev.have (within_ _ _ _) (Ev.ite (fun h => ?_) (fun h => ?_))
  · refine Ev.bind (hasOnly_ s ls hs) (Ev.some ?_)
    simp only [wordB]
    rw [h, Bool.and_true]
  · refine Ev.some ?_
    simp only [wordB]
    rw [Bool.eq_false_iff.2 h, Bool.and_false]
/-- The capital letters, as the program has them. -/
theorem caps (c : Int) (h0 : 0 ≤ c) (h1 : c ≤ 255) : amongB (⟨#[65, 66, 67, 68, 69, 70, 71, 72, 73, 74, 75, 76, 77, 78, 79, 80, 81, 82, 83, 84, 85, 86, 87, 88, 89, 90]⟩ : ByteArray) c = capB c := by
  have key : ∀ n : Nat, n < 256 → amongB (⟨#[65, 66, 67, 68, 69, 70, 71, 72, 73, 74, 75, 76, 77, 78, 79, 80, 81, 82, 83, 84, 85, 86, 87, 88, 89, 90]⟩ : ByteArray) (n : Int) = capB (n : Int) := by decide +kernel
  obtain ⟨n, rfl⟩ := Int.eq_ofNat_of_zero_le h0
  exact key n (by omega)
theorem wordB_congr {p q : Int → Bool} (h : ∀ c, 0 ≤ c → c ≤ 255 → p c = q c) (s : ByteArray) : wordB p s = wordB q s := by
  unfold wordB
  rw [all_congr (fun i _ => h _ (bt_range s _).1 (bt_range s _).2)]
theorem isWord_ (s : ByteArray) (hs : s.size ≤ 140737488351232) : Ev (fun k => impl_isWordOf.f k s (⟨#[65, 66, 67, 68, 69, 70, 71, 72, 73, 74, 75, 76, 77, 78, 79, 80, 81, 82, 83, 84, 85, 86, 87, 88, 89, 90]⟩ : ByteArray)) (wordB capB s) :=
  Ev.eq (isWordOf_ s _ hs) (wordB_congr caps s)

end Go.Proofs.YtpdcopbnhaoilaaDoor.MWord
end
section
/- What the printed functions on notes and tiers come to, by numbers and lists alone: words, notes, tiers, the copies and the comparison that the exact laws use. -/
namespace Go.Proofs.YtpdcopbnhaoilaaDoor.MNote
open Go.RowKit Go.Proofs.YtpdcopbnhaoilaaDoor.G Go.Proofs.YtpdcopbnhaoilaaDoorW.PrintWords Go.Proofs.YtpdcopbnhaoilaaDoorW.PrintLast Go.Proofs.YtpdcopbnhaoilaaDoor.MPure Go.Proofs.YtpdcopbnhaoilaaDoor.MWord

theorem fsWord_ (s : ByteArray) (hs : s.size ≤ 140737488351232) : Ev (fun k => spec_fsWord.f k s) (wordB capB s) := by
  refine loop_all0 (L := fun k i => spec_fsWord.l0 k s i) s.size (fun i => capB (bt s (i : Int))) _ ?_ ?_ ?_
  · refine Ev.step (f := fun _ => _) (fun k => ?_) (Ev.some rfl)
    simp only [spec_fsWord.l0]
    rw [if_neg (by omega), l1In_]
    rfl
  · intro i hi hp r hr
    refine Ev.step (f := fun k => spec_fsWord.l0 k s ((i + 1 : Nat) : Int)) (fun k => ?_) hr
    simp only [capB, decide_eq_true_eq] at hp
    simp only [spec_fsWord.l0]
    rw [if_pos (by omega), if_pos (by omega), if_neg (by omega), if_neg (by omega), wrap_succ (by omega)]
  · intro i hi hp
    simp only [capB, decide_eq_false_iff_not] at hp
    by_cases h : bt s (i : Int) < 65
    · refine Ev.step (f := fun k => some false) (fun k => ?_) (Ev.some rfl)
      simp only [spec_fsWord.l0]
      rw [if_pos (by omega), if_pos (by omega), if_pos h]
    · refine Ev.step (f := fun k => some false) (fun k => ?_) (Ev.some rfl)
      simp only [spec_fsWord.l0]
      rw [if_pos (by omega), if_pos (by omega), if_neg h, if_pos (by omega)]

/-! ### notes -/
def frameB (n : Int) : Bool := decide (0 ≤ n ∧ n ≤ 99999)
def noteB (f t : Int) (g : ByteArray) : Bool := frameB f && frameB t && decide (f < t) && wordB capB g
theorem tiFrame_ (a : Int) : spec_tiFrame.f a = some (frameB a) := by
  unfold spec_tiFrame.f
  rw [l1In_]
  rfl
theorem isFrame_ (a : Int) : impl_isFrame.f a = some (frameB a) := by
  unfold impl_isFrame.f
  rw [within_]
  rfl
theorem tiNote_ (f t : Int) (g : ByteArray) (hg : g.size ≤ 140737488351232) : Ev (fun k => spec_tiNote.f k f t g) (noteB f t g) := by
  unfold spec_tiNote.f noteB
  refine Ev.have (tiFrame_ _) (Ev.ite (fun h => ?_) (fun h => Ev.some (by rw [Bool.eq_false_iff.2 h]; rfl)))
  refine Ev.have (tiFrame_ _) (Ev.ite (fun h2 => ?_) (fun h2 => Ev.some (by rw [Bool.eq_false_iff.2 h2]; simp)))
  refine Ev.ite (fun h3 => ?_) (fun h3 => Ev.some (by simp [h3]))
  exact Ev.bind (fsWord_ g hg) (Ev.some (by simp [h, h2, h3]))
theorem IsNote_ (f t : Int) (g : ByteArray) (hg : g.size ≤ 140737488351232) : Ev (fun k => impl_IsNote.f k f t g) (noteB f t g) := by
  unfold impl_IsNote.f noteB
  refine Ev.have (isFrame_ _) (Ev.ite (fun h => ?_) (fun h => Ev.some (by rw [Bool.eq_false_iff.2 h]; rfl)))
  refine Ev.have (isFrame_ _) (Ev.ite (fun h2 => ?_) (fun h2 => Ev.some (by rw [Bool.eq_false_iff.2 h2]; simp)))
  refine Ev.ite (fun h3 => ?_) (fun h3 => Ev.some (by simp [h3]))
  exact Ev.bind (isWord_ g hg) (Ev.some (by simp [h, h2, h3]))
/-! ### tiers -/
abbrev NI := S84
def atN (l : List NI) (i : Nat) : NI := l.getD i z84
theorem atN_mem {l : List NI} {i : Nat} (h : i < l.length) : atN l i ∈ l := by
  unfold atN
  rw [List.getD_eq_getElem?_getD, List.getElem?_eq_getElem h]
  exact List.getElem_mem h
/-- What the notes' texts bear. -/
def Sized (l : List NI) : Prop := l.length ≤ 140737488351232 ∧ ∀ x, x ∈ l → x.f2.size ≤ 140737488351232
def tierP (l : List NI) (i : Nat) : Bool := noteB (atN l i).f0 (atN l i).f1 (atN l i).f2 && (decide (i = 0) || decide ((atN l (i - 1)).f1 ≤ (atN l i).f0))
def tierB (l : List NI) : Bool := (List.range l.length).all (tierP l) && decide ((l.length : Int) ≤ 40)

theorem tiGood_ (l : List NI) (hl : Sized l) : Ev (fun k => spec_tiGood.f k l) (tierB l) := by
  obtain ⟨hn, hs⟩ := hl
  refine loop_all0 (L := fun k i => spec_tiGood.l0 k l l (l.length : Int) i) l.length (tierP l) _ ?_ ?_ ?_
  · exact Ev.step (fun _ => spec_tiGood.l0.eq_2 ..) (Ev.neg (by omega) (Ev.some rfl))
  · intro i hi hp r hr
    simp only [tierP, Bool.and_eq_true] at hp
    refine Ev.step (fun _ => spec_tiGood.l0.eq_2 ..) (Ev.pos (by omega) (Ev.pos (by omega) (Ev.pos (by omega) (Ev.bind (tiNote_ _ _ _ (hs _ (atN_mem hi))) (Ev.pos hp.1 (Ev.ite (fun h0 => ?_) (fun h0 => ?_)))))))
    · rw [wrap_pred (by omega) (by omega)]
      refine Ev.pos (by omega) (Ev.pos (by omega) (Ev.neg ?_ ?_))
      · have := hp.2
        simp only [Bool.or_eq_true, decide_eq_true_eq] at this
        have h : (atN l (i - 1)).f1 ≤ (atN l i).f0 := by
          rcases this with h | h
          · omega
          · exact h
        exact Int.not_lt.2 h
      · rw [wrap_succ (by omega)]
        exact hr
    · rw [wrap_succ (by omega)]
      exact hr
  · intro i hi hp
    refine Ev.step (fun _ => spec_tiGood.l0.eq_2 ..) (Ev.pos (by omega) (Ev.pos (by omega) (Ev.pos (by omega) (Ev.bind (tiNote_ _ _ _ (hs _ (atN_mem hi))) (Ev.ite (fun h1 => ?_) (fun _ => Ev.some rfl))))))
    simp only [tierP, Bool.and_eq_false_iff, Bool.or_eq_false_iff, decide_eq_false_iff_not] at hp
    rcases hp with hp | ⟨hp, hq⟩
    · exact absurd (h1.symm.trans hp) (by decide)
    · refine Ev.pos (by omega) ?_
      rw [wrap_pred (by omega) (by omega)]
      exact Ev.pos (by omega) (Ev.pos (by omega) (Ev.pos (Int.not_le.1 hq) (Ev.some rfl)))
theorem IsTier_ (l : List NI) (hl : Sized l) : Ev (fun k => impl_IsTier.f k l) (tierB l) := by
  obtain ⟨hn, hs⟩ := hl
  refine loop_all0 (L := fun k i => impl_IsTier.l0 k l l (l.length : Int) i) l.length (tierP l) _ ?_ ?_ ?_
  · exact Ev.step (fun _ => impl_IsTier.l0.eq_2 ..) (Ev.neg (by omega) (Ev.some rfl))
  · intro i hi hp r hr
    simp only [tierP, Bool.and_eq_true] at hp
    refine Ev.step (fun _ => impl_IsTier.l0.eq_2 ..) (Ev.pos (by omega) (Ev.pos (by omega) (Ev.pos (by omega) (Ev.bind (IsNote_ _ _ _ (hs _ (atN_mem hi))) (Ev.pos hp.1 (Ev.ite (fun h0 => ?_) (fun h0 => ?_)))))))
    · rw [wrap_pred (by omega) (by omega)]
      refine Ev.pos (by omega) (Ev.pos (by omega) (Ev.neg ?_ ?_))
      · have := hp.2
        simp only [Bool.or_eq_true, decide_eq_true_eq] at this
        have h : (atN l (i - 1)).f1 ≤ (atN l i).f0 := by
          rcases this with h | h
          · omega
          · exact h
        exact Int.not_lt.2 h
      · rw [wrap_succ (by omega)]
        exact hr
    · rw [wrap_succ (by omega)]
      exact hr
  · intro i hi hp
    refine Ev.step (fun _ => impl_IsTier.l0.eq_2 ..) (Ev.pos (by omega) (Ev.pos (by omega) (Ev.pos (by omega) (Ev.bind (IsNote_ _ _ _ (hs _ (atN_mem hi))) (Ev.ite (fun h1 => ?_) (fun _ => Ev.some rfl))))))
    simp only [tierP, Bool.and_eq_false_iff, Bool.or_eq_false_iff, decide_eq_false_iff_not] at hp
    rcases hp with hp | ⟨hp, hq⟩
    · exact absurd (h1.symm.trans hp) (by decide)
    · refine Ev.pos (by omega) ?_
      rw [wrap_pred (by omega) (by omega)]
      exact Ev.pos (by omega) (Ev.pos (by omega) (Ev.pos (Int.not_le.1 hq) (Ev.some rfl)))

/-! ### what the exact laws do with notes: sizes, copies, comparison -/
theorem eqNote_ (a : NI) : laws_eqNote.f a.f0 a.f1 a.f2 a.f0 a.f1 a.f2 = some true := by
  unfold laws_eqNote.f
  rw [if_pos rfl, if_pos rfl, if_pos rfl]
theorem eqNoteS_ (l : List NI) (hl : l.length ≤ 140737488351232) : Ev (fun k => laws_eqNoteS.f k l l) true := by
  unfold laws_eqNoteS.f
  refine Ev.pos rfl ?_
  have h := loop_all0 (L := fun k i => laws_eqNoteS.l0 k l l i) l.length (fun _ => true) true ?_ ?_ ?_
  · exact Ev.eq h (by simp)
  · exact Ev.step (fun _ => laws_eqNoteS.l0.eq_2 ..) (Ev.neg (by omega) (Ev.some rfl))
  · intro i hi _ r hr
    refine Ev.step (fun _ => laws_eqNoteS.l0.eq_2 ..) (Ev.pos (by omega) (Ev.pos (by omega) (Ev.pos (by omega) (Ev.have (eqNote_ _) (Ev.pos rfl ?_)))))
    rw [wrap_succ (by omega)]
    exact hr
  · intro i _ h
    cases h
end Go.Proofs.YtpdcopbnhaoilaaDoor.MNote
end
section
/- The law's marks as texts: what markText comes to (that it comes to some text, and always to the same). -/
namespace Go.Proofs.YtpdcopbnhaoilaaDoor.MText
open Go.RowKit Go.Proofs.YtpdcopbnhaoilaaDoor.G Go.Proofs.YtpdcopbnhaoilaaDoorW.PrintWords Go.Proofs.YtpdcopbnhaoilaaDoorW.PrintLast Go.Proofs.YtpdcopbnhaoilaaDoor.MPure

theorem one_size (x : Int) : (strOfNums [x]).size = 1 := rfl
theorem markText_loop : ∀ d : Nat, d ≤ 40 → ∀ (a : Int) (s : ByteArray), 0 ≤ a → a < 10 ^ d → a ≤ 4611686018427387904 → s.size + d ≤ 100 → ∃ t, Ev (fun k => laws_markText.l0 k a s) t := by
  intro d
  induction d with
  | zero =>
    intro _ a s h0 h1 _ hs
    refine ⟨_, Ev.step (fun _ => laws_markText.l0.eq_2 ..) (Ev.neg (by simp at h1; omega) (Ev.pos (by omega) (Ev.some rfl)))⟩
  | succ d ih =>
    intro hd a s h0 h1 hb hs
    by_cases hp : a > 0
    · have e : wrap64 (Int.tdiv a 10) = a / 10 := by
        rw [Int.tdiv_eq_ediv_of_nonneg h0, wrap_in (by omega) (by omega)]
      have hlt : a / 10 < 10 ^ d := by
        rw [Int.pow_succ] at h1
        omega
      obtain ⟨t, ht⟩ := ih (by omega) (a / 10) (strOfNums [wrap64 (48 + Int.tmod a 10) % 256] ++ s) (by omega) hlt (by omega) (by rw [ByteArray.size_append, one_size]; omega)
      refine ⟨t, Ev.step (fun _ => laws_markText.l0.eq_2 ..) (Ev.pos hp (Ev.have rfl (Ev.pos (by rw [one_size]; omega) ?_)))⟩
      rw [e]
      exact ht
    · exact ⟨_, Ev.step (fun _ => laws_markText.l0.eq_2 ..) (Ev.neg hp (Ev.pos (by omega) (Ev.some rfl)))⟩
theorem markText_any (a : Int) (h0 : 0 ≤ a) (h1 : a ≤ 4611686018427387904) : ∃ t, Ev (fun k => laws_markText.f k a) t := by
  unfold laws_markText.f
  by_cases h : a ≤ 0
  · exact ⟨_, Ev.pos h (Ev.some rfl)⟩
  · obtain ⟨t, ht⟩ := markText_loop 19 (by omega) a ⟨#[]⟩ h0 (by have : (10 : Int) ^ 19 = 10000000000000000000 := by decide
                                                                 omega) h1 (by decide)
    exact ⟨t, Ev.neg h ht⟩
/-- The text of a mark. -/
noncomputable def mt (a : Int) : ByteArray := if h : 0 ≤ a ∧ a ≤ 4611686018427387904 then Classical.choose (markText_any a h.1 h.2) else ⟨#[]⟩
theorem markText_ (a : Int) (h0 : 0 ≤ a) (h1 : a ≤ 4611686018427387904) : Ev (fun k => laws_markText.f k a) (mt a) := by
  unfold mt
  rw [dif_pos ⟨h0, h1⟩]
  exact Classical.choose_spec (markText_any a h0 h1)
end Go.Proofs.YtpdcopbnhaoilaaDoor.MText
end
section
/- The laws' marks on notes: what is written into a list of notes, and that it is found again. -/
namespace Go.Proofs.YtpdcopbnhaoilaaDoor.MMarkN
open Go.RowKit Go.Proofs.YtpdcopbnhaoilaaDoor.G Go.Proofs.YtpdcopbnhaoilaaDoorW.PrintWords Go.Proofs.YtpdcopbnhaoilaaDoorW.PrintLast Go.Proofs.YtpdcopbnhaoilaaDoor.MPure Go.Proofs.YtpdcopbnhaoilaaDoor.MNote Go.Proofs.YtpdcopbnhaoilaaDoor.MText

noncomputable def mkN (n : Int) (i : Nat) : NI := ⟨n + 3 * i, n + 3 * i + 1, mt (n + 3 * i + 2)⟩
noncomputable def marksN (n : Int) (m : Nat) : List NI := (List.range m).map (mkN n)
theorem marksN_length (n : Int) (m : Nat) : (marksN n m).length = m := by simp [marksN]
theorem marksN_get (n : Int) (m i : Nat) (h : i < m) : (marksN n m)[i]'(by rw [marksN_length]; exact h) = mkN n i := by simp [marksN]
theorem rd_set (xs : List NI) (i : Nat) (v : NI) (h : i < xs.length) : rd_T84 (xs.set i v) (i : Int) = v := by
  show (xs.set i v).getD i z84 = v
  rw [List.getD_eq_getElem?_getD, List.getElem?_set_self h]
  rfl
theorem markNoteS_ (l : List NI) (hl : l.length ≤ 140737488351232) (n : Int) (h0 : 0 ≤ n) (h1 : n ≤ 1152921504606846976) : Ev (fun k => laws_markNoteS.f k l n) (n + 3 * l.length, marksN n l.length) := by
  have key : ∀ d i : Nat, i + d = l.length → Ev (fun k => laws_markNoteS.l0 k ((marksN n l.length).take i ++ l.drop i) (n + 3 * i) (i : Int)) (n + 3 * l.length, marksN n l.length) := by
    intro d
    induction d with
    | zero =>
      intro i hi
      have hlen := fill_length (xs := marksN n l.length) (ys := l) (by rw [marksN_length]) i
      rw [marksN_length] at hlen
      refine Ev.step (fun _ => laws_markNoteS.l0.eq_2 ..) (Ev.neg (by omega) (Ev.some ?_))
      rw [fill_all (by rw [marksN_length]) (by rw [marksN_length]; omega)]
      obtain rfl : i = l.length := by omega
      rfl
    | succ d ih =>
      intro i hi
      have hlen := fill_length (xs := marksN n l.length) (ys := l) (by rw [marksN_length]) i
      rw [marksN_length] at hlen
      have h := ih (i + 1) (by omega)
      have e1 : wrap64 (n + 3 * (i : Int) + 1) = n + 3 * i + 1 := wrap_in (by omega) (by omega)
      have e2 : wrap64 (n + 3 * (i : Int) + 1 + 1) = n + 3 * i + 2 := by rw [wrap_in (by omega) (by omega)]; omega
      have e3 : wrap64 (n + 3 * (i : Int) + 2 + 1) = n + 3 * ((i + 1 : Nat) : Int) := by rw [wrap_in (by omega) (by omega)]; omega
      refine Ev.step (fun _ => laws_markNoteS.l0.eq_2 ..) (Ev.pos (by omega) (Ev.pos (by omega) ?_))
      generalize hx : (marksN n l.length).take i ++ l.drop i = x at hlen ⊢
      have hix : i < x.length := by omega
      rw [e1, e2, e3, wrap_succ (by omega)]
      refine Ev.have rfl (Ev.have rfl (Ev.bind (markText_ _ (by omega) (by omega)) ?_))
      have ei : ((i : Int)).toNat = i := rfl
      rw [ei, rd_set _ i _ hix]
      simp only [List.set_set]
      rw [rd_set _ i _ hix, ← hx]
      have hs : ((marksN n l.length).take i ++ l.drop i).set i (mkN n i) = (marksN n l.length).take (i + 1) ++ l.drop (i + 1) := by
        rw [← marksN_get n l.length i (by omega)]
        exact set_fill (by rw [marksN_length]) (by rw [marksN_length]; omega)
      rw [← hs] at h
      exact h
  have h := key l.length 0 (by omega)
  unfold laws_markNoteS.f
  simpa using h
theorem heldNoteS_ (m : Nat) (hl : m ≤ 140737488351232) (n : Int) (h0 : 0 ≤ n) (h1 : n ≤ 1152921504606846976) : Ev (fun k => laws_heldNoteS.f k (marksN n m) n) (n + 3 * m) := by
  have key : ∀ d i : Nat, i + d = m → Ev (fun k => laws_heldNoteS.l0 k (marksN n m) (n + 3 * i) (i : Int)) (n + 3 * m) := by
    intro d
    induction d with
    | zero =>
      intro i hi
      obtain rfl : i = m := by omega
      exact Ev.step (fun _ => laws_heldNoteS.l0.eq_2 ..) (Ev.neg (by rw [marksN_length]; omega) (Ev.some rfl))
    | succ d ih =>
      intro i hi
      have h := ih (i + 1) (by omega)
      have e1 : wrap64 (n + 3 * (i : Int) + 1) = n + 3 * i + 1 := wrap_in (by omega) (by omega)
      have e2 : wrap64 (n + 3 * (i : Int) + 1 + 1) = n + 3 * i + 2 := by rw [wrap_in (by omega) (by omega)]; omega
      have e3 : wrap64 (n + 3 * (i : Int) + 2 + 1) = n + 3 * ((i + 1 : Nat) : Int) := by rw [wrap_in (by omega) (by omega)]; omega
      have er : rd_T84 (marksN n m) (i : Int) = mkN n i := by
        show (marksN n m).getD i z84 = _
        rw [List.getD_eq_getElem?_getD, List.getElem?_eq_getElem (by rw [marksN_length]; omega), marksN_get n m i (by omega)]
        rfl
      refine Ev.step (fun _ => laws_heldNoteS.l0.eq_2 ..) (Ev.pos (by rw [marksN_length]; omega) (Ev.pos (by omega) ?_))
      rw [e1, e2, e3, wrap_succ (by omega), er]
      exact Ev.pos rfl (Ev.pos rfl (Ev.bind (markText_ _ (by omega) (by omega)) (Ev.pos rfl h)))
  have h := key m 0 (by omega)
  unfold laws_heldNoteS.f
  simpa using h
end Go.Proofs.YtpdcopbnhaoilaaDoor.MMarkN
end
section
/- Numerals: what the reference writes of a number that is not negative is what strconv.Itoa writes, no condition but the number's size; and how long it is. -/
namespace Go.Proofs.YtpdcopbnhaoilaaDoor.MNum
open Go.RowKit Go.Proofs.YtpdcopbnhaoilaaDoor.G Go.Proofs.YtpdcopbnhaoilaaDoorW.PrintWords Go.Proofs.YtpdcopbnhaoilaaDoorW.PrintLast Go.Proofs.YtpdcopbnhaoilaaDoor.MPure

/-- The decimal numeral of a number. -/
def num (n : Int) : ByteArray := ⟨(Lib.itoa n).toArray⟩
def numN (u : Nat) : ByteArray := ⟨(Lib.decDigits u).toArray⟩
theorem num_nat (u : Nat) : num (u : Int) = numN u := by
  unfold num numN Lib.itoa
  rw [if_neg (by omega), Int.toNat_natCast]
theorem digits_len : ∀ (d u : Nat), u < 10 ^ (d + 1) → (Lib.decDigits u).length ≤ d + 1 := by
  intro d
  induction d with
  | zero =>
    intro u hu
    rw [Lib.decDigits, dif_pos (by simpa using hu)]
    exact Nat.le_refl _
  | succ d ih =>
    intro u hu
    rw [Lib.decDigits]
    split
    · exact Nat.succ_le_succ (Nat.zero_le _)
    · have := ih (u / 10) (by rw [Nat.pow_succ] at hu; omega)
      rw [List.length_append, List.length_singleton]
      omega
theorem numN_size (d u : Nat) (h : u < 10 ^ (d + 1)) : (numN u).size ≤ d + 1 := digits_len d u h
theorem one_digit (d : Nat) (h : d < 10) : strOfNums [(wrap64 (48 + (d : Int))) % 256] = ⟨[UInt8.ofNat (48 + d)].toArray⟩ := by
  have e : (wrap64 (48 + (d : Int))) % 256 = ((48 + d : Nat) : Int) := by unfold wrap64; omega
  rw [e]
  rfl
theorem bytes_snoc (l : List UInt8) (x : UInt8) : (⟨l.toArray⟩ : ByteArray) ++ ⟨[x].toArray⟩ = ⟨(l ++ [x]).toArray⟩ := by
  apply ByteArray.ext
  simp
theorem l1Num_ : ∀ (d u : Nat), u < 10 ^ (d + 1) → d ≤ 18 → Ev (fun k => spec_l1Num.f k (u : Int)) (numN u) := by
  intro d
  induction d with
  | zero =>
    intro u hu _
    have hu : u < 10 := by simpa using hu
    refine Ev.step (fun _ => spec_l1Num.f.eq_2 ..) (Ev.pos (by omega) (Ev.some ?_))
    rw [one_digit u hu]
    unfold numN
    rw [Lib.decDigits, dif_pos hu]
  | succ d ih =>
    intro u hu hd
    by_cases h : u < 10
    · refine Ev.step (fun _ => spec_l1Num.f.eq_2 ..) (Ev.pos (by omega) (Ev.some ?_))
      rw [one_digit u h]
      unfold numN
      rw [Lib.decDigits, dif_pos h]
    · have h10 : u / 10 < 10 ^ (d + 1) := by rw [Nat.pow_succ] at hu; omega
      have hb : u < 10 ^ 20 := Nat.lt_of_lt_of_le hu (Nat.pow_le_pow_right (by decide) (by omega))
      have e1 : wrap64 (Int.tdiv (u : Int) 10) = ((u / 10 : Nat) : Int) := by
        rw [show Int.tdiv (u : Int) 10 = ((u / 10 : Nat) : Int) from rfl]
        have : u / 10 < 10 ^ 18 := Nat.lt_of_lt_of_le h10 (Nat.pow_le_pow_right (by decide) (by omega))
        exact wrap_in (by omega) (by have h18 : (10 : Nat) ^ 18 = 1000000000000000000 := by decide
                                     omega)
      have e2 : Int.tmod (u : Int) 10 = ((u % 10 : Nat) : Int) := rfl
      have key := ih (u / 10) h10 (by omega)
      rw [← e1] at key
      have hs := numN_size d (u / 10) h10
      refine Ev.step (fun _ => spec_l1Num.f.eq_2 ..) (Ev.neg (by omega) (Ev.bind key (Ev.have rfl (Ev.pos ?_ (Ev.some ?_)))))
      · rw [e2, one_digit _ (Nat.mod_lt _ (by decide))]
        show (numN (u / 10)).size + 1 ≤ 9223372036854775807
        omega
      · rw [e2, one_digit _ (Nat.mod_lt _ (by decide))]
        unfold numN
        rw [bytes_snoc]
        rw [Lib.decDigits.eq_1 u, dif_neg h]
theorem l1Num_at (n : Int) (h0 : 0 ≤ n) (h1 : n < 1000000) : Ev (fun k => spec_l1Num.f k n) (num n) := by
  obtain ⟨u, rfl⟩ : ∃ u : Nat, n = (u : Int) := ⟨n.toNat, by omega⟩
  rw [num_nat]
  exact l1Num_ 5 u (by omega) (by omega)
theorem Itoa_at (n : Int) (h0 : 0 ≤ n) (h1 : n < 1000000) : strconv_Itoa.f n = some (num n) := if_pos ⟨by omega, by omega⟩
theorem num_size (n : Int) (h0 : 0 ≤ n) (h1 : n < 1000000) : (num n).size ≤ 6 := by
  obtain ⟨u, rfl⟩ : ∃ u : Nat, n = (u : Int) := ⟨n.toNat, by omega⟩
  rw [num_nat]
  exact numN_size 5 u (by omega)
end Go.Proofs.YtpdcopbnhaoilaaDoor.MNum
end
section
/- The text of a tier: both functions write the same one; no condition but that it is a tier. -/
namespace Go.Proofs.YtpdcopbnhaoilaaDoor.MTierT
open Go.RowKit Go.Proofs.YtpdcopbnhaoilaaDoor.G Go.Proofs.YtpdcopbnhaoilaaDoorW.PrintWords Go.Proofs.YtpdcopbnhaoilaaDoorW.PrintLast Go.Proofs.YtpdcopbnhaoilaaDoor.MPure Go.Proofs.YtpdcopbnhaoilaaDoor.MWord Go.Proofs.YtpdcopbnhaoilaaDoor.MNote Go.Proofs.YtpdcopbnhaoilaaDoor.MNum

/-- What is written of one note. -/
def piece (x : NI) : ByteArray := ((((num x.f0 ++ (⟨#[45]⟩ : ByteArray)) ++ num x.f1) ++ (⟨#[32]⟩ : ByteArray)) ++ x.f2) ++ (⟨#[59]⟩ : ByteArray)
def tailT (s : ByteArray) (l : List NI) : ByteArray := l.foldl (fun s x => s ++ piece x) s
def tierT (l : List NI) : ByteArray := tailT ⟨#[]⟩ l
theorem tier_40 {l : List NI} (h : tierB l = true) : l.length ≤ 40 := by
  unfold tierB at h
  have := of_decide_eq_true (Bool.and_eq_true_iff.1 h).2
  omega
theorem tier_note {l : List NI} (h : tierB l = true) {i : Nat} (hi : i < l.length) : noteB (atN l i).f0 (atN l i).f1 (atN l i).f2 = true := by
  unfold tierB at h
  exact (Bool.and_eq_true_iff.1 (List.all_eq_true.1 (Bool.and_eq_true_iff.1 h).1 i (List.mem_range.2 hi))).1
theorem note_says {f t : Int} {g : ByteArray} (h : noteB f t g = true) : (0 ≤ f ∧ f < 1000000) ∧ (0 ≤ t ∧ t < 1000000) ∧ g.size ≤ 8 := by
  unfold noteB at h
  obtain ⟨h, hw⟩ := Bool.and_eq_true_iff.1 h
  obtain ⟨h, _⟩ := Bool.and_eq_true_iff.1 h
  obtain ⟨ha, hb⟩ := Bool.and_eq_true_iff.1 h
  have ha := of_decide_eq_true ha
  have hb := of_decide_eq_true hb
  exact ⟨⟨ha.1, by omega⟩, ⟨hb.1, by omega⟩, by
    unfold wordB at hw
    have := of_decide_eq_true (Bool.and_eq_true_iff.1 hw).2
    omega⟩
theorem drop_at {l : List NI} {i : Nat} (h : i < l.length) : l.drop i = atN l i :: l.drop (i + 1) := by
  rw [List.drop_eq_getElem_cons h]
  congr 1
  unfold atN
  rw [List.getD_eq_getElem?_getD, List.getElem?_eq_getElem h]
  rfl
theorem piece_size {x : NI} (h : noteB x.f0 x.f1 x.f2 = true) : (piece x).size ≤ 23 := by
  obtain ⟨⟨a0, a1⟩, ⟨b0, b1⟩, c⟩ := note_says h
  have ha := num_size x.f0 a0 a1
  have hb := num_size x.f1 b0 b1
  have e1 : (⟨#[45]⟩ : ByteArray).size = 1 := rfl
  have e2 : (⟨#[32]⟩ : ByteArray).size = 1 := rfl
  have e3 : (⟨#[59]⟩ : ByteArray).size = 1 := rfl
  unfold piece
  simp only [ByteArray.size_append]
  omega
theorem text_loops (l : List NI) (h : tierB l = true) : ∀ d i : Nat, i + d = l.length → ∀ s : ByteArray, s.size ≤ 23 * i →
    Ev (fun k => spec_tiText.l0 k s l (l.length : Int) (i : Int)) (tailT s (l.drop i)) ∧ Ev (fun k => impl_tierText.l0 k s l (l.length : Int) (i : Int)) (tailT s (l.drop i)) := by
  have h40 := tier_40 h
  intro d
  induction d with
  | zero =>
    intro i hi s _
    rw [List.drop_of_length_le (by omega)]
    exact ⟨Ev.step (fun _ => spec_tiText.l0.eq_2 ..) (Ev.neg (by omega) (Ev.some rfl)), Ev.step (fun _ => impl_tierText.l0.eq_2 ..) (Ev.neg (by omega) (Ev.some rfl))⟩
  | succ d ih =>
    intro i hi s hs
    have hn := tier_note h (i := i) (by omega)
    have hz := piece_size hn
    obtain ⟨⟨a0, a1⟩, ⟨b0, b1⟩, c⟩ := note_says hn
    have ha := num_size _ a0 a1
    have hb := num_size _ b0 b1
    have e1 : (⟨#[45]⟩ : ByteArray).size = 1 := rfl
    have e2 : (⟨#[32]⟩ : ByteArray).size = 1 := rfl
    have e3 : (⟨#[59]⟩ : ByteArray).size = 1 := rfl
    have p := ih (i + 1) (by omega) (s ++ piece (atN l i)) (by rw [ByteArray.size_append]; omega)
    rw [← wrap_succ (by omega)] at p
    rw [drop_at (by omega)]
    have s1 : (num (atN l i).f0).size + 1 ≤ 9223372036854775807 := by omega
    have s2 : (num (atN l i).f0 ++ (⟨#[45]⟩ : ByteArray)).size + (num (atN l i).f1).size ≤ 9223372036854775807 := by simp only [ByteArray.size_append]; omega
    have s3 : ((num (atN l i).f0 ++ (⟨#[45]⟩ : ByteArray)) ++ num (atN l i).f1).size + 1 ≤ 9223372036854775807 := by simp only [ByteArray.size_append]; omega
    have s4 : (((num (atN l i).f0 ++ (⟨#[45]⟩ : ByteArray)) ++ num (atN l i).f1) ++ (⟨#[32]⟩ : ByteArray)).size + (atN l i).f2.size ≤ 9223372036854775807 := by simp only [ByteArray.size_append]; omega
    have s5 : ((((num (atN l i).f0 ++ (⟨#[45]⟩ : ByteArray)) ++ num (atN l i).f1) ++ (⟨#[32]⟩ : ByteArray)) ++ (atN l i).f2).size + 1 ≤ 9223372036854775807 := by simp only [ByteArray.size_append]; omega
    have s6 : s.size + (piece (atN l i)).size ≤ 9223372036854775807 := by omega
    exact ⟨Ev.step (fun _ => spec_tiText.l0.eq_2 ..) (Ev.pos (by omega) (Ev.pos (by omega) (Ev.pos (by omega) (Ev.bind (l1Num_at _ a0 a1) (Ev.pos s1 (Ev.bind (l1Num_at _ b0 b1) (Ev.pos s2 (Ev.pos s3 (Ev.pos s4 (Ev.pos s5 (Ev.pos s6 p.1))))))))))),
      Ev.step (fun _ => impl_tierText.l0.eq_2 ..) (Ev.pos (by omega) (Ev.pos (by omega) (Ev.pos (by omega) (Ev.have (Itoa_at _ a0 a1) (Ev.pos s1 (Ev.have (Itoa_at _ b0 b1) (Ev.pos s2 (Ev.pos s3 (Ev.pos s4 (Ev.pos s5 (Ev.pos s6 p.2)))))))))))⟩
end Go.Proofs.YtpdcopbnhaoilaaDoor.MTierT
end
section
/- Texts cut at a byte, numerals read back: what the printed functions of ParseTier come to at any text, and at the pieces of a tier's text. -/
namespace Go.Proofs.YtpdcopbnhaoilaaDoor.MSplit
open Go.RowKit Go.Proofs.YtpdcopbnhaoilaaDoor.G Go.Proofs.YtpdcopbnhaoilaaDoorW.PrintWords Go.Proofs.YtpdcopbnhaoilaaDoorW.PrintLast Go.Proofs.YtpdcopbnhaoilaaDoor.MPure Go.Proofs.YtpdcopbnhaoilaaDoor.MWord Go.Proofs.YtpdcopbnhaoilaaDoor.MNum Go.Proofs.YtpdcopbnhaoilaaDoor.MSeq

/-! ### lists of MSeq.bytes -/
def cutsS (c : UInt8) : List UInt8 → List UInt8 → List (List UInt8)
  | acc, [] => [acc]
  | acc, x :: xs => if x = c then acc :: cutsS c [] xs else cutsS c (acc ++ [x]) xs
theorem cutsS_ne (c : UInt8) : ∀ l acc : List UInt8, 0 < (cutsS c acc l).length
  | [], _ => Nat.succ_pos 0
  | x :: xs, acc => by
    rw [cutsS]
    split
    · exact Nat.succ_pos _
    · exact cutsS_ne c xs _
theorem cutsS_mem (c : UInt8) : ∀ (l acc : List UInt8) (x : List UInt8), x ∈ cutsS c acc l → x.length ≤ acc.length + l.length
  | [], acc, x, h => by
    rw [cutsS, List.mem_singleton] at h
    rw [h]
    exact Nat.le_add_right _ _
  | y :: l, acc, x, h => by
    rw [cutsS] at h
    rw [List.length_cons]
    split at h
    · rcases List.mem_cons.1 h with h | h
      · rw [h]; omega
      · have := cutsS_mem c l [] x h
        rw [List.length_nil] at this
        omega
    · have := cutsS_mem c l _ x h
      rw [List.length_append, List.length_singleton] at this
      omega
theorem cutsS_app {c : UInt8} (b : List UInt8) : ∀ (a acc : List UInt8), c ∉ a → cutsS c acc (a ++ c :: b) = (acc ++ a) :: cutsS c [] b
  | [], acc, _ => by rw [List.nil_append, cutsS, if_pos rfl, List.append_nil]
  | x :: a, acc, h => by
    have hx : x ≠ c := fun e => h (by rw [e]; exact List.mem_cons_self ..)
    rw [List.cons_append, cutsS, if_neg hx, cutsS_app b a _ (fun e => h (List.mem_cons_of_mem _ e)), List.append_assoc]
    rfl
theorem cutsS_one {c : UInt8} : ∀ (a acc : List UInt8), c ∉ a → cutsS c acc a = [acc ++ a]
  | [], acc, _ => by rw [cutsS, List.append_nil]
  | x :: a, acc, h => by
    have hx : x ≠ c := fun e => h (by rw [e]; exact List.mem_cons_self ..)
    rw [cutsS, if_neg hx, cutsS_one a _ (fun e => h (List.mem_cons_of_mem _ e)), List.append_assoc]
    rfl
theorem cuts_mem (c : UInt8) : ∀ (l acc : List UInt8) (x : List UInt8), x ∈ cuts c acc l → x.length ≤ acc.length + l.length
  | [], acc, x, h => by
    rw [cuts, List.mem_singleton] at h
    rw [h]
    exact Nat.le_add_right _ _
  | y :: l, acc, x, h => by
    rw [cuts] at h
    rw [List.length_cons]
    split at h
    · rcases List.mem_cons.1 h with h | h
      · rw [h, List.length_append, List.length_singleton]; omega
      · have := cuts_mem c l [] x h
        rw [List.length_nil] at this
        omega
    · have := cuts_mem c l _ x h
      rw [List.length_append, List.length_singleton] at this
      omega
theorem cuts_app {c : UInt8} (b : List UInt8) : ∀ (a acc : List UInt8), c ∉ a → cuts c acc (a ++ c :: b) = (acc ++ a ++ [c]) :: cuts c [] b
  | [], acc, _ => by rw [List.nil_append, cuts, if_pos rfl, List.append_nil]
  | x :: a, acc, h => by
    have hx : x ≠ c := fun e => h (by rw [e]; exact List.mem_cons_self ..)
    rw [List.cons_append, cuts, if_neg hx, cuts_app b a _ (fun e => h (List.mem_cons_of_mem _ e)), List.append_assoc acc]
    rfl
theorem index_app {c : UInt8} (b : List UInt8) : ∀ a : List UInt8, c ∉ a → Lib.indexByte (a ++ c :: b) c = (a.length : Int)
  | [], _ => by
    rw [List.nil_append, Lib.indexByte, if_pos (by simp)]
    rfl
  | x :: a, h => by
    have hx : (x == c) = false := by
      rw [beq_eq_false_iff_ne]
      exact fun e => h (by rw [e]; exact List.mem_cons_self ..)
    rw [List.cons_append, Lib.indexByte, hx, index_app b a (fun e => h (List.mem_cons_of_mem _ e)), if_neg (by simp)]
    have : ((a.length : Int) == -1) = false := by
      rw [beq_eq_false_iff_ne]
      omega
    rw [this, if_neg (by simp), List.length_cons]
    omega

/-! ### texts as lists of MSeq.bytes -/
theorem size_list (s : ByteArray) : s.data.toList.length = s.size := by
  rw [Array.length_toList]
  rfl
theorem bytes_size (l : List UInt8) : (MSeq.bytes l).size = l.length := by
  rw [← size_list]
  rfl
theorem bytes_list (l : List UInt8) : (MSeq.bytes l).data.toList = l := rfl
theorem extract_bytes (v : ByteArray) (i j : Nat) : v.extract i j = MSeq.bytes ((v.data.toList.take j).drop i) := by
  rw [← bytes_at (v.extract i j), extract_at]
theorem bt_byte (s : ByteArray) (i : Nat) (h : i < s.data.toList.length) : bt s (i : Int) = ((s.data.toList[i]'h).toNat : Int) := by
  have h2 : i < s.size := by rw [size_list] at h; exact h
  rw [← bt_at s (i : Int) h2, Array.getElem_toList]
  rfl
theorem byte_eq (x c : UInt8) : ((x.toNat : Int) = (c.toNat : Int)) ↔ x = c := by
  constructor
  · intro h
    exact UInt8.toNat_inj.1 (by omega)
  · rintro rfl; rfl

/-! ### the reference's split -/
theorem split_ (s : ByteArray) (hs : s.size ≤ 1048576) (c : UInt8) (z : Int) (hz : z = (c.toNat : Int)) : Ev (fun k => spec_l1Split.f k s z) ((cutsS c [] s.data.toList).map MSeq.bytes) := by
  subst hz
  have key : ∀ d i p : Nat, i + d = s.size → p ≤ i → ∀ out : List ByteArray, out.length ≤ i → Ev (fun k => spec_l1Split.l0 k s (c.toNat : Int) out (p : Int) (i : Int)) (out ++ (cutsS c ((s.data.toList.take i).drop p) (s.data.toList.drop i)).map MSeq.bytes) := by
    intro d
    induction d with
    | zero =>
      intro i p hi hp out ho
      refine Ev.step (fun _ => spec_l1Split.l0.eq_2 ..) (Ev.neg (by omega) (Ev.pos (by omega) (Ev.pos (by omega) (Ev.pos (by omega) (Ev.some ?_)))))
      have hd : s.data.toList.drop i = [] := List.drop_of_length_le (by rw [size_list]; omega)
      rw [hd, cutsS, Int.toNat_natCast, extract_bytes]
      obtain rfl : i = s.size := by omega
      rfl
    | succ d ih =>
      intro i p hi hp out ho
      have hl : i < s.data.toList.length := by rw [size_list]; omega
      have hw : wrap64 ((i : Int) + 1) = ((i + 1 : Nat) : Int) := wrap_succ (by omega)
      rw [List.drop_eq_getElem_cons hl, cutsS]
      refine Ev.step (fun _ => spec_l1Split.l0.eq_2 ..) (Ev.pos (by omega) (Ev.pos (by omega) (Ev.ite (fun h => ?_) (fun h => ?_))))
      · rw [bt_byte s i hl, byte_eq] at h
        rw [if_pos h]
        refine Ev.pos (by omega) (Ev.pos (by omega) (Ev.pos (by omega) (Ev.pos (by omega) ?_)))
        rw [hw, Int.toNat_natCast, Int.toNat_natCast, extract_bytes]
        have := ih (i + 1) (i + 1) (by omega) (Nat.le_refl _) (out ++ [MSeq.bytes ((s.data.toList.take i).drop p)]) (by rw [List.length_append, List.length_singleton]; omega)
        have hd : (s.data.toList.take (i + 1)).drop (i + 1) = [] := List.drop_of_length_le (by rw [List.length_take]; omega)
        rw [hd, List.append_assoc] at this
        exact this
      · rw [bt_byte s i hl, byte_eq] at h
        rw [if_neg h]
        rw [hw]
        have := ih (i + 1) p (by omega) (by omega) out (by omega)
        rw [List.take_succ_eq_append_getElem hl, List.drop_append_of_le_length (by rw [List.length_take]; omega)] at this
        exact this
  have h := key s.size 0 0 (by omega) (Nat.le_refl _) [] (Nat.le_refl _)
  exact h

/-! ### the reference's reading of numerals -/
theorem read_loop_any (s : ByteArray) (hs : s.size ≤ 1048576) : ∀ d i : Nat, i + d = s.size → ∀ n : Int, ∃ v, Ev (fun k => spec_l1Read.l0 k s n (i : Int)) v := by
  intro d
  induction d with
  | zero =>
    intro i hi n
    exact ⟨n, Ev.step (fun _ => spec_l1Read.l0.eq_2 ..) (Ev.neg (by omega) (Ev.some rfl))⟩
  | succ d ih =>
    intro i hi n
    by_cases h1 : bt s (i : Int) < 48
    · exact ⟨-1, Ev.step (fun _ => spec_l1Read.l0.eq_2 ..) (Ev.pos (by omega) (Ev.pos (by omega) (Ev.pos h1 (Ev.some rfl))))⟩
    by_cases h2 : bt s (i : Int) > 57
    · exact ⟨-1, Ev.step (fun _ => spec_l1Read.l0.eq_2 ..) (Ev.pos (by omega) (Ev.pos (by omega) (Ev.neg h1 (Ev.pos h2 (Ev.some rfl)))))⟩
    obtain ⟨v, hv⟩ := ih (i + 1) (by omega) (wrap64 (wrap64 (10 * n) + (bt s (i : Int) - 48) % 256))
    rw [← wrap_succ (by omega)] at hv
    exact ⟨v, Ev.step (fun _ => spec_l1Read.l0.eq_2 ..) (Ev.pos (by omega) (Ev.pos (by omega) (Ev.neg h1 (Ev.neg h2 hv))))⟩
theorem read_j_any (s : ByteArray) (hs : s.size ≤ 1048576) (b : Bool) : ∃ v, Ev (fun k => spec_l1Read.j0 k s b) v := by
  cases b with
  | true => exact ⟨-1, Ev.step (fun _ => spec_l1Read.j0.eq_2 ..) (Ev.pos rfl (Ev.some rfl))⟩
  | false =>
    obtain ⟨v, hv⟩ := read_loop_any s hs s.size 0 (by omega) 0
    exact ⟨v, Ev.step (fun _ => spec_l1Read.j0.eq_2 ..) (Ev.neg (by decide) hv)⟩
theorem read_any (s : ByteArray) (hs : s.size ≤ 1048576) : ∃ v, Ev (fun k => spec_l1Read.f k s) v := by
  unfold spec_l1Read.f
  obtain ⟨v0, h0⟩ := read_j_any s hs true
  obtain ⟨v1, h1⟩ := read_j_any s hs (decide ((s.size : Int) > 1))
  obtain ⟨v2, h2⟩ := read_j_any s hs false
  by_cases hi : decide (1 ≤ (s.size : Int) ∧ (s.size : Int) ≤ 6) = true
  · have hp := (of_decide_eq_true hi).1
    by_cases hb : bt s 0 = 48
    · exact ⟨v1, Ev.have (l1In_ _ _ _) (Ev.pos hi (Ev.pos (by omega) (Ev.pos hb h1)))⟩
    · exact ⟨v2, Ev.have (l1In_ _ _ _) (Ev.pos hi (Ev.pos (by omega) (Ev.neg hb h2)))⟩
  · exact ⟨v0, Ev.have (l1In_ _ _ _) (Ev.neg hi h0)⟩

/-! ### numerals -/
theorem dec_snoc {l : List UInt8} {acc n d : Nat} {b : UInt8} (h : Lib.decFrom acc l = some n) (hd : Lib.digitVal b = some d) : Lib.decFrom acc (l ++ [b]) = some (n * 10 + d) := by
  have := Lib.decFrom_take (l ++ [b]) l.length acc n b d (by rw [List.take_left' rfl]; exact h) (by simp) hd
  rwa [List.take_of_length_le (by simp)] at this
theorem digit_val (d : Nat) (h : d < 10) : Lib.digitVal (UInt8.ofNat (48 + d)) = some d := by
  have : ∀ d : Fin 10, Lib.digitVal (UInt8.ofNat (48 + d.val)) = some d.val := by decide
  exact this ⟨d, h⟩
theorem dec_digits (u : Nat) : Lib.decFrom 0 (Lib.decDigits u) = some u := by
  induction u using Nat.strongRecOn with
  | ind u ih =>
    rw [Lib.decDigits]
    split
    · rename_i h
      rw [Lib.decFrom, digit_val u h]
      show Lib.decFrom (0 * 10 + u) [] = some u
      rw [Lib.decFrom]
      congr 1
      omega
    · rename_i h
      rw [dec_snoc (ih (u / 10) (by omega)) (digit_val (u % 10) (Nat.mod_lt _ (by decide)))]
      congr 1
      omega
theorem digits_ne (u : Nat) : Lib.decDigits u ≠ [] := by
  rw [Lib.decDigits]
  split
  · simp
  · simp
theorem digits_byte {u : Nat} {b : UInt8} (h : b ∈ Lib.decDigits u) : 48 ≤ b.toNat ∧ b.toNat ≤ 57 := by
  obtain ⟨k, hk⟩ := List.getElem?_of_mem h
  obtain ⟨d, hd⟩ := Lib.digit_of_decFrom _ _ _ (dec_digits u) k b hk
  exact ⟨(Lib.digitVal_eq hd).1, (Lib.digitVal_eq hd).2.1⟩
theorem digits_head (u : Nat) : 1 ≤ u → ∀ c r, Lib.decDigits u = c :: r → c.toNat ≠ 48 := by
  induction u using Nat.strongRecOn with
  | ind u ih =>
    intro hu c r h
    rw [Lib.decDigits] at h
    split at h
    · rename_i h10
      have hv := digit_val u h10
      obtain ⟨rfl, _⟩ := List.cons.inj h
      have := (Lib.digitVal_eq hv).2.2
      omega
    · rename_i h10
      cases hq : Lib.decDigits (u / 10) with
      | nil => exact absurd hq (digits_ne _)
      | cons a t =>
        rw [hq] at h
        obtain ⟨rfl, _⟩ := List.cons.inj h
        exact ih (u / 10) (by omega) (by omega) _ _ hq
theorem num_list (u : Nat) : (num (u : Int)).data.toList = Lib.decDigits u := by rw [num_nat]; rfl
theorem itoa_nat (u : Nat) : Lib.itoa (u : Int) = Lib.decDigits u := by
  unfold Lib.itoa
  rw [if_neg (by omega), Int.toNat_natCast]
theorem atoi_digits (u : Nat) : Lib.atoi (Lib.decDigits u) = some (u : Int) := by
  cases hq : Lib.decDigits u with
  | nil => exact absurd hq (digits_ne _)
  | cons a t =>
    have hb := digits_byte (u := u) (b := a) (by rw [hq]; exact List.mem_cons_self ..)
    have h45 : (a == 45) = false := by
      rw [beq_eq_false_iff_ne]
      rintro rfl
      exact absurd hb.1 (by decide)
    have h43 : (a == 43) = false := by
      rw [beq_eq_false_iff_ne]
      rintro rfl
      exact absurd hb.1 (by decide)
    have hd := dec_digits u
    rw [hq] at hd
    rw [Lib.atoi, h45, h43]
    show (Lib.decNat (a :: t)).map _ = _
    rw [Lib.decNat]
    show (Lib.decFrom 0 (a :: t)).map _ = _
    rw [hd]
    rfl
theorem decimal_num (n : Int) (h0 : 0 ≤ n) (h1 : n < 1000000) : impl_decimal.f (num n) = some (n, true) := by
  have hz := num_size n h0 h1
  obtain ⟨u, rfl⟩ := Int.eq_ofNat_of_zero_le h0
  rw [impl_decimal.f, if_pos (by omega), num_list, impl_decimal.num, Lib.atoiAll_short _ (by rw [← num_list, size_list]; omega), atoi_digits]
  show some (if Lib.itoa (u : Int) = Lib.decDigits u then ((u : Int), true) else (0, false)) = _
  rw [if_pos (itoa_nat u)]
theorem decimal_any (s : ByteArray) (hs : s.size ≤ 1048576) : ∃ p, impl_decimal.f s = some p := ⟨_, if_pos (by omega)⟩
theorem read_nums (m b e : Nat) (hlt : m < 100000000000000000) (e0 : 48 ≤ b) (e1 : b ≤ 57) (e2 : e = b - 48) : wrap64 (10 * (m : Int)) = 10 * (m : Int) ∧ ((b : Int) - 48) % 256 = (e : Int) ∧ wrap64 (10 * (m : Int) + (e : Int)) = ((m * 10 + e : Nat) : Int) ∧ ¬ ((b : Int) < 48) ∧ ¬ ((b : Int) > 57) := by
  refine ⟨wrap_in (by omega) (by omega), by omega, ?_, by omega, by omega⟩
  rw [wrap_in (by omega) (by omega)]
  omega
theorem read_loop_num (s : ByteArray) (h6 : s.size ≤ 6) (n : Nat) (hn : Lib.decFrom 0 s.data.toList = some n) : ∀ d i : Nat, i + d = s.size → ∀ m : Nat, Lib.decFrom 0 (s.data.toList.take i) = some m → Ev (fun k => spec_l1Read.l0 k s (m : Int) (i : Int)) (n : Int) := by
  intro d
  induction d with
  | zero =>
    intro i hi m hm
    rw [List.take_of_length_le (by rw [size_list]; omega), hn] at hm
    obtain rfl := Option.some.inj hm
    exact Ev.step (fun _ => spec_l1Read.l0.eq_2 ..) (Ev.neg (by omega) (Ev.some rfl))
  | succ d ih =>
    intro i hi m hm
    have hl : i < s.data.toList.length := by rw [size_list]; omega
    obtain ⟨e, he⟩ := Lib.digit_of_decFrom _ _ _ hn i _ (List.getElem?_eq_getElem hl)
    obtain ⟨e0, e1, e2⟩ := Lib.digitVal_eq he
    have hb := bt_byte s i hl
    have hlt := Lib.decFrom_take_lt hm (by omega)
    have p := ih (i + 1) (by omega) (m * 10 + e) (Lib.decFrom_take _ _ _ _ _ _ hm (List.getElem?_eq_getElem hl) he)
    have hq := read_nums m _ e hlt e0 e1 e2
    rw [← hb] at hq
    obtain ⟨w1, w2, w3, w4, w5⟩ := hq
    have u1 : (i : Int) < (s.size : Int) := Int.ofNat_lt.2 (by rw [← size_list]; exact hl)
    refine Ev.step (fun _ => spec_l1Read.l0.eq_2 ..) (Ev.pos u1 (Ev.pos (Int.natCast_nonneg i) (Ev.neg w4 (Ev.neg w5 ?_))))
    rw [w1, w2, w3, wrap_succ (by omega)]
    exact p
theorem read_num (n : Int) (h0 : 0 ≤ n) (h1 : n < 1000000) : Ev (fun k => spec_l1Read.f k (num n)) n := by
  have hz := num_size n h0 h1
  obtain ⟨u, rfl⟩ := Int.eq_ofNat_of_zero_le h0
  have hl := num_list u
  have hp : 0 < (num (u : Int)).size := by
    rw [← size_list, hl]
    exact List.length_pos_iff.2 (digits_ne u)
  have hd := dec_digits u
  rw [← hl] at hd
  have hq := read_loop_num (num (u : Int)) hz u hd _ 0 (Nat.zero_add _) 0 rfl
  have hj : Ev (fun k => spec_l1Read.j0 k (num (u : Int)) false) (u : Int) := Ev.step (fun _ => spec_l1Read.j0.eq_2 ..) (Ev.neg (by decide) hq)
  unfold spec_l1Read.f
  refine Ev.have (l1In_ _ _ _) (Ev.pos (decide_eq_true (by omega)) (Ev.pos (by omega) (Ev.ite (fun h => ?_) (fun _ => hj))))
  have : u = 0 := by
    apply Classical.byContradiction
    intro hu
    have hb := bt_byte (num (u : Int)) 0 (by rw [size_list]; exact hp)
    cases hc : Lib.decDigits u with
    | nil => exact absurd hc (digits_ne u)
    | cons a t =>
      have hne := digits_head u (by omega) a t hc
      apply hne
      have e : ((num (u : Int)).data.toList)[0]'(by rw [size_list]; exact hp) = a := by
        apply Option.some.inj
        rw [← List.getElem?_eq_getElem, hl, hc]
        rfl
      rw [e] at hb
      have h' : bt (num (u : Int)) ((0 : Nat) : Int) = 48 := h
      omega
  subst this
  have e1 : (num ((0 : Nat) : Int)).size = 1 := by
    rw [← size_list, hl, Lib.decDigits, dif_pos (by decide)]
    rfl
  rw [e1]
  exact hj

/-! ### the library's cuts -/
theorem trim_any (x : ByteArray) (hs : x.size ≤ 1048576) : ∃ t, strings_TrimSuffix.f x ⟨#[59]⟩ = some t ∧ t.size ≤ x.size := by
  have e1 : ((⟨#[59]⟩ : ByteArray).size : Int) = 1 := rfl
  unfold strings_TrimSuffix.f stringslite_TrimSuffix.f stringslite_HasSuffix.f
  rw [e1]
  by_cases h : (x.size : Int) ≥ 1
  · have w : wrap64 ((x.size : Int) - 1) = (x.size : Int) - 1 := wrap_in (by omega) (by omega)
    rw [w, if_pos h, if_pos (by omega), if_pos (by omega)]
    simp only [Option.bind_some]
    split
    · rw [if_pos (by omega), if_pos (by omega)]
      refine ⟨_, rfl, ?_⟩
      rw [ByteArray.size_extract]
      omega
    · exact ⟨_, rfl, Nat.le_refl _⟩
  · rw [if_neg h]
    exact ⟨x, rfl, Nat.le_refl _⟩
theorem trim_at (b : List UInt8) (hb : b.length ≤ 1048576) : strings_TrimSuffix.f (MSeq.bytes (b ++ [59])) ⟨#[59]⟩ = some (MSeq.bytes b) := by
  have e1 : ((⟨#[59]⟩ : ByteArray).size : Int) = 1 := rfl
  have e2 : (MSeq.bytes (b ++ [59])).size = b.length + 1 := by rw [bytes_size]; simp
  have w : wrap64 (((b.length + 1 : Nat) : Int) - 1) = (b.length : Int) := by rw [wrap_in (by omega) (by omega)]; omega
  have q : (((MSeq.bytes (b ++ [59])).extract (b.length : Int).toNat (b.length + 1)).toList == (⟨#[59]⟩ : ByteArray).toList) = true := by
    rw [Int.toNat_natCast, extract_bytes, ByteArray.toList_eq, ByteArray.toList_eq, bytes_list, bytes_list, List.take_of_length_le (by simp), List.drop_left' rfl]
    rfl
  unfold strings_TrimSuffix.f stringslite_TrimSuffix.f stringslite_HasSuffix.f
  rw [e1, e2, w, if_pos (by omega), if_pos (by omega), if_pos (by omega), q]
  simp only [Option.bind_some]
  rw [if_pos trivial, if_pos (by omega), if_pos (by omega), Int.toNat_natCast, extract_bytes, bytes_list, List.take_left' rfl]
  rfl
theorem index_lt (l : List UInt8) (c : UInt8) : Lib.indexByte l c = -1 ∨ ∃ j : Nat, Lib.indexByte l c = (j : Int) ∧ j < l.length := by
  rcases cuts_at c l [] with ⟨h, _⟩ | ⟨j, h, h2, _⟩
  · exact Or.inl h
  · exact Or.inr ⟨j, h, h2⟩
theorem cut_any (x : ByteArray) (c : UInt8) (hs : x.size ≤ 1048576) : ∃ r, strings_Cut.f x ⟨#[c]⟩ = some r ∧ r.1.size ≤ x.size ∧ r.2.1.size ≤ x.size := by
  have e1 : (⟨#[c]⟩ : ByteArray).size = 1 := rfl
  have e3 : (⟨#[c]⟩ : ByteArray).data.getD 0 0 = c := rfl
  unfold strings_Cut.f stringslite_Cut.f stringslite_Index.f
  rw [if_pos e1, e3, e1]
  simp only [Option.bind_some]
  rcases index_lt x.data.toList c with h | ⟨j, h, hj⟩
  · rw [h, if_neg (by omega)]
    exact ⟨_, rfl, Nat.le_refl _, Nat.zero_le _⟩
  · rw [size_list] at hj
    have w : wrap64 ((j : Int) + ((1 : Nat) : Int)) = ((j + 1 : Nat) : Int) := wrap_succ (by omega)
    rw [h, w, if_pos (by omega), if_pos (by omega), if_pos (by omega), if_pos (by omega), if_pos (by omega)]
    refine ⟨_, rfl, ?_, ?_⟩
    · show (x.extract 0 _).size ≤ _
      rw [ByteArray.size_extract]
      omega
    · show (x.extract _ x.size).size ≤ _
      rw [ByteArray.size_extract]
      omega
theorem cut_at (a b : List UInt8) (c : UInt8) (hc : c ∉ a) (hs : a.length + b.length ≤ 1048576) : strings_Cut.f (MSeq.bytes (a ++ c :: b)) ⟨#[c]⟩ = some (MSeq.bytes a, MSeq.bytes b, true) := by
  have e1 : (⟨#[c]⟩ : ByteArray).size = 1 := rfl
  have e3 : (⟨#[c]⟩ : ByteArray).data.getD 0 0 = c := rfl
  have e2 : (MSeq.bytes (a ++ c :: b)).size = a.length + (b.length + 1) := by rw [bytes_size]; simp
  have w : wrap64 ((a.length : Int) + ((1 : Nat) : Int)) = ((a.length + 1 : Nat) : Int) := wrap_succ (by omega)
  unfold strings_Cut.f stringslite_Cut.f stringslite_Index.f
  rw [if_pos e1, e3, e1]
  simp only [Option.bind_some]
  rw [bytes_list, index_app b a hc, w, e2, if_pos (by omega), if_pos (by omega), if_pos (by omega), if_pos (by omega), if_pos (by omega)]
  rw [Int.toNat_natCast, Int.toNat_natCast, extract_bytes, extract_bytes, bytes_list, List.take_left' rfl, List.take_of_length_le (by simp)]
  have : (a ++ c :: b).drop (a.length + 1) = b := by
    rw [← List.drop_drop, List.drop_left' rfl]
    rfl
  rw [this]
  rfl
end Go.Proofs.YtpdcopbnhaoilaaDoor.MSplit
end
