/- Plain laws of the functions that the claim's functions call: what they compute, with no program in sight. No condition. -/
import Derived.Test.YtpdcopbnhaoilaaDoorWAll
import Derived.Lib.Bytealg
import Derived.Test.YtpdcopbnhaoilaaDoorG1
import Derived.Test.YtpdcopbnhaoilaaDoorG0
import Derived.Test.YtpdcopbnhaoilaaDoorG2
import Derived.Test.YtpdcopbnhaoilaaDoorG3
import Derived.Test.YtpdcopbnhaoilaaDoorG4
import Derived.Test.YtpdcopbnhaoilaaDoorG5
import Derived.Test.YtpdcopbnhaoilaaDoorG6
import Derived.Test.YtpdcopbnhaoilaaDoorG17
import Derived.Test.YtpdcopbnhaoilaaDoorG18
import Derived.Test.YtpdcopbnhaoilaaDoorG19
import Derived.Test.YtpdcopbnhaoilaaDoorG20
import Derived.Test.YtpdcopbnhaoilaaDoorG21
import Derived.Test.YtpdcopbnhaoilaaDoorMBase
import Derived.Test.YtpdcopbnhaoilaaDoorG16
import Derived.Test.YtpdcopbnhaoilaaDoorG22
import Derived.Test.YtpdcopbnhaoilaaDoorG23
import Derived.Lib.ItoaNum
import Derived.Test.YtpdcopbnhaoilaaDoorG7
section
/- Plain lemmas on rounds, lists and numbers, for the laws' pure statements: no program in sight. -/
namespace Go.Proofs.YtpdcopbnhaoilaaDoor.MPure
open Go.RowKit Go.Proofs.YtpdcopbnhaoilaaDoorW.PrintWords Go.Proofs.YtpdcopbnhaoilaaDoorW.PrintLast

theorem Ev.pos {α : Type} {c : Prop} [Decidable c] {f g : Nat → Option α} {r : α} (h : c) (k : Ev f r) : Ev (fun n => if c then f n else g n) r := by
  simpa only [if_pos h] using k
theorem Ev.neg {α : Type} {c : Prop} [Decidable c] {f g : Nat → Option α} {r : α} (h : ¬ c) (k : Ev g r) : Ev (fun n => if c then f n else g n) r := by
  simpa only [if_neg h] using k
theorem Ev.some {α : Type} {a r : α} (h : a = r) : Ev (fun _ => Option.some a) r := h ▸ Ev.now a
theorem Ev.have {α β : Type} {a : Option α} {x : α} {f : Nat → α → Option β} {r : β} (h : a = .some x) (k : Ev (fun n => f n x) r) : Ev (fun n => a.bind (f n)) r := by
  subst h
  exact k
theorem Ev.ite {α : Type} {c : Prop} [Decidable c] {f g : Nat → Option α} {r : α} (h : c → Ev f r) (k : ¬ c → Ev g r) : Ev (fun n => if c then f n else g n) r := by
  by_cases hc : c
  · exact Ev.pos hc (h hc)
  · exact Ev.neg hc (k hc)
theorem Ev.eq {α : Type} {g : Nat → Option α} {a r : α} (k : Ev g a) (h : a = r) : Ev g r := h ▸ k
theorem wrap_in {n : Int} (h : -9223372036854775808 ≤ n) (h' : n ≤ 9223372036854775807) : wrap64 n = n := by unfold wrap64; omega
theorem wrap_succ {i : Nat} (h : i ≤ 9223372036854775806) : wrap64 ((i : Int) + 1) = ((i + 1 : Nat) : Int) := by unfold wrap64; omega
theorem wrap_pred {i : Nat} (h0 : 0 < i) (h : i ≤ 9223372036854775806) : wrap64 ((i : Int) - 1) = ((i - 1 : Nat) : Int) := by unfold wrap64; omega
/-- A loop that stops with 'false' at the first place at which p does not hold, and answers e behind the last one. -/
theorem loop_all {L : Nat → Int → Option Bool} (n : Nat) (p : Nat → Bool) (e : Bool) (hend : Ev (fun k => L k (n : Int)) e)
    (hyes : ∀ i : Nat, i < n → p i = true → ∀ r, Ev (fun k => L k ((i + 1 : Nat) : Int)) r → Ev (fun k => L k (i : Int)) r) (hno : ∀ i : Nat, i < n → p i = false → Ev (fun k => L k (i : Int)) false) :
    ∀ d i : Nat, i + d = n → Ev (fun k => L k (i : Int)) ((List.range' i d).all p && e)
  | 0, i, h => by
    have : i = n := by omega
    subst this
    simpa using hend
  | d + 1, i, h => by
    have hi : i < n := by omega
    cases hp : p i with
    | true =>
      have ih := loop_all n p e hend hyes hno d (i + 1) (by omega)
      have := hyes i hi hp _ ih
      simpa [List.range'_succ, hp] using this
    | false =>
      have := hno i hi hp
      simpa [List.range'_succ, hp] using this
/-- The same from its begin. -/
theorem loop_all0 {L : Nat → Int → Option Bool} (n : Nat) (p : Nat → Bool) (e : Bool) (hend : Ev (fun k => L k (n : Int)) e)
    (hyes : ∀ i : Nat, i < n → p i = true → ∀ r, Ev (fun k => L k ((i + 1 : Nat) : Int)) r → Ev (fun k => L k (i : Int)) r) (hno : ∀ i : Nat, i < n → p i = false → Ev (fun k => L k (i : Int)) false) :
    Ev (fun k => L k 0) ((List.range n).all p && e) := by
  have h := loop_all n p e hend hyes hno n 0 (by omega)
  rw [← List.range_eq_range'] at h
  exact h

theorem all_congr {n : Nat} {p q : Nat → Bool} (h : ∀ i, i < n → p i = q i) : (List.range n).all p = (List.range n).all q := by
  rw [Bool.eq_iff_iff]
  simp only [List.all_eq_true, List.mem_range]
  constructor
  · exact fun H i hi => by rw [← h i hi]; exact H i hi
  · exact fun H i hi => by rw [h i hi]; exact H i hi

end Go.Proofs.YtpdcopbnhaoilaaDoor.MPure
end
section
/- Words: what the printed functions on texts of some letters come to. -/
namespace Go.Proofs.YtpdcopbnhaoilaaDoor.MWord
open Go.RowKit Go.Proofs.YtpdcopbnhaoilaaDoor.G Go.Proofs.YtpdcopbnhaoilaaDoorW.PrintWords Go.Proofs.YtpdcopbnhaoilaaDoorW.PrintLast Go.Proofs.YtpdcopbnhaoilaaDoor.MPure

/-- 1 to 8 bytes, of each of which p holds. -/
def wordB (p : Int → Bool) (s : ByteArray) : Bool := (List.range s.size).all (fun i => p (bt s (i : Int))) && decide (1 ≤ (s.size : Int) ∧ (s.size : Int) ≤ 8)
theorem l1In_ (a b c : Int) : spec_l1In.f a b c = some (decide (b ≤ a ∧ a ≤ c)) := by
  unfold spec_l1In.f
  by_cases h : a ≥ b
  · rw [if_pos h]; simp [show b ≤ a from h]
  · rw [if_neg h]; simp [show ¬ b ≤ a from h]
theorem within_ (a b c : Int) : impl_within.f a b c = some (decide (b ≤ a ∧ a ≤ c)) := by
  unfold impl_within.f
  by_cases h : a ≥ b
  · rw [if_pos h]; simp [show b ≤ a from h]
  · rw [if_neg h]; simp [show ¬ b ≤ a from h]

/-- Which bytes are among some letters. -/
def amongB (ls : ByteArray) (c : Int) : Bool := decide (0 ≤ Lib.indexByte ls.data.toList c.toNat.toUInt8)
theorem hasOnly_ (s ls : ByteArray) (hs : s.size ≤ 140737488351232) : Ev (fun k => impl_hasOnly.f k s ls) ((List.range s.size).all (fun i => amongB ls (bt s (i : Int)))) := by
  refine Ev.eq (loop_all0 (L := fun k i => impl_hasOnly.l0 k s ls (s.size : Int) i) s.size (fun i => amongB ls (bt s (i : Int))) true ?_ ?_ ?_) (Bool.and_true _)
  · refine Ev.step (f := fun _ => _) (fun k => ?_) (Ev.some rfl)
    simp only [impl_hasOnly.l0]
    rw [if_neg (by omega)]
  · intro i hi hp r hr
    refine Ev.step (f := fun k => impl_hasOnly.l0 k s ls (s.size : Int) ((i + 1 : Nat) : Int)) (fun k => ?_) hr
    simp only [amongB, decide_eq_true_eq] at hp
    simp only [impl_hasOnly.l0, strings_IndexByte.f, Option.bind_some]
    rw [if_pos (by omega), if_pos (by omega), if_pos (by omega), if_neg (by omega), wrap_succ (by omega)]
  · intro i hi hp
    refine Ev.step (f := fun k => some false) (fun k => ?_) (Ev.some rfl)
    simp only [amongB, decide_eq_false_iff_not] at hp
    simp only [impl_hasOnly.l0, strings_IndexByte.f, Option.bind_some]
    rw [if_pos (by omega), if_pos (by omega), if_pos (by omega), if_pos (by omega)]
theorem isWordOf_ (s ls : ByteArray) (hs : s.size ≤ 140737488351232) : Ev (fun k => impl_isWordOf.f k s ls) (wordB (amongB ls) s) := by
  unfold impl_isWordOf.f
  refine Ev.have (within_ _ _ _) (Ev.ite (fun h => ?_) (fun h => ?_))
  · refine Ev.bind (hasOnly_ s ls hs) (Ev.some ?_)
    simp only [wordB]
    rw [h, Bool.and_true]
  · refine Ev.some ?_
    simp only [wordB]
    rw [Bool.eq_false_iff.2 h, Bool.and_false]
theorem wordB_congr {p q : Int → Bool} (h : ∀ c, 0 ≤ c → c ≤ 255 → p c = q c) (s : ByteArray) : wordB p s = wordB q s := by
  unfold wordB
  rw [all_congr (fun i _ => h _ (bt_range s _).1 (bt_range s _).2)]
end Go.Proofs.YtpdcopbnhaoilaaDoor.MWord
end
section
/- What the printed functions on persons come to, by numbers and lists alone: names, persons, people. -/
namespace Go.Proofs.YtpdcopbnhaoilaaDoor.MPerson
open Go.RowKit Go.Proofs.YtpdcopbnhaoilaaDoor.G Go.Proofs.YtpdcopbnhaoilaaDoorW.PrintWords Go.Proofs.YtpdcopbnhaoilaaDoorW.PrintLast Go.Proofs.YtpdcopbnhaoilaaDoor.MPure Go.Proofs.YtpdcopbnhaoilaaDoor.MWord

abbrev PI := S26
def atP (l : List PI) (i : Nat) : PI := l.getD i z26
theorem atP_mem {l : List PI} {i : Nat} (h : i < l.length) : atP l i ∈ l := by
  unfold atP
  rw [List.getD_eq_getElem?_getD, List.getElem?_eq_getElem h]
  exact List.getElem_mem h
def SizedP (l : List PI) : Prop := l.length ≤ 140737488351232 ∧ ∀ x, x ∈ l → x.f0.size ≤ 140737488351232
def smallB (c : Int) : Bool := decide (97 ≤ c ∧ c ≤ 122)
theorem smalls (c : Int) (h0 : 0 ≤ c) (h1 : c ≤ 255) : amongB (⟨#[97, 98, 99, 100, 101, 102, 103, 104, 105, 106, 107, 108, 109, 110, 111, 112, 113, 114, 115, 116, 117, 118, 119, 120, 121, 122]⟩ : ByteArray) c = smallB c := by
  have key : ∀ n : Nat, n < 256 → amongB (⟨#[97, 98, 99, 100, 101, 102, 103, 104, 105, 106, 107, 108, 109, 110, 111, 112, 113, 114, 115, 116, 117, 118, 119, 120, 121, 122]⟩ : ByteArray) (n : Int) = smallB (n : Int) := by decide +kernel
  obtain ⟨n, rfl⟩ := Int.eq_ofNat_of_zero_le h0
  exact key n (by omega)
def letterB (n : Int) : Bool := decide (0 ≤ n ∧ n ≤ 25)
def placeB (n : Int) : Bool := decide (0 ≤ n ∧ n ≤ 9)
def yearB (n : Int) : Bool := decide (1800 ≤ n ∧ n ≤ 2200)
def personB (s : ByteArray) (a b c : Int) : Bool := wordB smallB s && letterB a && placeB b && yearB c
theorem naLetter_ (a : Int) : spec_naLetter.f a = some (letterB a) := by
  unfold spec_naLetter.f
  rw [l1In_]
  rfl
theorem naPlace_ (a : Int) : spec_naPlace.f a = some (placeB a) := by
  unfold spec_naPlace.f
  rw [l1In_]
  rfl
theorem naYear_ (a : Int) : spec_naYear.f a = some (yearB a) := by
  unfold spec_naYear.f
  rw [l1In_]
  rfl
theorem isYear_ (a : Int) : impl_isYear.f a = some (yearB a) := by
  unfold impl_isYear.f
  rw [within_]
  rfl
theorem naName_ (s : ByteArray) (hs : s.size ≤ 140737488351232) : Ev (fun k => spec_naName.f k s) (wordB smallB s) := by
  refine loop_all0 (L := fun k i => spec_naName.l0 k s i) s.size (fun i => smallB (bt s (i : Int))) _ ?_ ?_ ?_
  · exact Ev.step (fun _ => spec_naName.l0.eq_2 ..) (Ev.neg (by omega) (Ev.have (l1In_ _ _ _) (Ev.some rfl)))
  · intro i hi hp r hr
    simp only [smallB, decide_eq_true_eq] at hp
    rw [← wrap_succ (by omega)] at hr
    exact Ev.step (fun _ => spec_naName.l0.eq_2 ..) (Ev.pos (by omega) (Ev.pos (by omega) (Ev.neg (by omega) (Ev.neg (by omega) hr))))
  · intro i hi hp
    simp only [smallB, decide_eq_false_iff_not] at hp
    exact Ev.step (fun _ => spec_naName.l0.eq_2 ..) (Ev.pos (by omega) (Ev.pos (by omega) (Ev.ite (fun _ => Ev.some rfl) (fun _ => Ev.pos (by omega) (Ev.some rfl)))))
theorem naOne_ (s : ByteArray) (a b c : Int) (hs : s.size ≤ 140737488351232) : Ev (fun k => spec_naOne.f k s a b c) (personB s a b c) := by
  unfold spec_naOne.f personB
  refine Ev.bind (naName_ s hs) (Ev.ite (fun h1 => ?_) (fun h1 => Ev.some (by simp [h1])))
  refine Ev.have (naLetter_ a) (Ev.ite (fun h2 => ?_) (fun h2 => Ev.some (by simp [h2])))
  refine Ev.have (naPlace_ b) (Ev.ite (fun h3 => ?_) (fun h3 => Ev.some (by simp [h3])))
  exact Ev.have (naYear_ c) (Ev.some (by simp [h1, h2, h3]))
theorem IsPerson_ (s : ByteArray) (a b c : Int) (hs : s.size ≤ 140737488351232) : Ev (fun k => impl_IsPerson.f k s a b c) (personB s a b c) := by
  unfold impl_IsPerson.f personB
  refine Ev.bind (Ev.eq (isWordOf_ s _ hs) (wordB_congr smalls s)) (Ev.ite (fun h1 => ?_) (fun h1 => Ev.some (by simp [h1])))
  refine Ev.have (within_ a _ _) (Ev.ite (fun h2 => ?_) (fun h2 => Ev.some (by rw [show letterB a = false from Bool.eq_false_iff.2 h2]; simp)))
  refine Ev.have (within_ b _ _) (Ev.ite (fun h3 => ?_) (fun h3 => Ev.some (by rw [show placeB b = false from Bool.eq_false_iff.2 h3]; simp)))
  exact Ev.have (isYear_ c) (Ev.some (by rw [show letterB a = true from h2, show placeB b = true from h3]; simp [h1]))
def lessB (a b : ByteArray) : Bool := Op.bytesLess a.toList b.toList
def peopleP (l : List PI) (i : Nat) : Bool := personB (atP l i).f0 (atP l i).f1 (atP l i).f2 (atP l i).f3 && (decide (i = 0) || lessB (atP l (i - 1)).f0 (atP l i).f0)
def peopleB (l : List PI) : Bool := (List.range l.length).all (peopleP l) && decide ((l.length : Int) ≤ 10)
theorem naGood_ (l : List PI) (hl : SizedP l) : Ev (fun k => spec_naGood.f k l) (peopleB l) := by
  obtain ⟨hn, hs⟩ := hl
  refine loop_all0 (L := fun k i => spec_naGood.l0 k l l (l.length : Int) i) l.length (peopleP l) _ ?_ ?_ ?_
  · exact Ev.step (fun _ => spec_naGood.l0.eq_2 ..) (Ev.neg (by omega) (Ev.some rfl))
  · intro i hi hp r hr
    simp only [peopleP, Bool.and_eq_true] at hp
    rw [← wrap_succ (by omega)] at hr
    refine Ev.step (fun _ => spec_naGood.l0.eq_2 ..) (Ev.pos (by omega) (Ev.pos (by omega) (Ev.pos (by omega) (Ev.bind (naOne_ _ _ _ _ (hs _ (atP_mem hi))) (Ev.pos hp.1 (Ev.ite (fun h0 => ?_) (fun h0 => hr)))))))
    rw [wrap_pred (by omega) (by omega)]
    refine Ev.pos (by omega) (Ev.pos (by omega) (Ev.pos ?_ hr))
    have := hp.2
    simp only [Bool.or_eq_true, decide_eq_true_eq] at this
    rcases this with h | h
    · omega
    · exact h
  · intro i hi hp
    refine Ev.step (fun _ => spec_naGood.l0.eq_2 ..) (Ev.pos (by omega) (Ev.pos (by omega) (Ev.pos (by omega) (Ev.bind (naOne_ _ _ _ _ (hs _ (atP_mem hi))) (Ev.ite (fun h1 => ?_) (fun _ => Ev.some rfl))))))
    simp only [peopleP, Bool.and_eq_false_iff, Bool.or_eq_false_iff, decide_eq_false_iff_not] at hp
    rcases hp with hp | ⟨hp, hq⟩
    · exact absurd (h1.symm.trans hp) (by decide)
    · refine Ev.pos (by omega) ?_
      rw [wrap_pred (by omega) (by omega)]
      exact Ev.pos (by omega) (Ev.pos (by omega) (Ev.neg (Bool.eq_false_iff.1 hq) (Ev.some rfl)))
theorem ArePeople_ (l : List PI) (hl : SizedP l) : Ev (fun k => impl_ArePeople.f k l) (peopleB l) := by
  obtain ⟨hn, hs⟩ := hl
  refine loop_all0 (L := fun k i => impl_ArePeople.l0 k l l (l.length : Int) i) l.length (peopleP l) _ ?_ ?_ ?_
  · exact Ev.step (fun _ => impl_ArePeople.l0.eq_2 ..) (Ev.neg (by omega) (Ev.some rfl))
  · intro i hi hp r hr
    simp only [peopleP, Bool.and_eq_true] at hp
    rw [← wrap_succ (by omega)] at hr
    refine Ev.step (fun _ => impl_ArePeople.l0.eq_2 ..) (Ev.pos (by omega) (Ev.pos (by omega) (Ev.pos (by omega) (Ev.bind (IsPerson_ _ _ _ _ (hs _ (atP_mem hi))) (Ev.pos hp.1 (Ev.ite (fun h0 => ?_) (fun h0 => hr)))))))
    rw [wrap_pred (by omega) (by omega)]
    refine Ev.pos (by omega) (Ev.pos (by omega) (Ev.pos ?_ hr))
    have := hp.2
    simp only [Bool.or_eq_true, decide_eq_true_eq] at this
    rcases this with h | h
    · omega
    · exact h
  · intro i hi hp
    refine Ev.step (fun _ => impl_ArePeople.l0.eq_2 ..) (Ev.pos (by omega) (Ev.pos (by omega) (Ev.pos (by omega) (Ev.bind (IsPerson_ _ _ _ _ (hs _ (atP_mem hi))) (Ev.ite (fun h1 => ?_) (fun _ => Ev.some rfl))))))
    simp only [peopleP, Bool.and_eq_false_iff, Bool.or_eq_false_iff, decide_eq_false_iff_not] at hp
    rcases hp with hp | ⟨hp, hq⟩
    · exact absurd (h1.symm.trans hp) (by decide)
    · refine Ev.pos (by omega) ?_
      rw [wrap_pred (by omega) (by omega)]
      exact Ev.pos (by omega) (Ev.pos (by omega) (Ev.neg (Bool.eq_false_iff.1 hq) (Ev.some rfl)))
end Go.Proofs.YtpdcopbnhaoilaaDoor.MPerson
end
section
/- AddPerson: what the reference and the program answer, in plain words (out of the pure text of the exact law). No condition. -/
namespace Go.Proofs.YtpdcopbnhaoilaaDoor.MCAddPerson
open Go.RowKit Go.Proofs.YtpdcopbnhaoilaaDoor.G Go.Proofs.YtpdcopbnhaoilaaDoorW.PrintWords Go.Proofs.YtpdcopbnhaoilaaDoorW.PrintLast Go.Proofs.YtpdcopbnhaoilaaDoor.MPure Go.Proofs.YtpdcopbnhaoilaaDoor.MWord Go.Proofs.YtpdcopbnhaoilaaDoor.MPerson

/-! ### texts in order -/
theorem less_trans : ∀ a b c : List UInt8, Op.bytesLess a b = true → Op.bytesLess b c = true → Op.bytesLess a c = true
  | _, _, [], _, h => by simp [Op.bytesLess] at h
  | a, [], c :: cs, h, _ => by simp [Op.bytesLess] at h
  | [], b :: bs, c :: cs, _, _ => rfl
  | a :: xs, b :: ys, c :: zs, h1, h2 => by
    simp only [Op.bytesLess, Bool.or_eq_true, Bool.and_eq_true, decide_eq_true_eq, beq_iff_eq] at h1 h2 ⊢
    rcases h1 with h1 | ⟨rfl, h1⟩
    · rcases h2 with h2 | ⟨rfl, _⟩
      · exact Or.inl (UInt8.lt_trans h1 h2)
      · exact Or.inl h1
    · rcases h2 with h2 | ⟨rfl, h2⟩
      · exact Or.inl h2
      · exact Or.inr ⟨rfl, less_trans xs ys zs h1 h2⟩
theorem cmp_neg : ∀ a b : List UInt8, decide (Lib.compareBytes a b < 0) = Op.bytesLess a b
  | [], [] => rfl
  | [], _ :: _ => rfl
  | _ :: _, [] => rfl
  | a :: xs, b :: ys => by
    have ih := cmp_neg xs ys
    unfold Lib.compareBytes Op.bytesLess
    by_cases h1 : a < b
    · rw [if_pos h1, decide_eq_true h1]; rfl
    · rw [if_neg h1, decide_eq_false h1, Bool.false_or]
      by_cases h2 : b < a
      · have h3 : (a == b) = false := beq_eq_false_iff_ne.2 (fun e => by subst e; exact h1 h2)
        rw [if_pos h2, h3]; rfl
      · have h3 : a = b := UInt8.le_antisymm (UInt8.not_lt.1 h2) (UInt8.not_lt.1 h1)
        subst h3
        rw [if_neg h2, ih]
        simp
/-- Whether a person's name stands before another one's. -/
def bef (x y : PI) : Bool := Op.bytesLess x.f0.toList y.f0.toList
theorem bef_trans {x y z : PI} (h1 : bef x y = true) (h2 : bef y z = true) : bef x z = true := less_trans _ _ _ h1 h2
theorem bef_asymm {x y : PI} (h : bef x y = true) : bef y x = false := by
  have ht := less_total x.f0.toList y.f0.toList
  unfold bef at h ⊢
  rw [h, Bool.true_or] at ht
  cases hq : Op.bytesLess y.f0.toList x.f0.toList with
  | false => rfl
  | true => rw [hq] at ht; cases ht
theorem lit_ (x y : PI) : impl_AddPersonLit1.f x.f0 x.f1 x.f2 x.f3 y.f0 y.f1 y.f2 y.f3 = some (Lib.compareBytes x.f0.data.toList y.f0.data.toList) := rfl
theorem lit_neg (x y : PI) : (Lib.compareBytes x.f0.data.toList y.f0.data.toList < 0) ↔ bef x y = true := by
  have h := cmp_neg x.f0.data.toList y.f0.data.toList
  unfold bef
  rw [ByteArray.toList_eq, ByteArray.toList_eq, ← h, decide_eq_true_eq]
/-! ### people -/
theorem atP_get {l : List PI} {i : Nat} (h : i < l.length) : atP l i = l[i] := by
  unfold atP
  rw [List.getD_eq_getElem?_getD, List.getElem?_eq_getElem h]
  rfl
theorem people_at {l : List PI} (h : peopleB l = true) {i : Nat} (hi : i < l.length) : personB (atP l i).f0 (atP l i).f1 (atP l i).f2 (atP l i).f3 = true ∧ (i = 0 ∨ bef (atP l (i - 1)) (atP l i) = true) := by
  unfold peopleB at h
  simp only [Bool.and_eq_true, List.all_eq_true, List.mem_range] at h
  have := h.1 i hi
  unfold peopleP at this
  simp only [Bool.and_eq_true, Bool.or_eq_true, decide_eq_true_eq] at this
  exact this
theorem people_len {l : List PI} (h : peopleB l = true) : l.length ≤ 10 := by
  unfold peopleB at h
  simp only [Bool.and_eq_true, decide_eq_true_eq] at h
  omega
theorem people_lt {l : List PI} (h : peopleB l = true) : ∀ d i : Nat, i + d + 1 < l.length → bef (atP l i) (atP l (i + d + 1)) = true := by
  intro d
  induction d with
  | zero =>
    intro i hi
    have := (people_at h hi).2
    rcases this with h0 | h0
    · omega
    · exact h0
  | succ d ih =>
    intro i hi
    have h1 := ih i (by omega)
    have h2 := (people_at h hi).2
    rcases h2 with h0 | h0
    · omega
    · exact bef_trans h1 h0
theorem people_before {l : List PI} (h : peopleB l = true) {i j : Nat} (hij : i < j) (hj : j < l.length) : bef (atP l i) (atP l j) = true := by
  have := people_lt h (j - i - 1) i (by omega)
  rwa [show i + (j - i - 1) + 1 = j by omega] at this
/-- A person put in at a place. -/
def ins (l : List PI) (j : Nat) (p : PI) : List PI := l.take j ++ p :: l.drop j
theorem ins_length (l : List PI) (j : Nat) (p : PI) (h : j ≤ l.length) : (ins l j p).length = l.length + 1 := by
  unfold ins
  rw [List.length_append, List.length_cons, List.length_take, List.length_drop]
  omega
theorem ins_at (l : List PI) (j : Nat) (p : PI) (h : j ≤ l.length) (i : Nat) : atP (ins l j p) i = if i < j then atP l i else if i = j then p else atP l (i - 1) := by
  have ht : (l.take j).length = j := by rw [List.length_take]; omega
  unfold atP ins
  rw [List.getD_eq_getElem?_getD]
  by_cases c : i < j
  · rw [if_pos c, List.getElem?_append_left (by omega), List.getElem?_take, if_pos c, ← List.getD_eq_getElem?_getD]
  · rw [if_neg c, List.getElem?_append_right (by omega), ht]
    by_cases c2 : i = j
    · rw [if_pos c2, c2, Nat.sub_self]; rfl
    · rw [if_neg c2, show i - j = (i - j - 1) + 1 by omega, List.getElem?_cons_succ, List.getElem?_drop, List.getD_eq_getElem?_getD, show j + (i - j - 1) = i - 1 by omega]
theorem ins_sized (l : List PI) (hl : SizedP l) (j : Nat) (p : PI) (hp : p.f0.size ≤ 140737488351232) (hj : j ≤ l.length) (h : l.length ≤ 1000) : SizedP (ins l j p) := by
  refine ⟨by rw [ins_length l j p hj]; omega, fun x hx => ?_⟩
  unfold ins at hx
  rcases List.mem_append.1 hx with hx | hx
  · exact hl.2 x (List.mem_of_mem_take hx)
  · rcases List.mem_cons.1 hx with rfl | hx
    · exact hp
    · exact hl.2 x (List.mem_of_mem_drop hx)
/-- The reference's place: behind all that stand before. -/
def plc (p : PI) : List PI → Nat
  | [] => 0
  | x :: l => if bef x p = true then plc p l + 1 else 0
theorem plc_le (p : PI) : ∀ l : List PI, plc p l ≤ l.length
  | [] => Nat.le_refl _
  | x :: l => by
    have := plc_le p l
    simp only [plc, List.length_cons]
    split <;> omega
theorem plc_take (p : PI) : ∀ (l : List PI) (i : Nat), i ≤ l.length → (∀ j, j < i → bef (atP l j) p = true) → (i < l.length → ¬ bef (atP l i) p = true) → plc p l = i
  | [], i, h, _, _ => by simp at h; simp [plc, h]
  | x :: l, 0, _, _, h3 => by
    have : ¬ bef x p = true := h3 (by simp)
    simp [plc, this]
  | x :: l, i + 1, h1, h2, h3 => by
    have h0 : bef x p = true := h2 0 (by omega)
    have ih := plc_take p l i (by simpa using h1) (fun j hj => h2 (j + 1) (by omega)) (fun h => h3 (by simpa using h))
    simp [plc, h0, ih]
theorem plc_low (p : PI) : ∀ (l : List PI) (i : Nat), i < plc p l → bef (atP l i) p = true
  | [], i, h => by simp [plc] at h
  | x :: l, i, h => by
    simp only [plc] at h
    by_cases c : bef x p = true
    · rw [if_pos c] at h
      cases i with
      | zero => exact c
      | succ i => exact plc_low p l i (by omega)
    · rw [if_neg c] at h; omega
theorem plc_high (p : PI) : ∀ (l : List PI), plc p l < l.length → bef (atP l (plc p l)) p = false
  | [], h => by simp at h
  | x :: l, h => by
    simp only [plc] at h ⊢
    by_cases c : bef x p = true
    · rw [if_pos c] at h ⊢
      exact plc_high p l (by simpa using h)
    · rw [if_neg c]
      exact Bool.eq_false_iff.2 c
/-- The program's place: the person goes back past all that it stands before. -/
def back (l : List PI) (p : PI) : Nat → Nat
  | 0 => 0
  | j + 1 => if bef p (atP l j) = true then back l p j else j + 1
theorem back_le (l : List PI) (p : PI) : ∀ j, back l p j ≤ j
  | 0 => Nat.le_refl _
  | j + 1 => by
    have := back_le l p j
    simp only [back]
    split <;> omega
theorem back_high (l : List PI) (p : PI) : ∀ j i, back l p j ≤ i → i < j → bef p (atP l i) = true
  | 0, i, _, h => absurd h (Nat.not_lt_zero _)
  | j + 1, i, h1, h2 => by
    simp only [back] at h1
    by_cases c : bef p (atP l j) = true
    · rw [if_pos c] at h1
      by_cases e : i = j
      · rw [e]; exact c
      · exact back_high l p j i h1 (by omega)
    · rw [if_neg c] at h1; omega
theorem back_low (l : List PI) (p : PI) : ∀ j, 0 < back l p j → bef p (atP l (back l p j - 1)) = false
  | 0, h => absurd h (Nat.not_lt_zero _)
  | j + 1, h => by
    simp only [back] at h ⊢
    by_cases c : bef p (atP l j) = true
    · rw [if_pos c] at h ⊢
      exact back_low l p j h
    · rw [if_neg c, Nat.add_sub_cancel]
      exact Bool.eq_false_iff.2 c
/-- At most one of the two places gives people, and then it is both. -/
theorem both_places (l : List PI) (p : PI) (h : peopleB l = true) : back l p l.length = plc p l ∨ (peopleB (ins l (plc p l) p) = false ∧ peopleB (ins l (back l p l.length) p) = false) := by
  have k1 := plc_le p l
  have k2 := back_le l p l.length
  rcases Nat.lt_trichotomy (plc p l) (back l p l.length) with c | c | c
  · right
    have hlo := back_low l p l.length (by omega)
    have hhi := plc_high p l (by omega)
    constructor
    · rw [Bool.eq_false_iff]
      intro hb
      have h1 := (people_at hb (show plc p l + 1 < (ins l (plc p l) p).length by rw [ins_length l _ p k1]; omega)).2
      rcases h1 with h1 | h1
      · omega
      · rw [ins_at l _ p k1, ins_at l _ p k1, Nat.add_sub_cancel, if_neg (Nat.lt_irrefl _), if_pos rfl, if_neg (by omega), if_neg (by omega)] at h1
        by_cases e : plc p l = back l p l.length - 1
        · rw [← e, h1] at hlo; cases hlo
        · have h2 := people_before h (show plc p l < back l p l.length - 1 by omega) (by omega)
          rw [bef_trans h1 h2] at hlo; cases hlo
    · rw [Bool.eq_false_iff]
      intro hb
      have h1 := (people_at hb (show back l p l.length < (ins l (back l p l.length) p).length by rw [ins_length l _ p k2]; omega)).2
      rcases h1 with h1 | h1
      · omega
      · rw [ins_at l _ p k2, ins_at l _ p k2, if_pos (by omega), if_neg (Nat.lt_irrefl _), if_pos rfl] at h1
        by_cases e : plc p l = back l p l.length - 1
        · rw [← e, hhi] at h1; cases h1
        · have h2 := people_before h (show plc p l < back l p l.length - 1 by omega) (by omega)
          rw [bef_trans h2 h1] at hhi; cases hhi
  · exact Or.inl c.symm
  · exfalso
    have h1 := plc_low p l _ c
    have h2 := back_high l p l.length _ (Nat.le_refl _) (by omega)
    rw [bef_asymm h2] at h1
    cases h1
/-! ### the sort -/
theorem rdP (x : List PI) (i : Nat) : rd_T26 x (i : Int) = atP x i := rfl
theorem swap_ins (l : List PI) (p : PI) (j : Nat) (h : j < l.length) : ((ins l (j + 1) p).set (j + 1) (atP l j)).set j p = ins l j p := by
  have ht : (l.take j).length = j := by rw [List.length_take]; omega
  have e1 : ins l (j + 1) p = l.take j ++ (atP l j :: p :: l.drop (j + 1)) := by
    unfold ins
    rw [List.take_succ_eq_append_getElem h, List.append_assoc, ← atP_get h]
    rfl
  have e2 : ins l j p = l.take j ++ (p :: atP l j :: l.drop (j + 1)) := by
    unfold ins
    rw [List.drop_eq_getElem_cons h, ← atP_get h]
  rw [e1, e2, List.set_append_right _ _ (by omega), List.set_append_right _ _ (by omega), ht, Nat.sub_self, show j + 1 - j = 1 by omega]
  rfl
/-- The last person goes to its place. -/
theorem last_back (l : List PI) (p : PI) (hl : l.length ≤ 1000) : ∀ j : Nat, j ≤ l.length → Ev (fun k => slices_insertionSortCmpFunc_Person.l1 k (ins l j p) 0 ((l.length + 1 : Nat) : Int) ((l.length : Nat) : Int) (j : Int)) (ins l (back l p j) p) := by
  have hend : ∀ j, Ev (fun k => slices_insertionSortCmpFunc_Person.l0 k (ins l j p) 0 ((l.length + 1 : Nat) : Int) (wrap64 (((l.length : Nat) : Int) + 1))) (ins l j p) := fun j => by
    rw [wrap_succ (by omega)]
    exact Ev.step (fun _ => slices_insertionSortCmpFunc_Person.l0.eq_2 ..) (Ev.neg (by omega) (Ev.some rfl))
  intro j
  induction j with
  | zero =>
    intro _
    exact Ev.step (fun _ => slices_insertionSortCmpFunc_Person.l1.eq_2 ..) (Ev.neg (by omega) (hend 0))
  | succ j ih =>
    intro hj
    have hlen := ins_length l (j + 1) p hj
    have w : wrap64 (((j + 1 : Nat) : Int) - 1) = (j : Int) := by rw [wrap_pred (by omega) (by omega)]; rfl
    refine Ev.step (fun _ => slices_insertionSortCmpFunc_Person.l1.eq_2 ..) (Ev.pos (by omega) ?_)
    rw [w]
    refine Ev.pos (by omega) (Ev.pos (by omega) (Ev.pos (by omega) (Ev.pos (by omega) ?_)))
    rw [rdP, rdP, ins_at l _ p hj, ins_at l _ p hj, if_neg (Nat.lt_irrefl _), if_pos rfl, if_pos (Nat.lt_succ_self j)]
    refine Ev.have (lit_ p (atP l j)) ?_
    simp only [back]
    by_cases c : bef p (atP l j) = true
    · rw [if_pos c]
      refine Ev.pos ((lit_neg _ _).2 c) ?_
      have := ih (by omega)
      rw [← swap_ins l p j (by omega)] at this
      exact this
    · rw [if_neg c]
      exact Ev.neg (fun q => c ((lit_neg _ _).1 q)) (hend (j + 1))
theorem sorted_on (l : List PI) (p : PI) (h : peopleB l = true) : ∀ d i : Nat, i + d = l.length → 1 ≤ i → Ev (fun k => slices_insertionSortCmpFunc_Person.l0 k (ins l l.length p) 0 ((l.length + 1 : Nat) : Int) (i : Int)) (ins l (back l p l.length) p) := by
  have hl := people_len h
  have hlen := ins_length l l.length p (Nat.le_refl _)
  intro d
  induction d with
  | zero =>
    intro i hi h1
    obtain rfl : i = l.length := by omega
    exact Ev.step (fun _ => slices_insertionSortCmpFunc_Person.l0.eq_2 ..) (Ev.pos (by omega) (last_back l p (by omega) l.length (Nat.le_refl _)))
  | succ d ih =>
    intro i hi h1
    have hs := ih (i + 1) (by omega) (by omega)
    have hw1 : wrap64 ((i : Int) + 1) = ((i + 1 : Nat) : Int) := wrap_succ (by omega)
    rw [← hw1] at hs
    have w : wrap64 ((i : Int) - 1) = ((i - 1 : Nat) : Int) := wrap_pred (by omega) (by omega)
    have hb : bef (atP l i) (atP l (i - 1)) = false := bef_asymm (people_before h (show i - 1 < i by omega) (by omega))
    refine Ev.step (fun _ => slices_insertionSortCmpFunc_Person.l0.eq_2 ..) (Ev.pos (by omega) (Ev.step (fun _ => slices_insertionSortCmpFunc_Person.l1.eq_2 ..) (Ev.pos (by omega) ?_)))
    rw [w]
    refine Ev.pos (by omega) (Ev.pos (by omega) (Ev.pos (by omega) (Ev.pos (by omega) ?_)))
    rw [rdP, rdP, ins_at l _ p (Nat.le_refl _), ins_at l _ p (Nat.le_refl _), if_pos (show i < l.length by omega), if_pos (show i - 1 < l.length by omega)]
    exact Ev.have (lit_ _ _) (Ev.neg (fun q => by rw [(lit_neg _ _).1 q] at hb; cases hb) hs)
theorem Sort_ (l : List PI) (p : PI) (h : peopleB l = true) : Ev (fun k => slices_SortFunc_Person.f k (l ++ [p])) (ins l (back l p l.length) p) := by
  have hl := people_len h
  have e : l ++ [p] = ins l l.length p := by unfold ins; rw [List.take_length, List.drop_length]
  have hlen := ins_length l l.length p (Nat.le_refl _)
  rw [e]
  unfold slices_SortFunc_Person.f slices_pdqsortCmpFunc_Person.f slices_insertionSortCmpFunc_Person.f bits_Len.f
  rw [hlen]
  have hu : IntKind.u64.wrap ((l.length + 1 : Nat) : Int) = ((l.length + 1 : Nat) : Int) := by unfold IntKind.wrap; simp [IntKind.bits, IntKind.signed]; omega
  rw [hu, if_pos ⟨by omega, by omega⟩]
  refine Ev.have rfl ?_
  have hw : wrap64 (((l.length + 1 : Nat) : Int) - 0) ≤ 12 := by rw [wrap_in (by omega) (by omega)]; omega
  refine Ev.bind (a := ins l (back l p l.length) p) (Ev.pos hw ?_) (Ev.some rfl)
  rw [show wrap64 (0 + 1) = ((1 : Nat) : Int) by unfold wrap64; omega]
  by_cases c : l.length = 0
  · have hb : back l p l.length = l.length := by rw [c]; rfl
    rw [hb]
    exact Ev.step (fun _ => slices_insertionSortCmpFunc_Person.l0.eq_2 ..) (Ev.neg (by omega) (Ev.some rfl))
  · exact sorted_on l p h (l.length - 1) 1 (by omega) (Nat.le_refl _)
/-! ### the law -/
def peoR (r : List PI) : List PI × Bool := if peopleB r = true then (r, true) else ([], false)
def addR (l : List PI) (p : PI) : List PI × Bool := if peopleB l = true then peoR (ins l (plc p l) p) else ([], false)
theorem no_person (l : List PI) (j : Nat) (p : PI) (hj : j ≤ l.length) (hp : personB p.f0 p.f1 p.f2 p.f3 = false) : peopleB (ins l j p) = false := by
  rw [Bool.eq_false_iff]
  intro h
  have h1 := (people_at h (show j < (ins l j p).length by rw [ins_length l j p hj]; omega)).1
  rw [ins_at l j p hj, if_neg (Nat.lt_irrefl _), if_pos rfl, hp] at h1
  cases h1
theorem Add_i (l : List PI) (hl : SizedP l) (p : PI) (hp : p.f0.size ≤ 140737488351232) : Ev (fun k => impl_AddPerson.f k l p.f0 p.f1 p.f2 p.f3) (addR l p) := by
  have hj : ∀ z, z = ([], false) → Ev (fun k => impl_AddPerson.j0 k l true p.f0 p.f1 p.f2 p.f3) z := fun z hz => Ev.step (fun _ => impl_AddPerson.j0.eq_2 ..) (Ev.pos rfl (Ev.some hz.symm))
  have k1 := plc_le p l
  have k2 := back_le l p l.length
  unfold impl_AddPerson.f addR
  refine Ev.bind (ArePeople_ l hl) (Ev.ite (fun h1 => ?_) (fun h1 => hj _ (by rw [if_neg h1])))
  have hn := people_len h1
  rw [if_pos h1]
  refine Ev.bind (IsPerson_ p.f0 p.f1 p.f2 p.f3 hp) ?_
  cases hq : personB p.f0 p.f1 p.f2 p.f3 with
  | false => exact hj _ (by unfold peoR; rw [if_neg (by rw [no_person l _ p k1 hq]; simp)])
  | true =>
    have hc : slices_Clone_Person.f l = some l := by
      unfold slices_Clone_Person.f
      rw [if_pos (by omega)]
    have hs := Sort_ l p h1
    have ha := ArePeople_ _ (ins_sized l hl (back l p l.length) p hp k2 (by omega))
    refine Ev.step (fun _ => impl_AddPerson.j0.eq_2 ..) (Ev.neg (by simp) (Ev.have hc (Ev.have rfl (Ev.pos (by simp; omega) (Ev.bind hs (Ev.bind ha ?_))))))
    unfold peoR
    rcases both_places l p h1 with hb | ⟨b1, b2⟩
    · rw [hb]
      exact Ev.ite (fun h => Ev.some (by rw [if_pos h])) (fun h => Ev.some (by rw [if_neg h]))
    · exact Ev.neg (by rw [b2]; exact Bool.false_ne_true) (Ev.some (by rw [if_neg (by rw [b1]; exact Bool.false_ne_true)]))
theorem Add_s (l : List PI) (hl : SizedP l) (p : PI) (hp : p.f0.size ≤ 140737488351232) : Ev (fun k => spec_AddPerson.f k l p.f0 p.f1 p.f2 p.f3) (addR l p) := by
  unfold spec_AddPerson.f addR
  refine Ev.bind (naGood_ l hl) (Ev.ite (fun h1 => ?_) (fun h1 => Ev.some (by rw [if_neg h1])))
  have hn := people_len h1
  rw [if_pos h1]
  have hg := naGood_ _ (ins_sized l hl (plc p l) p hp (plc_le p l) (by omega))
  have key : ∀ d i : Nat, i + d = l.length → (∀ j, j < i → bef (atP l j) p = true) → Ev (fun k => spec_AddPerson.l0 k l (i : Int) p.f0 p.f1 p.f2 p.f3) (peoR (ins l (plc p l) p)) := by
    intro d
    induction d with
    | zero =>
      intro i hi h
      have e := plc_take p l i (by omega) h (fun h => by omega)
      have ht : (l.take ((i : Int)).toNat).length = i := by rw [List.length_take]; omega
      have hd : (l.drop ((i : Int)).toNat).length = l.length - i := by rw [List.length_drop]; omega
      rw [e] at hg ⊢
      have ei : [] ++ l.take ((i : Int)).toNat ++ [(⟨p.f0, p.f1, p.f2, p.f3⟩ : PI)] ++ l.drop ((i : Int)).toNat = ins l i p := by
        unfold ins
        rw [List.nil_append, List.append_assoc]
        rfl
      rw [← ei] at hg ⊢
      refine Ev.step (fun _ => spec_AddPerson.l0.eq_2 ..) (Ev.neg (by omega) (Ev.have rfl (Ev.pos (by omega) (Ev.pos (by omega) (Ev.have rfl (Ev.pos ?_ (Ev.have rfl (Ev.have rfl (Ev.pos ?_ (Ev.have rfl (Ev.have rfl (Ev.pos ?_ (Ev.have rfl (Ev.bind hg ?_))))))))))))))
      · simp only [List.length_nil]; omega
      · simp only [List.nil_append, List.length_cons, List.length_nil]; omega
      · simp only [List.nil_append, List.length_append, List.length_cons, List.length_nil]; omega
      · exact Ev.ite (fun h => Ev.some (by unfold peoR; rw [if_pos h])) (fun h => Ev.some (by unfold peoR; rw [if_neg h]))
    | succ d ih =>
      intro i hi h
      by_cases c : bef (atP l i) p = true
      · have h2 := ih (i + 1) (by omega) (fun j hj => by
          by_cases e : j = i
          · rw [e]; exact c
          · exact h j (by omega))
        rw [← wrap_succ (by omega)] at h2
        exact Ev.step (fun _ => spec_AddPerson.l0.eq_2 ..) (Ev.pos (by omega) (Ev.pos (by omega) (Ev.pos c h2)))
      · have e := plc_take p l i (by omega) h (fun _ => c)
        have ht : (l.take ((i : Int)).toNat).length = i := by rw [List.length_take]; omega
        have hd : (l.drop ((i : Int)).toNat).length = l.length - i := by rw [List.length_drop]; omega
        rw [e] at hg ⊢
        have ei : [] ++ l.take ((i : Int)).toNat ++ [(⟨p.f0, p.f1, p.f2, p.f3⟩ : PI)] ++ l.drop ((i : Int)).toNat = ins l i p := by
          unfold ins
          rw [List.nil_append, List.append_assoc]
          rfl
        rw [← ei] at hg ⊢
        refine Ev.step (fun _ => spec_AddPerson.l0.eq_2 ..) (Ev.pos (by omega) (Ev.pos (by omega) (Ev.neg c (Ev.have rfl (Ev.pos (by omega) (Ev.have rfl (Ev.pos ?_ (Ev.have rfl (Ev.have rfl (Ev.pos ?_ (Ev.have rfl (Ev.have rfl (Ev.pos ?_ (Ev.have rfl (Ev.bind hg ?_)))))))))))))))
        · simp only [List.length_nil]; omega
        · simp only [List.nil_append, List.length_cons, List.length_nil]; omega
        · simp only [List.nil_append, List.length_append, List.length_cons, List.length_nil]; omega
        · exact Ev.ite (fun h => Ev.some (by unfold peoR; rw [if_pos h])) (fun h => Ev.some (by unfold peoR; rw [if_neg h]))
  exact key l.length 0 (by omega) (fun j hj => absurd hj (Nat.not_lt_zero _))
theorem addR_length (l : List PI) (p : PI) : (addR l p).1.length ≤ l.length + 1 := by
  unfold addR peoR
  split
  · split
    · show (ins l (plc p l) p).length ≤ _
      rw [ins_length l _ p (plc_le p l)]; exact Nat.le_refl _
    · exact Nat.zero_le _
  · exact Nat.zero_le _
end Go.Proofs.YtpdcopbnhaoilaaDoor.MCAddPerson
end
section
/- WhoIs: what the reference and the program answer, in plain words (out of the pure text of the exact law). No condition. -/
namespace Go.Proofs.YtpdcopbnhaoilaaDoor.MCWhoIs
open Go.RowKit Go.Proofs.YtpdcopbnhaoilaaDoor.G Go.Proofs.YtpdcopbnhaoilaaDoorW.PrintWords Go.Proofs.YtpdcopbnhaoilaaDoorW.PrintLast Go.Proofs.YtpdcopbnhaoilaaDoor.MPure Go.Proofs.YtpdcopbnhaoilaaDoor.MWord Go.Proofs.YtpdcopbnhaoilaaDoor.MPerson

theorem who_loop (l : List PI) (hl : l.length ≤ 4398046511104) (a b : Int) : Ev (fun k => spec_WhoIs.l0 k a b [] l (l.length : Int) 0) (MFun.places (impl_WhoIs.p a b) l, true) := by
  have key : ∀ d i : Nat, i + d = l.length → Ev (fun k => spec_WhoIs.l0 k a b (MFun.places (impl_WhoIs.p a b) (l.take i)) l (l.length : Int) (i : Int)) (MFun.places (impl_WhoIs.p a b) l, true) := by
    intro d
    induction d with
    | zero =>
      intro i hi
      rw [List.take_of_length_le (by omega)]
      exact Ev.step (fun _ => spec_WhoIs.l0.eq_2 ..) (Ev.neg (by omega) (Ev.some rfl))
    | succ d ih =>
      intro i hi
      have h := ih (i + 1) (by omega)
      have hn : (MFun.places (impl_WhoIs.p a b) (l.take i)).length ≤ i := Nat.le_trans (MFun.places_length _ _ 0) (by simp; omega)
      rw [MFun.places_take _ l z26 i (by omega), ← wrap_succ (by omega)] at h
      refine Ev.step (fun _ => spec_WhoIs.l0.eq_2 ..) (Ev.pos (by omega) (Ev.pos (by omega) (Ev.pos (by omega) (Ev.ite (fun h1 => Ev.ite (fun h2 => Ev.pos (by omega) ?_) (fun h2 => ?_)) (fun h1 => ?_)))))
      · have e : impl_WhoIs.p a b (l.getD i z26) = true := decide_eq_true ⟨h1, h2⟩
        rw [if_pos e] at h
        exact h
      · have e : impl_WhoIs.p a b (l.getD i z26) = false := decide_eq_false (fun h => h2 h.2)
        rw [e] at h
        exact h
      · have e : impl_WhoIs.p a b (l.getD i z26) = false := decide_eq_false (fun h => h1 h.1)
        rw [e] at h
        exact h
  exact key l.length 0 (by omega)
def whoR (l : List PI) (a b : Int) : List Int × Bool := if peopleB l = true ∧ (0 ≤ a ∧ a ≤ 25) ∧ (0 ≤ b ∧ b ≤ 9) then (MFun.places (impl_WhoIs.p a b) l, true) else ([], false)
theorem whoR_length (l : List PI) (a b : Int) : (whoR l a b).1.length ≤ l.length := by
  unfold whoR
  split
  · exact MFun.places_length _ _ 0
  · exact Nat.zero_le _
theorem WhoIs_s (l : List PI) (hl : SizedP l) (hl2 : l.length ≤ 4398046511104) (a b : Int) : Ev (fun k => spec_WhoIs.f k l a b) (whoR l a b) := by
  unfold spec_WhoIs.f whoR
  have hj : ∀ q : Bool, q = true → Ev (fun k => spec_WhoIs.j0 k l a b q) ([], false) := fun q hq => Ev.step (fun _ => spec_WhoIs.j0.eq_2 ..) (Ev.pos hq (Ev.some rfl))
  by_cases h1 : peopleB l = true
  · by_cases h2 : 0 ≤ a ∧ a ≤ 25
    · by_cases h3 : 0 ≤ b ∧ b ≤ 9
      · rw [if_pos ⟨h1, h2, h3⟩]
        exact Ev.bind (naGood_ l hl) (Ev.pos h1 (Ev.have (naLetter_ a) (Ev.pos (decide_eq_true h2) (Ev.have (naPlace_ b) (Ev.step (fun _ => spec_WhoIs.j0.eq_2 ..) (Ev.neg (by simp [placeB, h3]) (who_loop l hl2 a b)))))))
      · rw [if_neg (fun h => h3 h.2.2)]
        exact Ev.bind (naGood_ l hl) (Ev.pos h1 (Ev.have (naLetter_ a) (Ev.pos (decide_eq_true h2) (Ev.have (naPlace_ b) (hj _ (by simp [placeB]; omega))))))
    · rw [if_neg (fun h => h2 h.2.1)]
      exact Ev.bind (naGood_ l hl) (Ev.pos h1 (Ev.have (naLetter_ a) (Ev.neg (by simp [letterB]; omega) (hj _ rfl))))
  · rw [if_neg (fun h => h1 h.1)]
    exact Ev.bind (naGood_ l hl) (Ev.neg h1 (hj _ rfl))
theorem WhoIs_i (l : List PI) (hl : SizedP l) (hl2 : l.length ≤ 4398046511104) (a b : Int) : Ev (fun k => impl_WhoIs.f k l a b) (whoR l a b) := by
  unfold impl_WhoIs.f whoR
  refine Ev.bind (ArePeople_ l hl) (Ev.ite (fun h => Ev.pos (by omega) (Ev.some ?_)) (fun h => Ev.some ?_))
  · rw [if_pos h]
  · rw [if_neg h]
end Go.Proofs.YtpdcopbnhaoilaaDoor.MCWhoIs
end
section
/- What the laws draw: every cursor's function answers, and what it answers. No condition. -/
namespace Go.Proofs.YtpdcopbnhaoilaaDoor.MDraw
open Go.RowKit Go.Proofs.YtpdcopbnhaoilaaDoor.G Go.Proofs.YtpdcopbnhaoilaaDoorW.PrintWords Go.Proofs.YtpdcopbnhaoilaaDoorW.PrintLast Go.Proofs.YtpdcopbnhaoilaaDoor.MPure

/-- The bytes that come in. -/
def Bytes (s : List Int) : Prop := ∀ a, a ∈ s → (Lit.int .u8 a).wf = true
theorem Bytes.at {s : List Int} (h : Bytes s) (i : Int) (h0 : 0 ≤ i) (h1 : i < (s.length : Int)) : 0 ≤ rd s i ∧ rd s i ≤ 255 := by
  have hm : rd s i ∈ s := by
    show s.getD i.toNat 0 ∈ s
    rw [List.getD_eq_getElem?_getD, List.getElem?_eq_getElem (show i.toNat < s.length by omega)]
    exact List.getElem_mem _
  have := h _ hm
  simp only [Lit.wf, Bool.and_eq_true, decide_eq_true_eq] at this
  exact this
theorem and_255 (x : Int) : 0 ≤ Go.bits .and .u64 x 255 ∧ Go.bits .and .u64 x 255 ≤ 255 := by
  have h : ((BitVec.ofInt IntKind.u64.bits x) &&& (BitVec.ofInt IntKind.u64.bits 255)).toNat ≤ 255 := by
    rw [BitVec.toNat_and]
    exact Nat.le_trans Nat.and_le_right (by decide)
  unfold Go.bits
  simp only
  generalize ((BitVec.ofInt IntKind.u64.bits x) &&& (BitVec.ofInt IntKind.u64.bits 255)).toNat = n at h
  have e : IntKind.u64.wrap (n : Int) = (n : Int) := by
    have h1 : (0 : Int) ≤ n := by omega
    have h2 : (n : Int) ≤ 255 := by omega
    generalize (n : Int) = z at h1 h2
    unfold IntKind.wrap
    simp [IntKind.signed, IntKind.bits]
    omega
  rw [e]
  omega
theorem next_ (s : List Int) (hs : Bytes s) (a d : Int) (h0 : 0 ≤ a) (h1 : a ≤ 1000000000000000) : ∃ v d', spec_l1Cur_next.f s a d = some (v, a + 1, d') ∧ 0 ≤ v ∧ v ≤ 255 := by
  have hw : wrap64 (a + 1) = a + 1 := wrap_in (by omega) (by omega)
  unfold spec_l1Cur_next.f
  rw [hw]
  split
  · rename_i h
    have hr := hs.at a h0 h
    have hv : wrap64 (rd s a) = rd s a := wrap_in (by omega) (by omega)
    rw [if_pos (by omega), hv]
    exact ⟨_, _, rfl, hr.1, hr.2⟩
  · split
    · exact ⟨_, _, rfl, by omega, by omega⟩
    · have hb := and_255 ((IntKind.u64.wrap ((IntKind.u64.wrap ((IntKind.u64.wrap (d * 6364136223846793005)) + 0)) + 1442695040888963407)) / 1099511627776)
      refine ⟨_, _, rfl, ?_, ?_⟩
      · rw [wrap_in (by omega) (by omega)]; exact hb.1
      · rw [wrap_in (by omega) (by omega)]; exact hb.2
theorem pick_ (s : List Int) (hs : Bytes s) (a d n : Int) (h0 : 0 ≤ a) (h1 : a ≤ 1000000000000) : ∃ v a' d', spec_l1Cur_pick.f s a d n = some (v, a', d') ∧ 0 ≤ v ∧ v ≤ 65535 ∧ (1 ≤ n → v < n) ∧ a ≤ a' ∧ a' ≤ a + 2 := by
  unfold spec_l1Cur_pick.f
  split
  · exact ⟨_, _, _, rfl, by omega, by omega, fun h => by omega, by omega, by omega⟩
  · rename_i hn
    obtain ⟨v, d1, e1, v0, v1⟩ := next_ s hs a d h0 (by omega)
    rw [e1]
    simp only [Option.bind_some]
    split
    · obtain ⟨u, d2, e2, u0, u1⟩ := next_ s hs (a + 1) d1 (by omega) (by omega)
      rw [e2]
      simp only [Option.bind_some]
      rw [if_neg (by omega), wrap_in (show -9223372036854775808 ≤ v * 256 by omega) (by omega), wrap_in (show -9223372036854775808 ≤ v * 256 + u by omega) (by omega)]
      have t0 := Int.tmod_nonneg n (show 0 ≤ v * 256 + u by omega)
      have t1 := Int.tmod_lt_of_pos (v * 256 + u) (show 0 < n by omega)
      have t2 : Int.tmod (v * 256 + u) n ≤ v * 256 + u := by
        rw [Int.tmod_eq_emod_of_nonneg (by omega)]
        have := Int.mul_ediv_add_emod (v * 256 + u) n
        have h3 : 0 ≤ (v * 256 + u) / n := Int.ediv_nonneg (by omega) (by omega)
        have h4 : 0 ≤ n * ((v * 256 + u) / n) := Int.mul_nonneg (by omega) h3
        omega
      exact ⟨_, _, _, rfl, t0, by omega, fun _ => t1, by omega, by omega⟩
    · rw [if_neg (by omega)]
      have t0 := Int.tmod_nonneg n v0
      have t1 := Int.tmod_lt_of_pos v (show 0 < n by omega)
      have t2 : Int.tmod v n ≤ v := by
        rw [Int.tmod_eq_emod_of_nonneg v0]
        have := Int.mul_ediv_add_emod v n
        have h3 : 0 ≤ v / n := Int.ediv_nonneg v0 (by omega)
        have h4 : 0 ≤ n * (v / n) := Int.mul_nonneg (by omega) h3
        omega
      exact ⟨_, _, _, rfl, t0, by omega, fun _ => t1, by omega, by omega⟩
theorem one_ (s : List Int) (hs : Bytes s) (a d n : Int) (h0 : 0 ≤ a) (h1 : a ≤ 1000000000000) : ∃ v a' d', spec_l1Cur_one.f s a d n = some (v, a', d') ∧ a ≤ a' ∧ a' ≤ a + 2 := by
  obtain ⟨v, a', d', e, _, _, _, g1, g2⟩ := pick_ s hs a d n h0 h1
  unfold spec_l1Cur_one.f
  rw [e]
  exact ⟨_, _, _, rfl, g1, g2⟩
theorem among_ (s : List Int) (hs : Bytes s) (a d : Int) (l : List Int) (hl : 0 < l.length) (h0 : 0 ≤ a) (h1 : a ≤ 1000000000000) : ∃ v a' d', spec_l1Cur_among.f s a d l = some (v, a', d') ∧ v ∈ l ∧ a ≤ a' ∧ a' ≤ a + 2 := by
  obtain ⟨v, a', d', e, v0, _, v1, g1, g2⟩ := pick_ s hs a d (l.length : Int) h0 h1
  have hv := v1 (by omega)
  unfold spec_l1Cur_among.f
  rw [e]
  simp only [Option.bind_some]
  rw [if_pos v0, if_pos hv]
  refine ⟨_, _, _, rfl, ?_, g1, g2⟩
  show l.getD v.toNat 0 ∈ l
  rw [List.getD_eq_getElem?_getD, List.getElem?_eq_getElem (show v.toNat < l.length by omega)]
  exact List.getElem_mem _
theorem of_ (s : List Int) (hs : Bytes s) (a d : Int) (l : List ByteArray) (hl : 0 < l.length) (h0 : 0 ≤ a) (h1 : a ≤ 1000000000000) : ∃ v a' d', spec_l1Cur_of.f s a d l = some (v, a', d') ∧ v ∈ l ∧ a ≤ a' ∧ a' ≤ a + 2 := by
  obtain ⟨v, a', d', e, v0, _, v1, g1, g2⟩ := pick_ s hs a d (l.length : Int) h0 h1
  have hv := v1 (by omega)
  unfold spec_l1Cur_of.f
  rw [e]
  simp only [Option.bind_some]
  rw [if_pos v0, if_pos hv]
  refine ⟨_, _, _, rfl, ?_, g1, g2⟩
  show l.getD v.toNat ByteArray.empty ∈ l
  rw [List.getD_eq_getElem?_getD, List.getElem?_eq_getElem (show v.toNat < l.length by omega)]
  exact List.getElem_mem _
/-- A number of the machine. -/
def I64 (z : Int) : Prop := -9223372036854775808 ≤ z ∧ z ≤ 9223372036854775807
theorem wrap_i64 (z : Int) : I64 (wrap64 z) := by unfold I64 wrap64; omega
end Go.Proofs.YtpdcopbnhaoilaaDoor.MDraw
end
section
/- The drawn people: every draw answers with persons whose names are short. No condition. -/
namespace Go.Proofs.YtpdcopbnhaoilaaDoor.MDrawP
open Go.RowKit Go.Proofs.YtpdcopbnhaoilaaDoor.G Go.Proofs.YtpdcopbnhaoilaaDoorW.PrintWords Go.Proofs.YtpdcopbnhaoilaaDoorW.PrintLast Go.Proofs.YtpdcopbnhaoilaaDoor.MPure Go.Proofs.YtpdcopbnhaoilaaDoor.MWord Go.Proofs.YtpdcopbnhaoilaaDoor.MPerson Go.Proofs.YtpdcopbnhaoilaaDoor.MDraw

theorem person_ (s : List Int) (hs : Bytes s) (a d : Int) (n : ByteArray) (h0 : 0 ≤ a) (h1 : a ≤ 100000000000) : ∃ x y z a' d', spec_l1Cur_person.f s a d n = some (n, x, y, z, a', d') ∧ a ≤ a' ∧ a' ≤ a + 12 := by
  obtain ⟨v1, a1, d1, e1, _, _, _, p1, q1⟩ := pick_ s hs a d 26 h0 (by omega)
  obtain ⟨v2, a2, d2, e2, _, p2, q2⟩ := among_ s hs a1 d1 [0, 0, 1, 25, v1] (by simp) (by omega) (by omega)
  obtain ⟨v3, a3, d3, e3, _, p3, q3⟩ := among_ s hs a2 d2 [0, 1, 1, 2, 9] (by simp) (by omega) (by omega)
  obtain ⟨v4, a4, d4, e4, _, p4, q4⟩ := among_ s hs a3 d3 [1985, 1990, 1990, 2000, 1800, 2200] (by simp) (by omega) (by omega)
  obtain ⟨v5, a5, d5, e5, _, _, _, p5, q5⟩ := pick_ s hs a4 d4 60 (by omega) (by omega)
  unfold spec_l1Cur_person.f
  rw [e1]; simp only [Option.bind_some]; rw [e2]; simp only [Option.bind_some]; rw [e3]; simp only [Option.bind_some]; rw [e4]; simp only [Option.bind_some]; rw [e5]; simp only [Option.bind_some]
  split
  · obtain ⟨v6, a6, d6, e6, _, p6, q6⟩ := among_ s hs a5 d5 [(-1), 26] (by simp) (by omega) (by omega)
    rw [e6]
    exact ⟨_, _, _, _, _, rfl, by show a ≤ a6; omega, by show a6 ≤ a + 12; omega⟩
  · split
    · obtain ⟨v6, a6, d6, e6, _, p6, q6⟩ := among_ s hs a5 d5 [(-1), 10] (by simp) (by omega) (by omega)
      rw [e6]
      exact ⟨_, _, _, _, _, rfl, by show a ≤ a6; omega, by show a6 ≤ a + 12; omega⟩
    · split
      · obtain ⟨v6, a6, d6, e6, _, p6, q6⟩ := among_ s hs a5 d5 [1799, 2201] (by simp) (by omega) (by omega)
        rw [e6]
        exact ⟨_, _, _, _, _, rfl, by show a ≤ a6; omega, by show a6 ≤ a + 12; omega⟩
      · exact ⟨_, _, _, _, _, rfl, by show a ≤ a5; omega, by show a5 ≤ a + 12; omega⟩
/-- Persons with short names. -/
def ShortP (l : List PI) : Prop := ∀ x, x ∈ l → x.f0.size ≤ 100
theorem ShortP.sized {l : List PI} (h : ShortP l) (hl : l.length ≤ 100) : SizedP l := ⟨by omega, fun x hx => Nat.le_trans (h x hx) (by decide)⟩
theorem ShortP.snoc {l : List PI} (h : ShortP l) {x : PI} (hx : x.f0.size ≤ 100) : ShortP (l ++ [x]) := fun y hy => by
  rcases List.mem_append.1 hy with hy | hy
  · exact h y hy
  · obtain rfl := List.mem_singleton.1 hy; exact hx
theorem many_loop (s : List Int) : ∀ (n : Nat) (l : List PI) (m a d : Int), l.length + n = m.toNat → m ≤ 11 → ShortP l → ∃ r, Ev (fun k => spec_l1Cur_people.l1 k l m s a d) (r, a, d) ∧ r.length ≤ 20 ∧ ShortP r := by
  intro n
  induction n with
  | zero =>
    intro l m a d hl hm hS
    exact ⟨l, Ev.step (fun _ => spec_l1Cur_people.l1.eq_2 ..) (Ev.neg (by omega) (Ev.some rfl)), by omega, hS⟩
  | succ n ih =>
    intro l m a d hl hm hS
    have hw : wrap64 ((l.length : Int) + 1) = ((l.length + 1 : Nat) : Int) := wrap_succ (by omega)
    have hz : ((⟨#[97, 98, 99, 100, 101, 102, 103, 104, 105, 106, 107]⟩ : ByteArray).extract ((l.length : Int) : Int).toNat (((l.length + 1 : Nat) : Int)).toNat).size ≤ 11 := by
      rw [ByteArray.size_extract]
      have : (⟨#[97, 98, 99, 100, 101, 102, 103, 104, 105, 106, 107]⟩ : ByteArray).size = 11 := rfl
      omega
    have hz2 : ((⟨#[120]⟩ : ByteArray) ++ (⟨#[97, 98, 99, 100, 101, 102, 103, 104, 105, 106, 107]⟩ : ByteArray).extract ((l.length : Int) : Int).toNat (((l.length + 1 : Nat) : Int)).toNat).size ≤ 100 := by
      rw [ByteArray.size_append]
      have : (⟨#[120]⟩ : ByteArray).size = 1 := rfl
      omega
    obtain ⟨r, er, hr, hSr⟩ := ih (l ++ [⟨(⟨#[120]⟩ : ByteArray) ++ (⟨#[97, 98, 99, 100, 101, 102, 103, 104, 105, 106, 107]⟩ : ByteArray).extract ((l.length : Int) : Int).toNat (((l.length + 1 : Nat) : Int)).toNat, 0, (l.length : Int) % 10, 1990⟩]) m a d (by rw [List.length_append, List.length_singleton]; omega) hm (hS.snoc hz2)
    refine ⟨r, Ev.step (fun _ => spec_l1Cur_people.l1.eq_2 ..) (Ev.pos (by omega) (Ev.pos (by omega) ?_)), hr, hSr⟩
    rw [hw]
    exact Ev.pos (by omega) (Ev.pos (by omega) (Ev.pos (by omega) (Ev.pos (by omega) er)))
theorem people_loop (s : List Int) (hs : Bytes s) (L : List ByteArray) (hL : ∀ x, x ∈ L → x.size ≤ 100) (hn : L.length ≤ 10) : ∀ (n i : Nat) (l : List PI) (a d : Int), i + n = L.length → l.length ≤ i → ShortP l → 0 ≤ a → a + 20 * n ≤ 10000000000 → ∃ r a' d', Ev (fun k => spec_l1Cur_people.l0 k l L (L.length : Int) (i : Int) s a d) (r, a', d') ∧ r.length ≤ 20 ∧ ShortP r ∧ a ≤ a' ∧ a' ≤ a + 20 * n + 30 := by
  intro n
  induction n with
  | zero =>
    intro i l a d hi hl hS h0 h1
    obtain ⟨v1, a1, d1, e1, v10, _, _, p1, q1⟩ := pick_ s hs a d 30 h0 (by omega)
    by_cases c0 : v1 = 0
    · obtain ⟨v2, a2, d2, e2, m2, p2, q2⟩ := of_ s hs a1 d1 [(⟨#[]⟩ : ByteArray), (⟨#[97, 110, 110]⟩ : ByteArray), (⟨#[90, 111, 101]⟩ : ByteArray), (⟨#[122, 122]⟩ : ByteArray), (⟨#[110, 105, 110, 101, 99, 104, 97, 114, 115]⟩ : ByteArray)] (by simp) (by omega) (by omega)
      have hg : v2.size ≤ 100 := by
        simp only [List.mem_cons, List.not_mem_nil, or_false] at m2
        rcases m2 with rfl | rfl | rfl | rfl | rfl <;> decide
      obtain ⟨x, y, z, a3, d3, e3, p3, q3⟩ := person_ s hs a2 d2 v2 (by omega) (by omega)
      refine ⟨l ++ [⟨v2, x, y, z⟩], a3, d3, Ev.step (fun _ => spec_l1Cur_people.l0.eq_2 ..) (Ev.neg (by omega) (Ev.have e1 (Ev.pos c0 (Ev.have e2 (Ev.have e3 (Ev.pos (by omega) (Ev.some rfl))))))), by rw [List.length_append, List.length_singleton]; omega, hS.snoc hg, by omega, by omega⟩
    · by_cases c1 : v1 = 1
      · obtain ⟨v2, a2, d2, e2, v20, _, v21, p2, q2⟩ := pick_ s hs a1 d1 2 (by omega) (by omega)
        have hv2 := v21 (by omega)
        have hw : wrap64 (10 + v2) = 10 + v2 := wrap_in (by omega) (by omega)
        obtain ⟨r, er, hr, hSr⟩ := many_loop s (10 + v2).toNat [] (10 + v2) a2 d2 (by simp) (by omega) (fun x hx => nomatch hx)
        refine ⟨r, a2, d2, Ev.step (fun _ => spec_l1Cur_people.l0.eq_2 ..) (Ev.neg (by omega) (Ev.have e1 (Ev.neg c0 (Ev.pos c1 (Ev.have e2 ?_))))), hr, hSr, by omega, by omega⟩
        rw [hw]
        exact er
      · exact ⟨l, a1, d1, Ev.step (fun _ => spec_l1Cur_people.l0.eq_2 ..) (Ev.neg (by omega) (Ev.have e1 (Ev.neg c0 (Ev.neg c1 (Ev.some rfl))))), by omega, hS, by omega, by omega⟩
  | succ n ih =>
    intro i l a d hi hl hS h0 h1
    obtain ⟨b, a1, d1, e1, p1, q1⟩ := one_ s hs a d 2 h0 (by omega)
    have hw : wrap64 ((i : Int) + 1) = ((i + 1 : Nat) : Int) := wrap_succ (by omega)
    cases b with
    | true =>
      have hm : rdOf ByteArray.empty L (i : Int) ∈ L := by
        show L.getD i ByteArray.empty ∈ L
        rw [List.getD_eq_getElem?_getD, List.getElem?_eq_getElem (by omega)]
        exact List.getElem_mem _
      obtain ⟨x, y, z, a3, d3, e3, p3, q3⟩ := person_ s hs a1 d1 (rdOf ByteArray.empty L (i : Int)) (by omega) (by omega)
      obtain ⟨r, a', d', er, hr, hSr, pr, qr⟩ := ih (i + 1) (l ++ [⟨rdOf ByteArray.empty L (i : Int), x, y, z⟩]) a3 d3 (by omega) (by rw [List.length_append, List.length_singleton]; omega) (hS.snoc (hL _ hm)) (by omega) (by omega)
      rw [← hw] at er
      exact ⟨r, a', d', Ev.step (fun _ => spec_l1Cur_people.l0.eq_2 ..) (Ev.pos (by omega) (Ev.pos (by omega) (Ev.pos (by omega) (Ev.have e1 (Ev.pos rfl (Ev.have e3 (Ev.pos (by omega) er))))))), hr, hSr, by omega, by omega⟩
    | false =>
      obtain ⟨r, a', d', er, hr, hSr, pr, qr⟩ := ih (i + 1) l a1 d1 (by omega) (by omega) hS (by omega) (by omega)
      rw [← hw] at er
      exact ⟨r, a', d', Ev.step (fun _ => spec_l1Cur_people.l0.eq_2 ..) (Ev.pos (by omega) (Ev.pos (by omega) (Ev.pos (by omega) (Ev.have e1 (Ev.neg (show ¬ false = true by decide) er))))), hr, hSr, by omega, by omega⟩
/-- Drawn people: at most 20 with short names. -/
theorem people_ (s : List Int) (hs : Bytes s) (a d : Int) (h0 : 0 ≤ a) (h1 : a ≤ 1000000000) : ∃ r a' d', Ev (fun k => spec_l1Cur_people.f k s a d) (r, a', d') ∧ r.length ≤ 20 ∧ ShortP r ∧ a ≤ a' ∧ a' ≤ a + 2000 := by
  obtain ⟨r, a', d', er, hr, hSr, pr, qr⟩ := people_loop s hs [(⟨#[97, 110, 110]⟩ : ByteArray), (⟨#[98, 111, 98]⟩ : ByteArray), (⟨#[99, 97, 114, 108]⟩ : ByteArray), (⟨#[100, 111, 114, 97]⟩ : ByteArray), (⟨#[101, 118, 101]⟩ : ByteArray), (⟨#[102, 105, 110, 110]⟩ : ByteArray), (⟨#[103, 105, 108]⟩ : ByteArray)] (by
    intro x hx
    simp only [List.mem_cons, List.not_mem_nil, or_false] at hx
    rcases hx with rfl | rfl | rfl | rfl | rfl | rfl | rfl <;> decide) (by decide) 7 0 [] a d (by decide) (Nat.le_refl _) (fun x hx => nomatch hx) h0 (by omega)
  refine ⟨r, a', d', ?_, hr, hSr, pr, by omega⟩
  unfold spec_l1Cur_people.f
  exact Ev.have rfl er
theorem personName_ (s : List Int) (hs : Bytes s) (a d : Int) (h0 : 0 ≤ a) (h1 : a ≤ 100000000000) : ∃ v a' d', spec_l1Cur_personName.f s a d = some (v, a', d') ∧ v.size ≤ 100 ∧ a ≤ a' ∧ a' ≤ a + 10 := by
  obtain ⟨v1, a1, d1, e1, m1, p1, q1⟩ := of_ s hs a d [(⟨#[]⟩ : ByteArray), (⟨#[65, 110, 110]⟩ : ByteArray), (⟨#[110, 105, 110, 101, 99, 104, 97, 114, 115]⟩ : ByteArray)] (by simp) h0 (by omega)
  obtain ⟨v2, a2, d2, e2, m2, p2, q2⟩ := of_ s hs a1 d1 [(⟨#[97, 110, 110]⟩ : ByteArray), (⟨#[122, 111, 101]⟩ : ByteArray), (⟨#[104, 97, 108]⟩ : ByteArray), (⟨#[101, 105, 103, 104, 116, 99, 104, 97]⟩ : ByteArray), (⟨#[97]⟩ : ByteArray), v1] (by simp) (by omega) (by omega)
  have hg1 : v1.size ≤ 100 := by
    simp only [List.mem_cons, List.not_mem_nil, or_false] at m1
    rcases m1 with rfl | rfl | rfl <;> decide
  have hg2 : v2.size ≤ 100 := by
    simp only [List.mem_cons, List.not_mem_nil, or_false] at m2
    rcases m2 with rfl | rfl | rfl | rfl | rfl | rfl
    · decide
    · decide
    · decide
    · decide
    · decide
    · exact hg1
  unfold spec_l1Cur_personName.f
  rw [e1]; simp only [Option.bind_some]; rw [e2]
  exact ⟨_, _, _, rfl, hg2, by show a ≤ a2; omega, by show a2 ≤ a + 10; omega⟩
theorem letterOf_ (s : List Int) (hs : Bytes s) (a d : Int) (h0 : 0 ≤ a) (h1 : a ≤ 100000000000) : ∃ v a' d', spec_l1Cur_letterOf.f s a d = some (v, a', d') ∧ a ≤ a' ∧ a' ≤ a + 10 := by
  obtain ⟨v1, a1, d1, e1, _, p1, q1⟩ := among_ s hs a d [0, (-1), 26] (by simp) h0 (by omega)
  obtain ⟨v2, a2, d2, e2, _, p2, q2⟩ := among_ s hs a1 d1 [0, 0, 1, 25, 5, v1] (by simp) (by omega) (by omega)
  unfold spec_l1Cur_letterOf.f
  rw [e1]; simp only [Option.bind_some]; rw [e2]
  exact ⟨_, _, _, rfl, by show a ≤ a2; omega, by show a2 ≤ a + 10; omega⟩
theorem namePlace_ (s : List Int) (hs : Bytes s) (a d : Int) (h0 : 0 ≤ a) (h1 : a ≤ 100000000000) : ∃ v a' d', spec_l1Cur_namePlace.f s a d = some (v, a', d') ∧ a ≤ a' ∧ a' ≤ a + 10 := by
  obtain ⟨v1, a1, d1, e1, _, p1, q1⟩ := among_ s hs a d [3, (-1), 10] (by simp) h0 (by omega)
  obtain ⟨v2, a2, d2, e2, _, p2, q2⟩ := among_ s hs a1 d1 [0, 1, 1, 2, 9, v1] (by simp) (by omega) (by omega)
  unfold spec_l1Cur_namePlace.f
  rw [e1]; simp only [Option.bind_some]; rw [e2]
  exact ⟨_, _, _, rfl, by show a ≤ a2; omega, by show a2 ≤ a + 10; omega⟩
end Go.Proofs.YtpdcopbnhaoilaaDoor.MDrawP
end
section
/- Numerals: what the reference writes of a number that is not negative is what strconv.Itoa writes, no condition but the number's size; and how long it is. -/
namespace Go.Proofs.YtpdcopbnhaoilaaDoor.MNum
open Go.RowKit Go.Proofs.YtpdcopbnhaoilaaDoor.G Go.Proofs.YtpdcopbnhaoilaaDoorW.PrintWords Go.Proofs.YtpdcopbnhaoilaaDoorW.PrintLast Go.Proofs.YtpdcopbnhaoilaaDoor.MPure

/-- The decimal numeral of a number. -/
def num (n : Int) : ByteArray := ⟨(Lib.itoa n).toArray⟩
def numN (u : Nat) : ByteArray := ⟨(Lib.decDigits u).toArray⟩
theorem num_nat (u : Nat) : num (u : Int) = numN u := by
  unfold num numN Lib.itoa
  rw [if_neg (by omega), Int.toNat_natCast]
theorem digits_len : ∀ (d u : Nat), u < 10 ^ (d + 1) → (Lib.decDigits u).length ≤ d + 1 := by
  intro d
  induction d with
  | zero =>
    intro u hu
    rw [Lib.decDigits, dif_pos (by simpa using hu)]
    exact Nat.le_refl _
  | succ d ih =>
    intro u hu
    rw [Lib.decDigits]
    split
    · exact Nat.succ_le_succ (Nat.zero_le _)
    · have := ih (u / 10) (by rw [Nat.pow_succ] at hu; omega)
      rw [List.length_append, List.length_singleton]
      omega
theorem numN_size (d u : Nat) (h : u < 10 ^ (d + 1)) : (numN u).size ≤ d + 1 := digits_len d u h
theorem one_digit (d : Nat) (h : d < 10) : strOfNums [(wrap64 (48 + (d : Int))) % 256] = ⟨[UInt8.ofNat (48 + d)].toArray⟩ := by
  have e : (wrap64 (48 + (d : Int))) % 256 = ((48 + d : Nat) : Int) := by unfold wrap64; omega
  rw [e]
  rfl
theorem bytes_snoc (l : List UInt8) (x : UInt8) : (⟨l.toArray⟩ : ByteArray) ++ ⟨[x].toArray⟩ = ⟨(l ++ [x]).toArray⟩ := by
  apply ByteArray.ext
  simp
theorem l1Num_ : ∀ (d u : Nat), u < 10 ^ (d + 1) → d ≤ 18 → Ev (fun k => spec_l1Num.f k (u : Int)) (numN u) := by
  intro d
  induction d with
  | zero =>
    intro u hu _
    have hu : u < 10 := by simpa using hu
    refine Ev.step (fun _ => spec_l1Num.f.eq_2 ..) (Ev.pos (by omega) (Ev.some ?_))
    rw [one_digit u hu]
    unfold numN
    rw [Lib.decDigits, dif_pos hu]
  | succ d ih =>
    intro u hu hd
    by_cases h : u < 10
    · refine Ev.step (fun _ => spec_l1Num.f.eq_2 ..) (Ev.pos (by omega) (Ev.some ?_))
      rw [one_digit u h]
      unfold numN
      rw [Lib.decDigits, dif_pos h]
    · have h10 : u / 10 < 10 ^ (d + 1) := by rw [Nat.pow_succ] at hu; omega
      have hb : u < 10 ^ 20 := Nat.lt_of_lt_of_le hu (Nat.pow_le_pow_right (by decide) (by omega))
      have e1 : wrap64 (Int.tdiv (u : Int) 10) = ((u / 10 : Nat) : Int) := by
        rw [show Int.tdiv (u : Int) 10 = ((u / 10 : Nat) : Int) from rfl]
        have : u / 10 < 10 ^ 18 := Nat.lt_of_lt_of_le h10 (Nat.pow_le_pow_right (by decide) (by omega))
        exact wrap_in (by omega) (by have h18 : (10 : Nat) ^ 18 = 1000000000000000000 := by decide
                                     omega)
      have e2 : Int.tmod (u : Int) 10 = ((u % 10 : Nat) : Int) := rfl
      have key := ih (u / 10) h10 (by omega)
      rw [← e1] at key
      have hs := numN_size d (u / 10) h10
      refine Ev.step (fun _ => spec_l1Num.f.eq_2 ..) (Ev.neg (by omega) (Ev.bind key (Ev.have rfl (Ev.pos ?_ (Ev.some ?_)))))
      · rw [e2, one_digit _ (Nat.mod_lt _ (by decide))]
        show (numN (u / 10)).size + 1 ≤ 9223372036854775807
        omega
      · rw [e2, one_digit _ (Nat.mod_lt _ (by decide))]
        unfold numN
        rw [bytes_snoc]
        rw [Lib.decDigits.eq_1 u, dif_neg h]
theorem l1Num_at (n : Int) (h0 : 0 ≤ n) (h1 : n < 1000000) : Ev (fun k => spec_l1Num.f k n) (num n) := by
  obtain ⟨u, rfl⟩ : ∃ u : Nat, n = (u : Int) := ⟨n.toNat, by omega⟩
  rw [num_nat]
  exact l1Num_ 5 u (by omega) (by omega)
theorem Itoa_at (n : Int) (h0 : 0 ≤ n) (h1 : n < 1000000) : strconv_Itoa.f n = some (num n) := if_pos ⟨by omega, by omega⟩
theorem num_size (n : Int) (h0 : 0 ≤ n) (h1 : n < 1000000) : (num n).size ≤ 6 := by
  obtain ⟨u, rfl⟩ : ∃ u : Nat, n = (u : Int) := ⟨n.toNat, by omega⟩
  rw [num_nat]
  exact numN_size 5 u (by omega)
end Go.Proofs.YtpdcopbnhaoilaaDoor.MNum
end
section
/- The text of people: both functions write the same one; no condition but that they are people. -/
namespace Go.Proofs.YtpdcopbnhaoilaaDoor.MPplT
open Go.RowKit Go.Proofs.YtpdcopbnhaoilaaDoor.G Go.Proofs.YtpdcopbnhaoilaaDoorW.PrintWords Go.Proofs.YtpdcopbnhaoilaaDoorW.PrintLast Go.Proofs.YtpdcopbnhaoilaaDoor.MPure Go.Proofs.YtpdcopbnhaoilaaDoor.MWord Go.Proofs.YtpdcopbnhaoilaaDoor.MPerson Go.Proofs.YtpdcopbnhaoilaaDoor.MNum

/-- The letter of a number. -/
def ltr (n : Int) : ByteArray := (⟨#[97, 98, 99, 100, 101, 102, 103, 104, 105, 106, 107, 108, 109, 110, 111, 112, 113, 114, 115, 116, 117, 118, 119, 120, 121, 122]⟩ : ByteArray).extract (n : Int).toNat (wrap64 (n + 1) : Int).toNat
theorem ltr_size (n : Int) : (ltr n).size ≤ 26 := by
  unfold ltr
  rw [ByteArray.size_extract]
  have : (⟨#[97, 98, 99, 100, 101, 102, 103, 104, 105, 106, 107, 108, 109, 110, 111, 112, 113, 114, 115, 116, 117, 118, 119, 120, 121, 122]⟩ : ByteArray).size = 26 := rfl
  omega
/-- What is written of one person. -/
def piece (x : PI) : ByteArray := (((((x.f0 ++ (⟨#[32]⟩ : ByteArray)) ++ ltr x.f1) ++ num x.f2) ++ (⟨#[64]⟩ : ByteArray)) ++ num x.f3) ++ (⟨#[59]⟩ : ByteArray)
def tailT (s : ByteArray) (l : List PI) : ByteArray := l.foldl (fun s x => s ++ piece x) s
def peopleT (l : List PI) : ByteArray := tailT ⟨#[]⟩ l
theorem people_10 {l : List PI} (h : peopleB l = true) : l.length ≤ 10 := by
  unfold peopleB at h
  have := of_decide_eq_true (Bool.and_eq_true_iff.1 h).2
  omega
theorem people_one {l : List PI} (h : peopleB l = true) {i : Nat} (hi : i < l.length) : personB (atP l i).f0 (atP l i).f1 (atP l i).f2 (atP l i).f3 = true := by
  unfold peopleB at h
  exact (Bool.and_eq_true_iff.1 (List.all_eq_true.1 (Bool.and_eq_true_iff.1 h).1 i (List.mem_range.2 hi))).1
theorem person_says {s : ByteArray} {a b c : Int} (h : personB s a b c = true) : s.size ≤ 8 ∧ (0 ≤ a ∧ a ≤ 25) ∧ (0 ≤ b ∧ b < 1000000) ∧ (0 ≤ c ∧ c < 1000000) := by
  unfold personB at h
  obtain ⟨h, hc⟩ := Bool.and_eq_true_iff.1 h
  obtain ⟨h, hb⟩ := Bool.and_eq_true_iff.1 h
  obtain ⟨hw, ha⟩ := Bool.and_eq_true_iff.1 h
  have ha := of_decide_eq_true ha
  have hb := of_decide_eq_true hb
  have hc := of_decide_eq_true hc
  unfold wordB at hw
  have hw := of_decide_eq_true (Bool.and_eq_true_iff.1 hw).2
  exact ⟨by omega, ha, by omega, by omega⟩
theorem drop_at {l : List PI} {i : Nat} (h : i < l.length) : l.drop i = atP l i :: l.drop (i + 1) := by
  rw [List.drop_eq_getElem_cons h]
  congr 1
  unfold atP
  rw [List.getD_eq_getElem?_getD, List.getElem?_eq_getElem h]
  rfl
theorem piece_size {x : PI} (h : personB x.f0 x.f1 x.f2 x.f3 = true) : (piece x).size ≤ 49 := by
  obtain ⟨a, _, ⟨c0, c1⟩, ⟨d0, d1⟩⟩ := person_says h
  have hc := num_size x.f2 c0 c1
  have hd := num_size x.f3 d0 d1
  have hl := ltr_size x.f1
  have e1 : (⟨#[32]⟩ : ByteArray).size = 1 := rfl
  have e2 : (⟨#[64]⟩ : ByteArray).size = 1 := rfl
  have e3 : (⟨#[59]⟩ : ByteArray).size = 1 := rfl
  unfold piece
  simp only [ByteArray.size_append]
  omega
theorem text_loops (l : List PI) (h : peopleB l = true) : ∀ d i : Nat, i + d = l.length → ∀ s : ByteArray, s.size ≤ 49 * i →
    Ev (fun k => spec_PeopleText.l0 k s l (l.length : Int) (i : Int)) (tailT s (l.drop i), true) ∧ Ev (fun k => impl_PeopleText.l0 k s l (l.length : Int) (i : Int)) (tailT s (l.drop i), true) := by
  have h10 := people_10 h
  intro d
  induction d with
  | zero =>
    intro i hi s _
    rw [List.drop_of_length_le (by omega)]
    exact ⟨Ev.step (fun _ => spec_PeopleText.l0.eq_2 ..) (Ev.neg (by omega) (Ev.some rfl)), Ev.step (fun _ => impl_PeopleText.l0.eq_2 ..) (Ev.neg (by omega) (Ev.some rfl))⟩
  | succ d ih =>
    intro i hi s hs
    have hn := people_one h (i := i) (by omega)
    have hz := piece_size hn
    obtain ⟨a, ⟨b0, b1⟩, ⟨c0, c1⟩, ⟨d0, d1⟩⟩ := person_says hn
    have hc := num_size _ c0 c1
    have hd := num_size _ d0 d1
    have hl := ltr_size (atP l i).f1
    have e1 : (⟨#[32]⟩ : ByteArray).size = 1 := rfl
    have e2 : (⟨#[64]⟩ : ByteArray).size = 1 := rfl
    have e3 : (⟨#[59]⟩ : ByteArray).size = 1 := rfl
    have w0 : wrap64 ((atP l i).f1 + 1) = (atP l i).f1 + 1 := wrap_in (by omega) (by omega)
    have w1 : (atP l i).f1 ≤ wrap64 ((atP l i).f1 + 1) := by omega
    have w2 : wrap64 ((atP l i).f1 + 1) ≤ 26 := by omega
    have p := ih (i + 1) (by omega) (s ++ piece (atP l i)) (by rw [ByteArray.size_append]; omega)
    rw [← wrap_succ (by omega)] at p
    rw [drop_at (by omega)]
    have s1 : (atP l i).f0.size + 1 ≤ 9223372036854775807 := by omega
    have s2 : ((atP l i).f0 ++ (⟨#[32]⟩ : ByteArray)).size + (ltr (atP l i).f1).size ≤ 9223372036854775807 := by simp only [ByteArray.size_append]; omega
    have s3 : (((atP l i).f0 ++ (⟨#[32]⟩ : ByteArray)) ++ ltr (atP l i).f1).size + (num (atP l i).f2).size ≤ 9223372036854775807 := by simp only [ByteArray.size_append]; omega
    have s4 : ((((atP l i).f0 ++ (⟨#[32]⟩ : ByteArray)) ++ ltr (atP l i).f1) ++ num (atP l i).f2).size + 1 ≤ 9223372036854775807 := by simp only [ByteArray.size_append]; omega
    have s5 : (((((atP l i).f0 ++ (⟨#[32]⟩ : ByteArray)) ++ ltr (atP l i).f1) ++ num (atP l i).f2) ++ (⟨#[64]⟩ : ByteArray)).size + (num (atP l i).f3).size ≤ 9223372036854775807 := by simp only [ByteArray.size_append]; omega
    have s6 : ((((((atP l i).f0 ++ (⟨#[32]⟩ : ByteArray)) ++ ltr (atP l i).f1) ++ num (atP l i).f2) ++ (⟨#[64]⟩ : ByteArray)) ++ num (atP l i).f3).size + 1 ≤ 9223372036854775807 := by simp only [ByteArray.size_append]; omega
    have s7 : s.size + (piece (atP l i)).size ≤ 9223372036854775807 := by omega
    exact ⟨Ev.step (fun _ => spec_PeopleText.l0.eq_2 ..) (Ev.pos (by omega) (Ev.pos (by omega) (Ev.pos (by omega) (Ev.pos s1 (Ev.pos b0 (Ev.pos w1 (Ev.pos w2 (Ev.pos s2 (Ev.bind (l1Num_at _ c0 c1) (Ev.pos s3 (Ev.pos s4 (Ev.bind (l1Num_at _ d0 d1) (Ev.pos s5 (Ev.pos s6 (Ev.pos s7 p.1))))))))))))))),
      Ev.step (fun _ => impl_PeopleText.l0.eq_2 ..) (Ev.pos (by omega) (Ev.pos (by omega) (Ev.pos (by omega) (Ev.pos s1 (Ev.pos b0 (Ev.pos w1 (Ev.pos w2 (Ev.pos s2 (Ev.have (Itoa_at _ c0 c1) (Ev.pos s3 (Ev.pos s4 (Ev.have (Itoa_at _ d0 d1) (Ev.pos s5 (Ev.pos s6 (Ev.pos s7 p.2)))))))))))))))⟩
def textR (l : List PI) : ByteArray × Bool := if peopleB l = true then (peopleT l, true) else (⟨#[]⟩, false)
theorem PeopleText_s (l : List PI) (hl : SizedP l) : Ev (fun k => spec_PeopleText.f k l) (textR l) := by
  unfold spec_PeopleText.f textR
  refine Ev.bind (naGood_ l hl) (Ev.ite (fun h => ?_) (fun h => ?_))
  · rw [if_pos h]
    exact (text_loops l h l.length 0 (by omega) ⟨#[]⟩ (Nat.le_refl _)).1
  · rw [if_neg h]
    exact Ev.some rfl
theorem PeopleText_i (l : List PI) (hl : SizedP l) : Ev (fun k => impl_PeopleText.f k l) (textR l) := by
  unfold impl_PeopleText.f textR
  refine Ev.bind (ArePeople_ l hl) (Ev.ite (fun h => ?_) (fun h => ?_))
  · rw [if_pos h]
    exact (text_loops l h l.length 0 (by omega) ⟨#[]⟩ (Nat.le_refl _)).2
  · rw [if_neg h]
    exact Ev.some rfl
end Go.Proofs.YtpdcopbnhaoilaaDoor.MPplT
end
section
/- The laws' comparison of lists of numbers and of lists of lists: a list is like itself; whether a number is in a list. No condition. -/
namespace Go.Proofs.YtpdcopbnhaoilaaDoor.MQLists
open Go.RowKit Go.Proofs.YtpdcopbnhaoilaaDoor.G Go.Proofs.YtpdcopbnhaoilaaDoorW.PrintWords Go.Proofs.YtpdcopbnhaoilaaDoorW.PrintLast Go.Proofs.YtpdcopbnhaoilaaDoor.MPure

theorem sameInts_ (l : List Int) (hl : l.length ≤ 140737488351232) : Ev (fun k => laws_sameInts.f k l l) true := by
  unfold laws_sameInts.f
  refine Ev.pos rfl ?_
  have h := loop_all0 (L := fun k i => laws_sameInts.l0 k l l (l.length : Int) i) l.length (fun _ => true) true (Ev.step (fun _ => laws_sameInts.l0.eq_2 ..) (Ev.neg (by omega) (Ev.some rfl)))
    (fun i hi _ r ih => by
      rw [← wrap_succ (by omega)] at ih
      exact Ev.step (fun _ => laws_sameInts.l0.eq_2 ..) (Ev.pos (by omega) (Ev.pos (by omega) (Ev.pos (by omega) (Ev.pos (by omega) (Ev.pos rfl ih))))))
    (fun _ _ h => by cases h)
  exact Ev.eq h (by simp)
end Go.Proofs.YtpdcopbnhaoilaaDoor.MQLists
end
section
/- The laws' comparison of people: a list is like itself; whether a number is in a list. No condition. -/
namespace Go.Proofs.YtpdcopbnhaoilaaDoor.MQPeople
open Go.RowKit Go.Proofs.YtpdcopbnhaoilaaDoor.G Go.Proofs.YtpdcopbnhaoilaaDoorW.PrintWords Go.Proofs.YtpdcopbnhaoilaaDoorW.PrintLast Go.Proofs.YtpdcopbnhaoilaaDoor.MPure Go.Proofs.YtpdcopbnhaoilaaDoor.MWord Go.Proofs.YtpdcopbnhaoilaaDoor.MPerson

theorem pSamePeople_ (l : List PI) (hl : l.length ≤ 140737488351232) : Ev (fun k => laws_pSamePeople.f k l l) true := by
  unfold laws_pSamePeople.f
  refine Ev.pos rfl ?_
  have h := loop_all0 (L := fun k i => laws_pSamePeople.l0 k l l (l.length : Int) i) l.length (fun _ => true) true (Ev.step (fun _ => laws_pSamePeople.l0.eq_2 ..) (Ev.neg (by omega) (Ev.some rfl)))
    (fun i hi _ r ih => by
      rw [← wrap_succ (by omega)] at ih
      exact Ev.step (fun _ => laws_pSamePeople.l0.eq_2 ..) (Ev.pos (by omega) (Ev.pos (by omega) (Ev.pos (by omega) (Ev.pos (by omega) (Ev.neg (by simp) ih))))))
    (fun _ _ h => by cases h)
  exact Ev.eq h (by simp)
end Go.Proofs.YtpdcopbnhaoilaaDoor.MQPeople
end
