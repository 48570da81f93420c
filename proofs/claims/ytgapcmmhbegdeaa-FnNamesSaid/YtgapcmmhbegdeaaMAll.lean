/- Plain laws of the functions that the claim's functions call: what they compute, with no program in sight. No condition. -/
import Derived.Test.YtgapcmmhbegdeaaWAll
import Derived.Lib.Bytealg
import Derived.Test.YtgapcmmhbegdeaaG1
import Derived.Test.YtgapcmmhbegdeaaG7
import Derived.Test.YtgapcmmhbegdeaaG0
import Derived.Test.YtgapcmmhbegdeaaG59
import Derived.Test.YtgapcmmhbegdeaaG60
import Derived.Test.YtgapcmmhbegdeaaG61
import Derived.Test.YtgapcmmhbegdeaaG63
import Derived.Test.YtgapcmmhbegdeaaG64
import Derived.Test.YtgapcmmhbegdeaaG37
import Derived.Test.YtgapcmmhbegdeaaG62
import Derived.Test.YtgapcmmhbegdeaaG65
import Derived.Test.YtgapcmmhbegdeaaG66
import Derived.Test.YtgapcmmhbegdeaaG70
import Derived.Test.YtgapcmmhbegdeaaG71
import Derived.Test.YtgapcmmhbegdeaaG67
import Derived.Test.YtgapcmmhbegdeaaG68
import Derived.Test.YtgapcmmhbegdeaaG13
import Derived.Test.YtgapcmmhbegdeaaG69
import Derived.Test.YtgapcmmhbegdeaaG27
section
/- Plain lemmas on rounds, lists and numbers, for the laws' pure statements: no program in sight. -/
namespace Go.Proofs.Ytgapcmmhbegdeaa.MPure
open Go.RowKit Go.Proofs.YtgapcmmhbegdeaaW.PrintWords Go.Proofs.YtgapcmmhbegdeaaW.PrintLast

theorem Ev.pos {α : Type} {c : Prop} [Decidable c] {f g : Nat → Option α} {r : α} (h : c) (k : Ev f r) : Ev (fun n => if c then f n else g n) r := by
  simpa only [if_pos h] using k
theorem Ev.neg {α : Type} {c : Prop} [Decidable c] {f g : Nat → Option α} {r : α} (h : ¬ c) (k : Ev g r) : Ev (fun n => if c then f n else g n) r := by
  simpa only [if_neg h] using k
theorem Ev.some {α : Type} {a r : α} (h : a = r) : Ev (fun _ => Option.some a) r := h ▸ Ev.now a
theorem Ev.have {α β : Type} {a : Option α} {x : α} {f : Nat → α → Option β} {r : β} (h : a = .some x) (k : Ev (fun n => f n x) r) : Ev (fun n => a.bind (f n)) r := by
  subst h
  exact k
theorem Ev.ite {α : Type} {c : Prop} [Decidable c] {f g : Nat → Option α} {r : α} (h : c → Ev f r) (k : ¬ c → Ev g r) : Ev (fun n => if c then f n else g n) r := by
  by_cases hc : c
  · exact Ev.pos hc (h hc)
  · exact Ev.neg hc (k hc)
theorem Ev.eq {α : Type} {g : Nat → Option α} {a r : α} (k : Ev g a) (h : a = r) : Ev g r := h ▸ k
theorem wrap_in {n : Int} (h : -9223372036854775808 ≤ n) (h' : n ≤ 9223372036854775807) : wrap64 n = n := by unfold wrap64; omega
theorem wrap_succ {i : Nat} (h : i ≤ 9223372036854775806) : wrap64 ((i : Int) + 1) = ((i + 1 : Nat) : Int) := by unfold wrap64; omega
theorem wrap_pred {i : Nat} (h0 : 0 < i) (h : i ≤ 9223372036854775806) : wrap64 ((i : Int) - 1) = ((i - 1 : Nat) : Int) := by unfold wrap64; omega
/-- A loop that stops with 'false' at the first place at which p does not hold, and answers e behind the last one. -/
theorem loop_all {L : Nat → Int → Option Bool} (n : Nat) (p : Nat → Bool) (e : Bool) (hend : Ev (fun k => L k (n : Int)) e)
    (hyes : ∀ i : Nat, i < n → p i = true → ∀ r, Ev (fun k => L k ((i + 1 : Nat) : Int)) r → Ev (fun k => L k (i : Int)) r) (hno : ∀ i : Nat, i < n → p i = false → Ev (fun k => L k (i : Int)) false) :
    ∀ d i : Nat, i + d = n → Ev (fun k => L k (i : Int)) ((List.range' i d).all p && e)
  | 0, i, h => by
    have : i = n := by omega
    subst this
    simpa using hend
  | d + 1, i, h => by
    have hi : i < n := by omega
    cases hp : p i with
    | true =>
      have ih := loop_all n p e hend hyes hno d (i + 1) (by omega)
      have := hyes i hi hp _ ih
      simpa [List.range'_succ, hp] using this
    | false =>
      have := hno i hi hp
      simpa [List.range'_succ, hp] using this
/-- The same from its begin. -/
theorem loop_all0 {L : Nat → Int → Option Bool} (n : Nat) (p : Nat → Bool) (e : Bool) (hend : Ev (fun k => L k (n : Int)) e)
    (hyes : ∀ i : Nat, i < n → p i = true → ∀ r, Ev (fun k => L k ((i + 1 : Nat) : Int)) r → Ev (fun k => L k (i : Int)) r) (hno : ∀ i : Nat, i < n → p i = false → Ev (fun k => L k (i : Int)) false) :
    Ev (fun k => L k 0) ((List.range n).all p && e) := by
  have h := loop_all n p e hend hyes hno n 0 (by omega)
  rw [← List.range_eq_range'] at h
  exact h

theorem all_congr {n : Nat} {p q : Nat → Bool} (h : ∀ i, i < n → p i = q i) : (List.range n).all p = (List.range n).all q := by
  rw [Bool.eq_iff_iff]
  simp only [List.all_eq_true, List.mem_range]
  constructor
  · exact fun H i hi => by rw [← h i hi]; exact H i hi
  · exact fun H i hi => by rw [h i hi]; exact H i hi

end Go.Proofs.Ytgapcmmhbegdeaa.MPure
end
section
/- Words: what the printed functions on texts of some letters come to. -/
namespace Go.Proofs.Ytgapcmmhbegdeaa.MWord
open Go.RowKit Go.Proofs.Ytgapcmmhbegdeaa.G Go.Proofs.YtgapcmmhbegdeaaW.PrintWords Go.Proofs.YtgapcmmhbegdeaaW.PrintLast Go.Proofs.Ytgapcmmhbegdeaa.MPure

/-- 1 to 8 bytes, of each of which p holds. -/
def wordB (p : Int → Bool) (s : ByteArray) : Bool := (List.range s.size).all (fun i => p (bt s (i : Int))) && decide (1 ≤ (s.size : Int) ∧ (s.size : Int) ≤ 8)
theorem l1In_ (a b c : Int) : spec_l1In.f a b c = some (decide (b ≤ a ∧ a ≤ c)) := by
  unfold spec_l1In.f
  by_cases h : a ≥ b
  · rw [if_pos h]; simp [show b ≤ a from h]
  · rw [if_neg h]; simp [show ¬ b ≤ a from h]
theorem within_ (a b c : Int) : impl_within.f a b c = some (decide (b ≤ a ∧ a ≤ c)) := by
  unfold impl_within.f
  by_cases h : a ≥ b
  · rw [if_pos h]; simp [show b ≤ a from h]
  · rw [if_neg h]; simp [show ¬ b ≤ a from h]

/-- Which bytes are among some letters. -/
def amongB (ls : ByteArray) (c : Int) : Bool := decide (0 ≤ Lib.indexByte ls.data.toList c.toNat.toUInt8)
theorem hasOnly_ (s ls : ByteArray) (hs : s.size ≤ 140737488351232) : Ev (fun k => impl_hasOnly.f k s ls) ((List.range s.size).all (fun i => amongB ls (bt s (i : Int)))) := by
  refine Ev.eq (loop_all0 (L := fun k i => impl_hasOnly.l0 k s ls (s.size : Int) i) s.size (fun i => amongB ls (bt s (i : Int))) true ?_ ?_ ?_) (Bool.and_true _)
  · refine Ev.step (f := fun _ => _) (fun k => ?_) (Ev.some rfl)
    simp only [impl_hasOnly.l0]
    rw [if_neg (by omega)]
  · intro i hi hp r hr
    refine Ev.step (f := fun k => impl_hasOnly.l0 k s ls (s.size : Int) ((i + 1 : Nat) : Int)) (fun k => ?_) hr
    simp only [amongB, decide_eq_true_eq] at hp
    simp only [impl_hasOnly.l0, strings_IndexByte.f, Option.bind_some]
    rw [if_pos (by omega), if_pos (by omega), if_pos (by omega), if_neg (by omega), wrap_succ (by omega)]
  · intro i hi hp
    refine Ev.step (f := fun k => some false) (fun k => ?_) (Ev.some rfl)
    simp only [amongB, decide_eq_false_iff_not] at hp
    simp only [impl_hasOnly.l0, strings_IndexByte.f, Option.bind_some]
    rw [if_pos (by omega), if_pos (by omega), if_pos (by omega), if_pos (by omega)]
theorem isWordOf_ (s ls : ByteArray) (hs : s.size ≤ 140737488351232) : Ev (fun k => impl_isWordOf.f k s ls) (wordB (amongB ls) s) := by
  unfold impl_isWordOf.f
  refine Ev.have (within_ _ _ _) (Ev.ite (fun h => ?_) (fun h => ?_))
  · refine Ev.bind (hasOnly_ s ls hs) (Ev.some ?_)
    simp only [wordB]
    rw [h, Bool.and_true]
  · refine Ev.some ?_
    simp only [wordB]
    rw [Bool.eq_false_iff.2 h, Bool.and_false]
theorem wordB_congr {p q : Int → Bool} (h : ∀ c, 0 ≤ c → c ≤ 255 → p c = q c) (s : ByteArray) : wordB p s = wordB q s := by
  unfold wordB
  rw [all_congr (fun i _ => h _ (bt_range s _).1 (bt_range s _).2)]
end Go.Proofs.Ytgapcmmhbegdeaa.MWord
end
section
/- What the printed functions on persons come to, by numbers and lists alone: names, persons, people. -/
namespace Go.Proofs.Ytgapcmmhbegdeaa.MPerson
open Go.RowKit Go.Proofs.Ytgapcmmhbegdeaa.G Go.Proofs.YtgapcmmhbegdeaaW.PrintWords Go.Proofs.YtgapcmmhbegdeaaW.PrintLast Go.Proofs.Ytgapcmmhbegdeaa.MPure Go.Proofs.Ytgapcmmhbegdeaa.MWord

abbrev PI := S77
def atP (l : List PI) (i : Nat) : PI := l.getD i z77
theorem atP_mem {l : List PI} {i : Nat} (h : i < l.length) : atP l i ∈ l := by
  unfold atP
  rw [List.getD_eq_getElem?_getD, List.getElem?_eq_getElem h]
  exact List.getElem_mem h
def SizedP (l : List PI) : Prop := l.length ≤ 140737488351232 ∧ ∀ x, x ∈ l → x.f0.size ≤ 140737488351232
def smallB (c : Int) : Bool := decide (97 ≤ c ∧ c ≤ 122)
theorem smalls (c : Int) (h0 : 0 ≤ c) (h1 : c ≤ 255) : amongB (⟨#[97, 98, 99, 100, 101, 102, 103, 104, 105, 106, 107, 108, 109, 110, 111, 112, 113, 114, 115, 116, 117, 118, 119, 120, 121, 122]⟩ : ByteArray) c = smallB c := by
  have key : ∀ n : Nat, n < 256 → amongB (⟨#[97, 98, 99, 100, 101, 102, 103, 104, 105, 106, 107, 108, 109, 110, 111, 112, 113, 114, 115, 116, 117, 118, 119, 120, 121, 122]⟩ : ByteArray) (n : Int) = smallB (n : Int) := by decide +kernel
  obtain ⟨n, rfl⟩ := Int.eq_ofNat_of_zero_le h0
  exact key n (by omega)
def letterB (n : Int) : Bool := decide (0 ≤ n ∧ n ≤ 25)
def placeB (n : Int) : Bool := decide (0 ≤ n ∧ n ≤ 9)
def yearB (n : Int) : Bool := decide (1800 ≤ n ∧ n ≤ 2200)
def personB (s : ByteArray) (a b c : Int) : Bool := wordB smallB s && letterB a && placeB b && yearB c
theorem naLetter_ (a : Int) : spec_naLetter.f a = some (letterB a) := by
  unfold spec_naLetter.f
  rw [l1In_]
  rfl
theorem naPlace_ (a : Int) : spec_naPlace.f a = some (placeB a) := by
  unfold spec_naPlace.f
  rw [l1In_]
  rfl
theorem naYear_ (a : Int) : spec_naYear.f a = some (yearB a) := by
  unfold spec_naYear.f
  rw [l1In_]
  rfl
theorem isYear_ (a : Int) : impl_isYear.f a = some (yearB a) := by
  unfold impl_isYear.f
  rw [within_]
  rfl
theorem naName_ (s : ByteArray) (hs : s.size ≤ 140737488351232) : Ev (fun k => spec_naName.f k s) (wordB smallB s) := by
  refine loop_all0 (L := fun k i => spec_naName.l0 k s i) s.size (fun i => smallB (bt s (i : Int))) _ ?_ ?_ ?_
  · exact Ev.step (fun _ => spec_naName.l0.eq_2 ..) (Ev.neg (by omega) (Ev.have (l1In_ _ _ _) (Ev.some rfl)))
  · intro i hi hp r hr
    simp only [smallB, decide_eq_true_eq] at hp
    rw [← wrap_succ (by omega)] at hr
    exact Ev.step (fun _ => spec_naName.l0.eq_2 ..) (Ev.pos (by omega) (Ev.pos (by omega) (Ev.neg (by omega) (Ev.neg (by omega) hr))))
  · intro i hi hp
    simp only [smallB, decide_eq_false_iff_not] at hp
    exact Ev.step (fun _ => spec_naName.l0.eq_2 ..) (Ev.pos (by omega) (Ev.pos (by omega) (Ev.ite (fun _ => Ev.some rfl) (fun _ => Ev.pos (by omega) (Ev.some rfl)))))
theorem naOne_ (s : ByteArray) (a b c : Int) (hs : s.size ≤ 140737488351232) : Ev (fun k => spec_naOne.f k s a b c) (personB s a b c) := by
  unfold spec_naOne.f personB
  refine Ev.bind (naName_ s hs) (Ev.ite (fun h1 => ?_) (fun h1 => Ev.some (by simp [h1])))
  refine Ev.have (naLetter_ a) (Ev.ite (fun h2 => ?_) (fun h2 => Ev.some (by simp [h2])))
  refine Ev.have (naPlace_ b) (Ev.ite (fun h3 => ?_) (fun h3 => Ev.some (by simp [h3])))
  exact Ev.have (naYear_ c) (Ev.some (by simp [h1, h2, h3]))
theorem IsPerson_ (s : ByteArray) (a b c : Int) (hs : s.size ≤ 140737488351232) : Ev (fun k => impl_IsPerson.f k s a b c) (personB s a b c) := by
  unfold impl_IsPerson.f personB
  refine Ev.bind (Ev.eq (isWordOf_ s _ hs) (wordB_congr smalls s)) (Ev.ite (fun h1 => ?_) (fun h1 => Ev.some (by simp [h1])))
  refine Ev.have (within_ a _ _) (Ev.ite (fun h2 => ?_) (fun h2 => Ev.some (by rw [show letterB a = false from Bool.eq_false_iff.2 h2]; simp)))
  refine Ev.have (within_ b _ _) (Ev.ite (fun h3 => ?_) (fun h3 => Ev.some (by rw [show placeB b = false from Bool.eq_false_iff.2 h3]; simp)))
  exact Ev.have (isYear_ c) (Ev.some (by rw [show letterB a = true from h2, show placeB b = true from h3]; simp [h1]))
def lessB (a b : ByteArray) : Bool := Op.bytesLess a.toList b.toList
def peopleP (l : List PI) (i : Nat) : Bool := personB (atP l i).f0 (atP l i).f1 (atP l i).f2 (atP l i).f3 && (decide (i = 0) || lessB (atP l (i - 1)).f0 (atP l i).f0)
def peopleB (l : List PI) : Bool := (List.range l.length).all (peopleP l) && decide ((l.length : Int) ≤ 10)
theorem naGood_ (l : List PI) (hl : SizedP l) : Ev (fun k => spec_naGood.f k l) (peopleB l) := by
  obtain ⟨hn, hs⟩ := hl
  refine loop_all0 (L := fun k i => spec_naGood.l0 k l l (l.length : Int) i) l.length (peopleP l) _ ?_ ?_ ?_
  · exact Ev.step (fun _ => spec_naGood.l0.eq_2 ..) (Ev.neg (by omega) (Ev.some rfl))
  · intro i hi hp r hr
    simp only [peopleP, Bool.and_eq_true] at hp
    rw [← wrap_succ (by omega)] at hr
    refine Ev.step (fun _ => spec_naGood.l0.eq_2 ..) (Ev.pos (by omega) (Ev.pos (by omega) (Ev.pos (by omega) (Ev.bind (naOne_ _ _ _ _ (hs _ (atP_mem hi))) (Ev.pos hp.1 (Ev.ite (fun h0 => ?_) (fun h0 => hr)))))))
    rw [wrap_pred (by omega) (by omega)]
    refine Ev.pos (by omega) (Ev.pos (by omega) (Ev.pos ?_ hr))
    have := hp.2
    simp only [Bool.or_eq_true, decide_eq_true_eq] at this
    rcases this with h | h
    · omega
    · exact h
  · intro i hi hp
    refine Ev.step (fun _ => spec_naGood.l0.eq_2 ..) (Ev.pos (by omega) (Ev.pos (by omega) (Ev.pos (by omega) (Ev.bind (naOne_ _ _ _ _ (hs _ (atP_mem hi))) (Ev.ite (fun h1 => ?_) (fun _ => Ev.some rfl))))))
    simp only [peopleP, Bool.and_eq_false_iff, Bool.or_eq_false_iff, decide_eq_false_iff_not] at hp
    rcases hp with hp | ⟨hp, hq⟩
    · exact absurd (h1.symm.trans hp) (by decide)
    · refine Ev.pos (by omega) ?_
      rw [wrap_pred (by omega) (by omega)]
      exact Ev.pos (by omega) (Ev.pos (by omega) (Ev.neg (Bool.eq_false_iff.1 hq) (Ev.some rfl)))
theorem ArePeople_ (l : List PI) (hl : SizedP l) : Ev (fun k => impl_ArePeople.f k l) (peopleB l) := by
  obtain ⟨hn, hs⟩ := hl
  refine loop_all0 (L := fun k i => impl_ArePeople.l0 k l l (l.length : Int) i) l.length (peopleP l) _ ?_ ?_ ?_
  · exact Ev.step (fun _ => impl_ArePeople.l0.eq_2 ..) (Ev.neg (by omega) (Ev.some rfl))
  · intro i hi hp r hr
    simp only [peopleP, Bool.and_eq_true] at hp
    rw [← wrap_succ (by omega)] at hr
    refine Ev.step (fun _ => impl_ArePeople.l0.eq_2 ..) (Ev.pos (by omega) (Ev.pos (by omega) (Ev.pos (by omega) (Ev.bind (IsPerson_ _ _ _ _ (hs _ (atP_mem hi))) (Ev.pos hp.1 (Ev.ite (fun h0 => ?_) (fun h0 => hr)))))))
    rw [wrap_pred (by omega) (by omega)]
    refine Ev.pos (by omega) (Ev.pos (by omega) (Ev.pos ?_ hr))
    have := hp.2
    simp only [Bool.or_eq_true, decide_eq_true_eq] at this
    rcases this with h | h
    · omega
    · exact h
  · intro i hi hp
    refine Ev.step (fun _ => impl_ArePeople.l0.eq_2 ..) (Ev.pos (by omega) (Ev.pos (by omega) (Ev.pos (by omega) (Ev.bind (IsPerson_ _ _ _ _ (hs _ (atP_mem hi))) (Ev.ite (fun h1 => ?_) (fun _ => Ev.some rfl))))))
    simp only [peopleP, Bool.and_eq_false_iff, Bool.or_eq_false_iff, decide_eq_false_iff_not] at hp
    rcases hp with hp | ⟨hp, hq⟩
    · exact absurd (h1.symm.trans hp) (by decide)
    · refine Ev.pos (by omega) ?_
      rw [wrap_pred (by omega) (by omega)]
      exact Ev.pos (by omega) (Ev.pos (by omega) (Ev.neg (Bool.eq_false_iff.1 hq) (Ev.some rfl)))
end Go.Proofs.Ytgapcmmhbegdeaa.MPerson
end
section
/- Who has to change: the reference's list, put together pair by pair, is the program's. -/
namespace Go.Proofs.Ytgapcmmhbegdeaa.MChanges
open Go.RowKit Go.Proofs.Ytgapcmmhbegdeaa.G Go.Proofs.YtgapcmmhbegdeaaW.PrintWords Go.Proofs.YtgapcmmhbegdeaaW.PrintLast Go.Proofs.Ytgapcmmhbegdeaa.MPure Go.Proofs.Ytgapcmmhbegdeaa.MWord Go.Proofs.Ytgapcmmhbegdeaa.MPerson

theorem people_length {l : List PI} (h : peopleB l = true) : l.length ≤ 10 := by
  unfold peopleB at h
  simp only [Bool.and_eq_true, decide_eq_true_eq] at h
  omega
def cnd (l : List PI) (i k : Nat) : Bool := decide (k ≠ i ∧ ((atP l i).f1 = (atP l k).f1 ∧ (atP l i).f2 = (atP l k).f2) ∧ ((atP l k).f3 < (atP l i).f3 ∨ (atP l k).f3 = (atP l i).f3 ∧ k < i))
theorem atP_get {l : List PI} {i : Nat} (h : i < l.length) : atP l i = l[i] := by
  unfold atP
  rw [List.getD_eq_getElem?_getD, List.getElem?_eq_getElem h]
  rfl
theorem hit_eq (l : List PI) (i : Nat) (hi : i < l.length) : (List.range l.length).any (cnd l i) = impl_changes.hit l i := by
  rw [Bool.eq_iff_iff]
  unfold impl_changes.hit
  simp only [List.any_eq_true, List.mem_range, Bool.or_eq_true]
  constructor
  · rintro ⟨k, hk, hc⟩
    simp only [cnd, decide_eq_true_eq] at hc
    obtain ⟨c1, ⟨c2, c3⟩, c4⟩ := hc
    rcases Nat.lt_or_gt_of_ne c1 with h | h
    · left
      refine ⟨atP l k, ?_, ?_⟩
      · rw [List.mem_iff_getElem]
        exact ⟨k, by rw [List.length_take]; omega, by rw [List.getElem_take, atP_get hk]⟩
      · unfold impl_changes.older
        show (decide ((atP l k).f1 = (atP l i).f1 ∧ (atP l k).f2 = (atP l i).f2) && decide ((atP l k).f3 ≤ (atP l i).f3)) = true
        rw [Bool.and_eq_true, decide_eq_true_eq, decide_eq_true_eq]
        exact ⟨⟨c2.symm, c3.symm⟩, by omega⟩
    · right
      refine ⟨atP l k, ?_, ?_⟩
      · rw [List.mem_iff_getElem]
        exact ⟨k - (i + 1), by rw [List.length_drop]; omega, by rw [List.getElem_drop, atP_get hk]; congr 1; omega⟩
      · unfold impl_changes.later
        show (decide ((atP l k).f1 = (atP l i).f1 ∧ (atP l k).f2 = (atP l i).f2) && decide ((atP l k).f3 < (atP l i).f3)) = true
        rw [Bool.and_eq_true, decide_eq_true_eq, decide_eq_true_eq]
        exact ⟨⟨c2.symm, c3.symm⟩, by omega⟩
  · rintro (⟨x, hx, hc⟩ | ⟨x, hx, hc⟩)
    · obtain ⟨k, hk, rfl⟩ := List.mem_iff_getElem.1 hx
      rw [List.length_take] at hk
      rw [List.getElem_take] at hc
      have hk2 : k < l.length := by omega
      rw [← atP_get hk2] at hc
      have hc' : (decide ((atP l k).f1 = (atP l i).f1 ∧ (atP l k).f2 = (atP l i).f2) && decide ((atP l k).f3 ≤ (atP l i).f3)) = true := hc
      rw [Bool.and_eq_true, decide_eq_true_eq, decide_eq_true_eq] at hc'
      refine ⟨k, hk2, ?_⟩
      simp only [cnd, decide_eq_true_eq]
      exact ⟨by omega, ⟨hc'.1.1.symm, hc'.1.2.symm⟩, by omega⟩
    · obtain ⟨k, hk, rfl⟩ := List.mem_iff_getElem.1 hx
      rw [List.length_drop] at hk
      rw [List.getElem_drop] at hc
      have hk2 : i + 1 + k < l.length := by omega
      rw [← atP_get hk2] at hc
      have hc' : (decide ((atP l (i + 1 + k)).f1 = (atP l i).f1 ∧ (atP l (i + 1 + k)).f2 = (atP l i).f2) && decide ((atP l (i + 1 + k)).f3 < (atP l i).f3)) = true := hc
      rw [Bool.and_eq_true, decide_eq_true_eq, decide_eq_true_eq] at hc'
      refine ⟨i + 1 + k, hk2, ?_⟩
      simp only [cnd, decide_eq_true_eq]
      exact ⟨by omega, ⟨hc'.1.1.symm, hc'.1.2.symm⟩, by omega⟩
theorem upto_lt (l : List PI) : ∀ (n : Nat) (a : Int), a ∈ impl_changes.upto l n → 0 ≤ a ∧ a < (n : Int)
  | 0, a, h => by simp [impl_changes.upto] at h
  | n + 1, a, h => by
    rw [impl_changes.upto] at h
    split at h
    · rcases List.mem_append.1 h with h | h
      · have := upto_lt l n a h; omega
      · rw [List.mem_singleton.1 h]; omega
    · have := upto_lt l n a h; omega
theorem upto_length (l : List PI) : ∀ n, (impl_changes.upto l n).length ≤ n
  | 0 => Nat.le_refl _
  | n + 1 => by
    have := upto_length l n
    rw [impl_changes.upto]
    split
    · simp; omega
    · omega
/-- A number is put behind lesser ones; where it stands last, nothing happens. -/
theorem l1Put_ (L M : List Int) (a : Int) (hL : ∀ x, x ∈ L → x < a) (hM : M = [] ∨ M = [a]) (hl : L.length ≤ 1000000) : Ev (fun k => spec_l1Put.f k (L ++ M) a) (L ++ [a]) := by
  have key : ∀ d i : Nat, i + d = L.length → Ev (fun k => spec_l1Put.l0 k (L ++ M) a (i : Int)) (L ++ [a]) := by
    intro d
    induction d with
    | zero =>
      intro i hi
      obtain rfl : i = L.length := by omega
      rcases hM with rfl | rfl
      · rw [List.append_nil]
        have ht : (L.take ((L.length : Int)).toNat).length = L.length := by rw [List.length_take]; omega
        have hd : (L.drop ((L.length : Int)).toNat).length = 0 := by rw [List.length_drop]; omega
        refine Ev.step (fun _ => spec_l1Put.l0.eq_2 ..) (Ev.neg (by omega) (Ev.have rfl (Ev.pos (by omega) (Ev.pos (by omega) (Ev.have rfl (Ev.pos ?_ (Ev.have rfl (Ev.pos ?_ (Ev.have rfl (Ev.have rfl (Ev.pos ?_ (Ev.some ?_))))))))))))
        · simp only [List.length_nil]; omega
        · simp only [List.nil_append]; omega
        · simp only [List.nil_append, List.length_append, List.length_cons, List.length_nil]; omega
        · have e1 : L.take ((L.length : Int)).toNat = L := List.take_of_length_le (by omega)
          have e2 : L.drop ((L.length : Int)).toNat = [] := List.drop_eq_nil_of_le (by omega)
          rw [e1, e2, List.append_nil, List.nil_append]
      · have hr : rd (L ++ [a]) (L.length : Int) = a := by
          show (L ++ [a]).getD L.length 0 = a
          simp [List.getD_eq_getElem?_getD]
        have hlen : (L ++ [a]).length = L.length + 1 := by simp
        refine Ev.step (fun _ => spec_l1Put.l0.eq_2 ..) (Ev.pos (by rw [hlen]; omega) (Ev.pos (by omega) ?_))
        rw [hr]
        exact Ev.neg (by omega) (Ev.pos rfl (Ev.some rfl))
    | succ d ih =>
      intro i hi
      have h := ih (i + 1) (by omega)
      rw [← wrap_succ (by omega)] at h
      have hr : rd (L ++ M) (i : Int) = L[i]'(by omega) := by
        show (L ++ M).getD i 0 = _
        rw [List.getD_eq_getElem?_getD, List.getElem?_append_left (by omega), List.getElem?_eq_getElem (by omega)]
        rfl
      have hlt := hL (L[i]'(by omega)) (List.getElem_mem _)
      refine Ev.step (fun _ => spec_l1Put.l0.eq_2 ..) (Ev.pos (by rw [List.length_append]; omega) (Ev.pos (by omega) ?_))
      rw [hr]
      exact Ev.pos hlt h
  exact key L.length 0 (by omega)
def st (l : List PI) (i : Nat) (b : Bool) : List Int := impl_changes.upto l i ++ (if b then [(i : Int)] else [])
theorem put_st (l : List PI) (i : Nat) (hi : i ≤ 1000) (b : Bool) : Ev (fun k => spec_l1Put.f k (st l i b) (i : Int)) (st l i true) := by
  have h := l1Put_ (impl_changes.upto l i) (if b then [(i : Int)] else []) (i : Int) (fun x hx => (upto_lt l i x hx).2) (by cases b <;> simp) (by have := upto_length l i; omega)
  exact h
theorem naClash_ (x y : PI) : spec_naClash.f x.f0 x.f1 x.f2 x.f3 y.f0 y.f1 y.f2 y.f3 = some (decide (x.f1 = y.f1 ∧ x.f2 = y.f2)) := by
  unfold spec_naClash.f
  by_cases h : x.f1 = y.f1
  · rw [if_pos h]; simp [h, Bool.beq_eq_decide_eq]
  · rw [if_neg h]; simp [h]
theorem cinner (l : List PI) (hl : l.length ≤ 1000) (i : Nat) (hi : i < l.length) (R : List Int) (hn : Ev (fun k => spec_naChanges.l0 k l (impl_changes.upto l (i + 1)) l (l.length : Int) ((i + 1 : Nat) : Int)) R) : ∀ d k : Nat, k + d = l.length → ∀ b : Bool, b = (List.range k).any (cnd l i) →
    Ev (fun n => spec_naChanges.l1 n l (st l i b) (i : Int) l (l.length : Int) (i : Int) l (l.length : Int) (k : Int) (rd_T77 l (i : Int)).f0 (rd_T77 l (i : Int)).f1 (rd_T77 l (i : Int)).f2 (rd_T77 l (i : Int)).f3) R := by
  intro d
  induction d with
  | zero =>
    intro k hk b hb
    obtain rfl : k = l.length := by omega
    rw [hit_eq l i hi] at hb
    have e : st l i b = impl_changes.upto l (i + 1) := by
      unfold st
      rw [impl_changes.upto, hb]
      cases impl_changes.hit l i <;> simp
    rw [e, ← wrap_succ (by omega)] at *
    exact Ev.step (fun _ => spec_naChanges.l1.eq_2 ..) (Ev.neg (by omega) hn)
  | succ d ih =>
    intro k hk b hb
    have hrange : (List.range (k + 1)).any (cnd l i) = (b || cnd l i k) := by rw [List.range_succ, List.any_append, ← hb]; simp
    have hput := put_st l i (by omega) b
    have hs := naClash_ (rd_T77 l (i : Int)) (rd_T77 l (k : Int))
    have yes : cnd l i k = true → Ev (fun n => spec_naChanges.l1 n l (st l i true) (i : Int) l (l.length : Int) (i : Int) l (l.length : Int) (wrap64 ((k : Int) + 1)) (rd_T77 l (i : Int)).f0 (rd_T77 l (i : Int)).f1 (rd_T77 l (i : Int)).f2 (rd_T77 l (i : Int)).f3) R := by
      intro hc
      rw [wrap_succ (by omega)]
      exact ih (k + 1) (by omega) true (by rw [hrange, hc, Bool.or_true])
    have no : cnd l i k = false → Ev (fun n => spec_naChanges.l1 n l (st l i b) (i : Int) l (l.length : Int) (i : Int) l (l.length : Int) (wrap64 ((k : Int) + 1)) (rd_T77 l (i : Int)).f0 (rd_T77 l (i : Int)).f1 (rd_T77 l (i : Int)).f2 (rd_T77 l (i : Int)).f3) R := by
      intro hc
      rw [wrap_succ (by omega)]
      exact ih (k + 1) (by omega) b (by rw [hrange, hc, Bool.or_false])
    refine Ev.step (fun _ => spec_naChanges.l1.eq_2 ..) (Ev.pos (by omega) (Ev.pos (by omega) (Ev.pos (by omega) (Ev.ite (fun e => no ?_) (fun e => Ev.have hs (Ev.ite (fun e1 => Ev.ite (fun e2 => Ev.bind hput (yes ?_)) (fun e2 => Ev.ite (fun e3 => Ev.ite (fun e4 => Ev.bind hput (yes ?_)) (fun e4 => no ?_)) (fun e3 => no ?_))) (fun e1 => no ?_)))))))
    · exact decide_eq_false (fun h => h.1 (by omega))
    · exact decide_eq_true ⟨by omega, of_decide_eq_true e1, Or.inl e2⟩
    · exact decide_eq_true ⟨by omega, of_decide_eq_true e1, Or.inr ⟨e3, by omega⟩⟩
    · exact decide_eq_false (fun h => h.2.2.elim e2 (fun h => e4 (by omega)))
    · exact decide_eq_false (fun h => h.2.2.elim e2 (fun h => e3 h.1))
    · exact decide_eq_false (fun h => e1 (decide_eq_true h.2.1))
theorem naChanges_ (l : List PI) (hl : l.length ≤ 1000) : Ev (fun k => spec_naChanges.f k l) (impl_changes.upto l l.length) := by
  have key : ∀ d i : Nat, i + d = l.length → Ev (fun k => spec_naChanges.l0 k l (impl_changes.upto l i) l (l.length : Int) (i : Int)) (impl_changes.upto l l.length) := by
    intro d
    induction d with
    | zero =>
      intro i hi
      obtain rfl : i = l.length := by omega
      exact Ev.step (fun _ => spec_naChanges.l0.eq_2 ..) (Ev.neg (by omega) (Ev.some rfl))
    | succ d ih =>
      intro i hi
      have h := cinner l hl i (by omega) _ (ih (i + 1) (by omega)) l.length 0 (by omega) false rfl
      have e : st l i false = impl_changes.upto l i := by unfold st; simp
      rw [e] at h
      exact Ev.step (fun _ => spec_naChanges.l0.eq_2 ..) (Ev.pos (by omega) (Ev.pos (by omega) (Ev.pos (by omega) h)))
  exact key l.length 0 (by omega)
end Go.Proofs.Ytgapcmmhbegdeaa.MChanges
end
section
/- FewestChanges: what the reference and the program answer, in plain words (out of the pure text of the exact law). No condition. -/
namespace Go.Proofs.Ytgapcmmhbegdeaa.MCFewestChanges
open Go.RowKit Go.Proofs.Ytgapcmmhbegdeaa.G Go.Proofs.YtgapcmmhbegdeaaW.PrintWords Go.Proofs.YtgapcmmhbegdeaaW.PrintLast Go.Proofs.Ytgapcmmhbegdeaa.MPure Go.Proofs.Ytgapcmmhbegdeaa.MWord Go.Proofs.Ytgapcmmhbegdeaa.MPerson Go.Proofs.Ytgapcmmhbegdeaa.MChanges

def fewR (l : List PI) : List Int × Bool := if peopleB l = true then (impl_changes.upto l l.length, true) else ([], false)
theorem Fewest_s (l : List PI) (hl : SizedP l) : Ev (fun k => spec_FewestChanges.f k l) (fewR l) := by
  unfold spec_FewestChanges.f fewR
  exact Ev.bind (naGood_ l hl) (Ev.ite (fun h => Ev.bind (naChanges_ l (by have := people_length h; omega)) (Ev.some (by rw [if_pos h]))) (fun h => Ev.some (by rw [if_neg h])))
theorem Fewest_i (l : List PI) (hl : SizedP l) : Ev (fun k => impl_FewestChanges.f k l) (fewR l) := by
  unfold impl_FewestChanges.f fewR
  refine Ev.bind (ArePeople_ l hl) (Ev.ite (fun h => ?_) (fun h => Ev.some (by rw [if_neg h])))
  have hc : impl_changes.f l = some (impl_changes.upto l l.length) := by
    unfold impl_changes.f
    rw [if_pos (by have := people_length h; omega)]
  exact Ev.have hc (Ev.some (by rw [if_pos h]))
theorem fewR_length (l : List PI) : (fewR l).1.length ≤ l.length := by
  unfold fewR
  split
  · exact MChanges.upto_length l l.length
  · exact Nat.zero_le _
end Go.Proofs.Ytgapcmmhbegdeaa.MCFewestChanges
end
section
/- RenamePerson: what the reference and the program answer, in plain words (out of the pure text of the exact law). No condition. -/
namespace Go.Proofs.Ytgapcmmhbegdeaa.MCRenamePerson
open Go.RowKit Go.Proofs.Ytgapcmmhbegdeaa.G Go.Proofs.YtgapcmmhbegdeaaW.PrintWords Go.Proofs.YtgapcmmhbegdeaaW.PrintLast Go.Proofs.Ytgapcmmhbegdeaa.MPure Go.Proofs.Ytgapcmmhbegdeaa.MWord Go.Proofs.Ytgapcmmhbegdeaa.MPerson

theorem people_length {l : List PI} (h : peopleB l = true) : l.length ≤ 10 := by
  unfold peopleB at h
  simp only [Bool.and_eq_true, decide_eq_true_eq] at h
  omega
def renOk (l : List PI) (i a b c : Int) : Prop := peopleB l = true ∧ (0 ≤ i ∧ i ≤ wrap64 ((l.length : Int) - 1)) ∧ (0 ≤ a ∧ a ≤ 25) ∧ (0 ≤ b ∧ b ≤ 9) ∧ (1800 ≤ c ∧ c ≤ 2200)
noncomputable def renR (l : List PI) (i a b c : Int) : List PI × Bool := open Classical in if renOk l i a b c then (if c < (rd_T77 l i).f3 ∨ l.any (impl_RenamePerson.p a b) = true then ([], false) else (l.set i.toNat ⟨(rd_T77 l i).f0, a, b, c⟩, true)) else ([], false)
theorem Rename_i (l : List PI) (hl : SizedP l) (i a b c : Int) : Ev (fun k => impl_RenamePerson.f k l i a b c) (renR l i a b c) := by
  unfold impl_RenamePerson.f renR renOk
  have h0 := ArePeople_ l hl
  refine Ev.bind h0 (Ev.ite (fun h => ?_) (fun h => Ev.some (by rw [if_neg h])))
  rw [if_pos h]
  have hn := people_length h.1
  exact Ev.ite (fun h2 => Ev.some (by rw [if_pos h2])) (fun h2 => Ev.pos (by omega) (Ev.some (by rw [if_neg h2])))
theorem ren_loop (l : List PI) (hl : l.length ≤ 10) (i a b c : Int) (h0 : 0 ≤ i) (h1 : i < (l.length : Int)) : ∀ d j : Nat, j + d = l.length → Ev (fun k => spec_RenamePerson.l0 k l i a b c l (l.length : Int) (j : Int)) (if (l.drop j).any (impl_RenamePerson.p a b) = true then ([], false) else (l.set i.toNat ⟨(rd_T77 l i).f0, a, b, c⟩, true)) := by
  intro d
  induction d with
  | zero =>
    intro j hj
    rw [List.drop_eq_nil_of_le (by omega)]
    refine Ev.step (fun _ => spec_RenamePerson.l0.eq_2 ..) (Ev.neg (by omega) ?_)
    have hw : spec_naWith.f l i a b c = some (l.set i.toNat ⟨(rd_T77 l i).f0, a, b, c⟩) := by
      unfold spec_naWith.f
      simp only [Option.bind_some, List.nil_append, List.length_nil]
      rw [if_pos (by omega), if_pos h0, if_pos h1, if_pos h1]
    exact Ev.have hw (Ev.some (by simp))
  | succ d ih =>
    intro j hj
    have h := ih (j + 1) (by omega)
    have e : rd_T77 l (j : Int) = l[j]'(by omega) := by
      show l.getD j z77 = _
      rw [List.getD_eq_getElem?_getD, List.getElem?_eq_getElem (by omega)]
      rfl
    rw [← wrap_succ (by omega)] at h
    rw [List.drop_eq_getElem_cons (show j < l.length by omega), List.any_cons, ← e]
    refine Ev.step (fun _ => spec_RenamePerson.l0.eq_2 ..) (Ev.pos (by omega) (Ev.pos (by omega) (Ev.pos (by omega) (Ev.ite (fun g1 => Ev.ite (fun g2 => Ev.some ?_) (fun g2 => ?_)) (fun g1 => ?_)))))
    · have hp : impl_RenamePerson.p a b (rd_T77 l (j : Int)) = true := decide_eq_true ⟨g1, g2⟩
      rw [hp, Bool.true_or, if_pos rfl]
    · have hp : impl_RenamePerson.p a b (rd_T77 l (j : Int)) = false := decide_eq_false (fun h => g2 h.2)
      rw [hp, Bool.false_or]
      exact h
    · have hp : impl_RenamePerson.p a b (rd_T77 l (j : Int)) = false := decide_eq_false (fun h => g1 h.1)
      rw [hp, Bool.false_or]
      exact h
theorem Rename_s (l : List PI) (hl : SizedP l) (i a b c : Int) : Ev (fun k => spec_RenamePerson.f k l i a b c) (renR l i a b c) := by
  have hj : ∀ q : Bool, q = true → Ev (fun k => spec_RenamePerson.j0 k l i a b c q) ([], false) := fun q hq => Ev.step (fun _ => spec_RenamePerson.j0.eq_2 ..) (Ev.pos hq (Ev.some rfl))
  unfold spec_RenamePerson.f renR renOk
  have g1 := naGood_ l hl
  have g2 := l1In_ i 0 (wrap64 ((l.length : Int) - 1))
  have g3 := naLetter_ a
  have g4 := naPlace_ b
  have g5 := naYear_ c
  by_cases h1 : peopleB l = true
  case neg => rw [if_neg (fun h => h1 h.1)]; exact Ev.bind g1 (Ev.neg h1 (hj _ rfl))
  by_cases h2 : 0 ≤ i ∧ i ≤ wrap64 ((l.length : Int) - 1)
  case neg => rw [decide_eq_false h2] at g2; rw [if_neg (fun h => h2 h.2.1)]; exact Ev.bind g1 (Ev.pos h1 (Ev.have g2 (Ev.neg (by simp) (hj _ rfl))))
  rw [decide_eq_true h2] at g2
  by_cases h3 : 0 ≤ a ∧ a ≤ 25
  case neg => rw [show letterB a = false from decide_eq_false h3] at g3; rw [if_neg (fun h => h3 h.2.2.1)]; exact Ev.bind g1 (Ev.pos h1 (Ev.have g2 (Ev.pos rfl (Ev.have g3 (Ev.neg (by simp) (hj _ rfl))))))
  rw [show letterB a = true from decide_eq_true h3] at g3
  by_cases h4 : 0 ≤ b ∧ b ≤ 9
  case neg => rw [show placeB b = false from decide_eq_false h4] at g4; rw [if_neg (fun h => h4 h.2.2.2.1)]; exact Ev.bind g1 (Ev.pos h1 (Ev.have g2 (Ev.pos rfl (Ev.have g3 (Ev.pos rfl (Ev.have g4 (Ev.neg (by simp) (hj _ rfl))))))))
  rw [show placeB b = true from decide_eq_true h4] at g4
  by_cases h5 : 1800 ≤ c ∧ c ≤ 2200
  case neg => rw [show yearB c = false from decide_eq_false h5] at g5; rw [if_neg (fun h => h5 h.2.2.2.2)]; exact Ev.bind g1 (Ev.pos h1 (Ev.have g2 (Ev.pos rfl (Ev.have g3 (Ev.pos rfl (Ev.have g4 (Ev.pos rfl (Ev.have g5 (Ev.neg (by simp) (hj _ rfl))))))))))
  rw [show yearB c = true from decide_eq_true h5] at g5
  rw [if_pos ⟨h1, h2, h3, h4, h5⟩]
  have hn := people_length h1
  have hi : i < (l.length : Int) := by have := h2.2; unfold wrap64 at this; omega
  refine Ev.bind g1 (Ev.pos h1 (Ev.have g2 (Ev.pos rfl (Ev.have g3 (Ev.pos rfl (Ev.have g4 (Ev.pos rfl (Ev.have g5 (Ev.pos rfl (Ev.pos h2.1 (Ev.pos hi ?_)))))))))))
  refine Ev.step (fun _ => spec_RenamePerson.j0.eq_2 ..) (Ev.ite (fun q1 => Ev.some ?_) (fun q1 => Ev.pos h2.1 (Ev.pos hi ?_)))
  · rw [decide_eq_true_eq] at q1
    rw [if_pos (Or.inl q1)]
  · have q2 : ¬ c < (rd_T77 l i).f3 := by simpa using q1
    have hmem : rd_T77 l i ∈ l := by
      show l.getD i.toNat z77 ∈ l
      rw [List.getD_eq_getElem?_getD, List.getElem?_eq_getElem (by have := h2.1; omega)]
      exact List.getElem_mem _
    have hfin : Ev (fun k => spec_RenamePerson.l0 k l i a b c l (l.length : Int) 0) (if c < (rd_T77 l i).f3 ∨ l.any (impl_RenamePerson.p a b) = true then ([], false) else (l.set i.toNat ⟨(rd_T77 l i).f0, a, b, c⟩, true)) := by
      have := ren_loop l hn i a b c h2.1 hi l.length 0 (by omega)
      simpa [q2] using this
    refine Ev.ite (fun e1 => ?_) (fun e1 => ?_)
    · by_cases e2 : (rd_T77 l i).f2 = b
      · have hany : l.any (impl_RenamePerson.p a b) = true := List.any_eq_true.2 ⟨_, hmem, decide_eq_true ⟨e1, e2⟩⟩
        rw [if_pos (Or.inr hany)]
        exact Ev.step (fun _ => spec_RenamePerson.j1.eq_2 ..) (Ev.pos (by simp [e2]) (Ev.some rfl))
      · exact Ev.step (fun _ => spec_RenamePerson.j1.eq_2 ..) (Ev.neg (by simp [e2]) hfin)
    · exact Ev.step (fun _ => spec_RenamePerson.j1.eq_2 ..) (Ev.neg (by simp) hfin)
theorem renR_length (l : List PI) (i a b c : Int) : (renR l i a b c).1.length ≤ l.length := by
  unfold renR
  split
  · split
    · exact Nat.zero_le _
    · rw [List.length_set]; exact Nat.le_refl _
  · exact Nat.zero_le _
end Go.Proofs.Ytgapcmmhbegdeaa.MCRenamePerson
end
section
/- The least place at which nobody has a letter: the reference's search comes to what the program's comes to. -/
namespace Go.Proofs.Ytgapcmmhbegdeaa.MFree
open Go.RowKit Go.Proofs.Ytgapcmmhbegdeaa.G Go.Proofs.YtgapcmmhbegdeaaW.PrintWords Go.Proofs.YtgapcmmhbegdeaaW.PrintLast Go.Proofs.Ytgapcmmhbegdeaa.MPure Go.Proofs.Ytgapcmmhbegdeaa.MWord Go.Proofs.Ytgapcmmhbegdeaa.MPerson

theorem inner (l : List PI) (hl : l.length ≤ 140737488351232) (a b r : Int) (hn : Ev (fun k => spec_naFree.l0 k l a (wrap64 (b + 1))) r) : ∀ d i : Nat, i + d = l.length → ∀ fr : Bool, Ev (fun k => spec_naFree.l1 k l a b fr l (l.length : Int) (i : Int)) (if (fr && !(l.drop i).any (impl_freePlace.p a b)) = true then b else r) := by
  intro d
  induction d with
  | zero =>
    intro i hi fr
    rw [List.drop_eq_nil_of_le (by omega)]
    refine Ev.step (fun _ => spec_naFree.l1.eq_2 ..) (Ev.neg (by omega) (Ev.ite (fun h => Ev.some ?_) (fun h => Ev.eq hn ?_)))
    · rw [h]; rfl
    · rw [Bool.eq_false_iff.2 h]; rfl
  | succ d ih =>
    intro i hi fr
    have hrd : rd_T77 l (i : Int) = l[i]'(by omega) := by
      show l.getD i z77 = _
      rw [List.getD_eq_getElem?_getD, List.getElem?_eq_getElem (by omega)]
      rfl
    have h := ih (i + 1) (by omega)
    rw [← wrap_succ (by omega)] at h
    rw [List.drop_eq_getElem_cons (show i < l.length by omega), List.any_cons, ← hrd]
    refine Ev.step (fun _ => spec_naFree.l1.eq_2 ..) (Ev.pos (by omega) (Ev.pos (by omega) (Ev.pos (by omega) (Ev.ite (fun h1 => Ev.ite (fun h2 => Ev.eq (h _) ?_) (fun h2 => Ev.eq (h _) ?_)) (fun h1 => Ev.eq (h _) ?_)))))
    · subst h1
      have : impl_freePlace.p a b (rd_T77 l (i : Int)) = decide ((rd_T77 l (i : Int)).f2 = b) := by
        unfold impl_freePlace.p
        rw [decide_eq_decide]
        exact ⟨fun h => h.2, fun h => ⟨h2, h⟩⟩
      rw [this]
      by_cases e : (rd_T77 l (i : Int)).f2 = b
      · simp [e]
      · simp [e]
    · subst h1
      have : impl_freePlace.p a b (rd_T77 l (i : Int)) = false := by
        unfold impl_freePlace.p
        rw [decide_eq_false_iff_not]
        exact fun h => h2 h.1
      rw [this]
      rfl
    · rw [Bool.eq_false_iff.2 h1]
      rfl
theorem outer (l : List PI) (hl : l.length ≤ 140737488351232) (a : Int) : ∀ d : Nat, d ≤ 10 → Ev (fun k => spec_naFree.l0 k l a (10 - (d : Int))) (impl_freePlace.from l a d) := by
  intro d
  induction d with
  | zero => exact fun _ => Ev.step (fun _ => spec_naFree.l0.eq_2 ..) (Ev.neg (by omega) (Ev.some rfl))
  | succ d ih =>
    intro hd
    have h := ih (by omega)
    have e : (10 : Int) - ((d + 1 : Nat) : Int) = 9 - (d : Int) := by omega
    rw [e]
    have e2 : wrap64 (9 - (d : Int) + 1) = 10 - (d : Int) := by rw [wrap_in (by omega) (by omega)]; omega
    rw [← e2] at h
    refine Ev.step (fun _ => spec_naFree.l0.eq_2 ..) (Ev.pos (by omega) (Ev.eq (inner l hl a _ _ h l.length 0 (by omega) true) ?_))
    rw [impl_freePlace.from, List.drop_zero]
    cases l.any (impl_freePlace.p a (9 - (d : Int))) <;> rfl
theorem naFree_ (l : List PI) (hl : l.length ≤ 140737488351232) (a : Int) : Ev (fun k => spec_naFree.f k l a) (impl_freePlace.from l a 10) := outer l hl a 10 (Nat.le_refl _)
end Go.Proofs.Ytgapcmmhbegdeaa.MFree
end
section
/- SolveClashes: what the reference and the program answer, in plain words (out of the pure text of the exact law). No condition. -/
namespace Go.Proofs.Ytgapcmmhbegdeaa.MCSolveClashes
open Go.RowKit Go.Proofs.Ytgapcmmhbegdeaa.G Go.Proofs.YtgapcmmhbegdeaaW.PrintWords Go.Proofs.YtgapcmmhbegdeaaW.PrintLast Go.Proofs.Ytgapcmmhbegdeaa.MPure Go.Proofs.Ytgapcmmhbegdeaa.MWord Go.Proofs.Ytgapcmmhbegdeaa.MPerson Go.Proofs.Ytgapcmmhbegdeaa.MChanges Go.Proofs.Ytgapcmmhbegdeaa.MFree

noncomputable def solR (l : List PI) (y : Int) : List PI × Int × Bool := open Classical in if peopleB l = true ∧ (1800 ≤ y ∧ y ≤ 2200) ∧ l.any (impl_SolveClashes.late y) = false then impl_SolveClashes.fin l ((impl_changes.upto l l.length).length : Int) (impl_SolveClashes.step l y (impl_changes.upto l l.length) l) else ([], 0, false)
theorem Solve_i (l : List PI) (hl : SizedP l) (y : Int) : Ev (fun k => impl_SolveClashes.f k l y) (solR l y) := by
  unfold impl_SolveClashes.f solR
  refine Ev.bind (ArePeople_ l hl) (Ev.ite (fun h => ?_) (fun h => Ev.some (by rw [if_neg h])))
  rw [if_pos h]
  have hn := people_length h.1
  exact Ev.pos (by omega) (Ev.some rfl)
theorem sol_loop (l : List PI) (hl : l.length ≤ 10) (y : Int) (L : List Int) (hL : ∀ a, a ∈ L → 0 ≤ a ∧ a < (l.length : Int)) (hn : L.length ≤ 10) : ∀ d j : Nat, j + d = L.length → ∀ out : List PI, out.length = l.length → (∀ i : Int, (rd_T77 out i).f1 = (rd_T77 l i).f1) → Ev (fun k => spec_SolveClashes.l1 k l y out L L (L.length : Int) (j : Int)) (impl_SolveClashes.fin l (L.length : Int) (impl_SolveClashes.step l y (L.drop j) out)) := by
  intro d
  induction d with
  | zero =>
    intro j hj out _ _
    rw [List.drop_eq_nil_of_le (by omega)]
    exact Ev.step (fun _ => spec_SolveClashes.l1.eq_2 ..) (Ev.neg (by omega) (Ev.some rfl))
  | succ d ih =>
    intro j hj out ho hf
    have hrd : rd L (j : Int) = L[j]'(by omega) := by
      show L.getD j _ = _
      rw [List.getD_eq_getElem?_getD, List.getElem?_eq_getElem (by omega)]
      rfl
    have hb := hL _ (List.getElem_mem (show j < L.length by omega))
    rw [← hrd] at hb
    rw [List.drop_eq_getElem_cons (show j < L.length by omega), ← hrd, impl_SolveClashes.step]
    refine Ev.step (fun _ => spec_SolveClashes.l1.eq_2 ..) (Ev.pos (by omega) (Ev.pos (by omega) (Ev.pos (by omega) (Ev.pos hb.1 (Ev.pos hb.2 (Ev.bind (naFree_ out (by omega) _) (Ev.ite (fun h => Ev.some ?_) (fun h => ?_))))))))
    · rw [if_pos h]; rfl
    · rw [if_neg h]
      have hw : spec_naWith.f out (rd L (j : Int)) (rd_T77 l (rd L (j : Int))).f1 (impl_freePlace.from out (rd_T77 l (rd L (j : Int))).f1 10) y = some (out.set (rd L (j : Int)).toNat ⟨(rd_T77 out (rd L (j : Int))).f0, (rd_T77 out (rd L (j : Int))).f1, impl_freePlace.from out (rd_T77 l (rd L (j : Int))).f1 10, y⟩) := by
        unfold spec_naWith.f
        simp only [Option.bind_some, List.nil_append, List.length_nil]
        rw [if_pos (by omega), if_pos hb.1, if_pos (by omega), if_pos (by omega), hf]
      have h2 := ih (j + 1) (by omega) (out.set (rd L (j : Int)).toNat ⟨(rd_T77 out (rd L (j : Int))).f0, (rd_T77 out (rd L (j : Int))).f1, impl_freePlace.from out (rd_T77 l (rd L (j : Int))).f1 10, y⟩) (by rw [List.length_set]; exact ho) (fun i => by
        rw [← hf i]
        show (List.getD _ i.toNat z77).f1 = (List.getD _ i.toNat z77).f1
        by_cases e : (rd L (j : Int)).toNat = i.toNat
        · rw [← e, List.getD_eq_getElem?_getD, List.getElem?_set_self (by omega)]
          rfl
        · rw [List.getD_eq_getElem?_getD, List.getD_eq_getElem?_getD, List.getElem?_set_ne e])
      rw [← wrap_succ (by omega)] at h2
      exact Ev.have hw h2
theorem late_loop (l : List PI) (hl : l.length ≤ 10) (y : Int) : ∀ d j : Nat, j + d = l.length → Ev (fun k => spec_SolveClashes.l0 k l y l (l.length : Int) (j : Int)) (if (l.drop j).any (impl_SolveClashes.late y) = true then ([], 0, false) else impl_SolveClashes.fin l ((impl_changes.upto l l.length).length : Int) (impl_SolveClashes.step l y (impl_changes.upto l l.length) l)) := by
  intro d
  induction d with
  | zero =>
    intro j hj
    rw [List.drop_eq_nil_of_le (by omega)]
    have hlen := MChanges.upto_length l l.length
    have h := sol_loop l hl y _ (MChanges.upto_lt l l.length) (by omega) (impl_changes.upto l l.length).length 0 (by omega) l rfl (fun _ => rfl)
    refine Ev.step (fun _ => spec_SolveClashes.l0.eq_2 ..) (Ev.neg (by omega) ?_)
    simp only [Option.bind_some, List.nil_append, List.length_nil, List.any_nil, Bool.false_eq_true, if_false]
    exact Ev.pos (by omega) (Ev.bind (naChanges_ l (by omega)) h)
  | succ d ih =>
    intro j hj
    have h := ih (j + 1) (by omega)
    have e : rd_T77 l (j : Int) = l[j]'(by omega) := by
      show l.getD j z77 = _
      rw [List.getD_eq_getElem?_getD, List.getElem?_eq_getElem (by omega)]
      rfl
    rw [← wrap_succ (by omega)] at h
    rw [List.drop_eq_getElem_cons (show j < l.length by omega), List.any_cons, ← e]
    refine Ev.step (fun _ => spec_SolveClashes.l0.eq_2 ..) (Ev.pos (by omega) (Ev.pos (by omega) (Ev.pos (by omega) (Ev.ite (fun g1 => Ev.some ?_) (fun g1 => ?_)))))
    · have hp : impl_SolveClashes.late y (rd_T77 l (j : Int)) = true := decide_eq_true g1
      rw [hp, Bool.true_or, if_pos rfl]
    · have hp : impl_SolveClashes.late y (rd_T77 l (j : Int)) = false := decide_eq_false g1
      rw [hp, Bool.false_or]
      exact h
theorem Solve_s (l : List PI) (hl : SizedP l) (y : Int) : Ev (fun k => spec_SolveClashes.f k l y) (solR l y) := by
  have hj : ∀ q : Bool, q = true → Ev (fun k => spec_SolveClashes.j0 k l y q) ([], 0, false) := fun q hq => Ev.step (fun _ => spec_SolveClashes.j0.eq_2 ..) (Ev.pos hq (Ev.some rfl))
  unfold spec_SolveClashes.f solR
  have g1 := naGood_ l hl
  have g5 := naYear_ y
  by_cases h1 : peopleB l = true
  case neg => rw [if_neg (fun h => h1 h.1)]; exact Ev.bind g1 (Ev.neg h1 (hj _ rfl))
  by_cases h5 : 1800 ≤ y ∧ y ≤ 2200
  case neg => rw [show yearB y = false from decide_eq_false h5] at g5; rw [if_neg (fun h => h5 h.2.1)]; exact Ev.bind g1 (Ev.pos h1 (Ev.have g5 (hj _ rfl)))
  rw [show yearB y = true from decide_eq_true h5] at g5
  have hn := people_length h1
  have h := late_loop l hn y l.length 0 (by omega)
  rw [List.drop_zero] at h
  refine Ev.bind g1 (Ev.pos h1 (Ev.have g5 (Ev.step (fun _ => spec_SolveClashes.j0.eq_2 ..) (Ev.neg (by simp) ?_))))
  by_cases h6 : l.any (impl_SolveClashes.late y) = true
  · rw [if_neg (fun h => by rw [h6] at h; exact absurd h.2.2 (by simp))]
    rw [if_pos h6] at h
    exact h
  · rw [if_pos ⟨h1, h5, by simpa using h6⟩]
    rw [if_neg h6] at h
    exact h
theorem step_length (l : List PI) (y : Int) : ∀ (L : List Int) (out r : List PI), impl_SolveClashes.step l y L out = some r → r.length = out.length
  | [], out, r, h => by rw [impl_SolveClashes.step] at h; rw [Option.some.inj h]
  | i :: is, out, r, h => by
    rw [impl_SolveClashes.step] at h
    split at h
    · exact absurd h (by simp)
    · rw [step_length l y is _ r h, List.length_set]
theorem solR_length (l : List PI) (y : Int) : (solR l y).1.length ≤ l.length := by
  unfold solR
  split
  · cases e : impl_SolveClashes.step l y (impl_changes.upto l l.length) l with
    | none => exact Nat.zero_le _
    | some r => exact Nat.le_of_eq (step_length l y _ _ _ e)
  · exact Nat.zero_le _
end Go.Proofs.Ytgapcmmhbegdeaa.MCSolveClashes
end
section
/- Who clashes: both come to the same list of pairs, told place by place. No condition. -/
namespace Go.Proofs.Ytgapcmmhbegdeaa.MClash
open Go.RowKit Go.Proofs.Ytgapcmmhbegdeaa.G Go.Proofs.YtgapcmmhbegdeaaW.PrintWords Go.Proofs.YtgapcmmhbegdeaaW.PrintLast Go.Proofs.Ytgapcmmhbegdeaa.MPure Go.Proofs.Ytgapcmmhbegdeaa.MWord Go.Proofs.Ytgapcmmhbegdeaa.MPerson

/-- Two persons of one letter and place. -/
def cl (x y : PI) : Bool := decide (x.f1 = y.f1 ∧ x.f2 = y.f2)
theorem cl_iff (x y : PI) : cl x y = true ↔ x.f1 = y.f1 ∧ x.f2 = y.f2 := decide_eq_true_iff
theorem naClash_ (x y : PI) : spec_naClash.f x.f0 x.f1 x.f2 x.f3 y.f0 y.f1 y.f2 y.f3 = some (cl x y) := by
  unfold spec_naClash.f cl
  by_cases h : x.f1 = y.f1
  · rw [if_pos h]; simp [h, Bool.beq_eq_decide_eq]
  · rw [if_neg h]; simp [h]
theorem clashes_ (x y : PI) : impl_Person_clashes.f x.f0 x.f1 x.f2 x.f3 y.f1 y.f2 = some (cl x y) := by
  unfold impl_Person_clashes.f cl
  by_cases h : x.f1 = y.f1
  · rw [if_pos h]; simp [h, Bool.beq_eq_decide_eq]
  · rw [if_neg h]; simp [h]
/-- The pairs of the i-th with the d ones from the j-th on. -/
def row (l : List PI) (i : Nat) : Nat → Nat → List (List Int)
  | 0, _ => []
  | d + 1, j => (if cl (atP l i) (atP l j) then [[(i : Int), (j : Int)]] else []) ++ row l i d (j + 1)
/-- The pairs of the d ones from the i-th on, each with those behind it. -/
def rows (l : List PI) : Nat → Nat → List (List Int)
  | 0, _ => []
  | d + 1, i => row l i (l.length - (i + 1)) (i + 1) ++ rows l d (i + 1)
def clR (l : List PI) : List (List Int) × Bool := if peopleB l = true then (rows l l.length 0, true) else ([], false)
theorem row_length (l : List PI) (i : Nat) : ∀ d j, (row l i d j).length ≤ d
  | 0, _ => Nat.le_refl _
  | d + 1, j => by
    have := row_length l i d (j + 1)
    rw [row, List.length_append]
    split
    · show 1 + _ ≤ _; omega
    · show 0 + _ ≤ _; omega
theorem rows_length (l : List PI) : ∀ d i, (rows l d i).length ≤ d * l.length
  | 0, _ => by rw [rows]; exact Nat.zero_le _
  | d + 1, i => by
    have h1 := rows_length l d (i + 1)
    have h2 := row_length l i (l.length - (i + 1)) (i + 1)
    rw [rows, List.length_append, Nat.succ_mul]
    omega
theorem mem_row (l : List PI) (i : Nat) (q : List Int) : ∀ d j, q ∈ row l i d j ↔ ∃ k, j ≤ k ∧ k < j + d ∧ cl (atP l i) (atP l k) = true ∧ q = [(i : Int), (k : Int)]
  | 0, j => by
    rw [row]
    exact ⟨fun h => (nomatch h), fun ⟨k, h1, h2, _⟩ => by omega⟩
  | d + 1, j => by
    rw [row, List.mem_append, mem_row l i q d (j + 1)]
    constructor
    · rintro (h | ⟨k, h1, h2, h3, h4⟩)
      · split at h
        · rename_i hc
          exact ⟨j, by omega, by omega, hc, List.mem_singleton.1 h⟩
        · exact (nomatch h)
      · exact ⟨k, by omega, by omega, h3, h4⟩
    · rintro ⟨k, h1, h2, h3, h4⟩
      by_cases e : k = j
      · subst e
        rw [if_pos h3]
        exact Or.inl (List.mem_singleton.2 h4)
      · exact Or.inr ⟨k, by omega, by omega, h3, h4⟩
theorem mem_rows (l : List PI) (q : List Int) : ∀ d i, i + d = l.length → (q ∈ rows l d i ↔ ∃ a k, i ≤ a ∧ a < k ∧ k < l.length ∧ cl (atP l a) (atP l k) = true ∧ q = [(a : Int), (k : Int)])
  | 0, i, hi => by
    rw [rows]
    exact ⟨fun h => (nomatch h), fun ⟨a, k, h1, h2, h3, _⟩ => by omega⟩
  | d + 1, i, hi => by
    rw [rows, List.mem_append, mem_rows l q d (i + 1) (by omega), mem_row]
    constructor
    · rintro (⟨k, h1, h2, h3, h4⟩ | ⟨a, k, h1, h2, h3, h4, h5⟩)
      · exact ⟨i, k, Nat.le_refl _, by omega, by omega, h3, h4⟩
      · exact ⟨a, k, by omega, h2, h3, h4, h5⟩
    · rintro ⟨a, k, h1, h2, h3, h4, h5⟩
      by_cases e : a = i
      · subst e
        exact Or.inl ⟨k, by omega, by omega, h4, h5⟩
      · exact Or.inr ⟨a, k, by omega, h2, h3, h4, h5⟩
theorem inner_s (l : List PI) (hl : l.length ≤ 1000) (i : Nat) (hi : i < l.length) (R : List (List Int) × Bool) : ∀ d j : Nat, j + d = l.length → ∀ out : List (List Int), out.length + d ≤ 100000000 → Ev (fun k => spec_ClashesOf.l0 k l (out ++ row l i d j) (l.length : Int) ((i + 1 : Nat) : Int)) R →
    Ev (fun k => spec_ClashesOf.l1 k l out (i : Int) (j : Int) (l.length : Int) (i : Int)) R := by
  intro d
  induction d with
  | zero =>
    intro j hj out ho h
    rw [row, List.append_nil, ← wrap_succ (by omega)] at h
    exact Ev.step (fun _ => spec_ClashesOf.l1.eq_2 ..) (Ev.neg (by omega) h)
  | succ d ih =>
    intro j hj out ho h
    have hs := naClash_ (rd_T77 l (i : Int)) (rd_T77 l (j : Int))
    rw [row] at h
    by_cases hc : cl (atP l i) (atP l j) = true
    · rw [if_pos hc, ← List.append_assoc] at h
      rw [show cl (rd_T77 l (i : Int)) (rd_T77 l (j : Int)) = true from hc] at hs
      have h2 := ih (j + 1) (by omega) (out ++ [[(i : Int), (j : Int)]]) (by rw [List.length_append, List.length_singleton]; omega) h
      rw [← wrap_succ (by omega)] at h2
      exact Ev.step (fun _ => spec_ClashesOf.l1.eq_2 ..) (Ev.pos (by omega) (Ev.pos (by omega) (Ev.pos (by omega) (Ev.pos (by omega) (Ev.have hs (Ev.pos rfl (Ev.pos (by omega) h2)))))))
    · rw [if_neg hc, List.nil_append] at h
      rw [show cl (rd_T77 l (i : Int)) (rd_T77 l (j : Int)) = false from Bool.eq_false_iff.2 hc] at hs
      have h2 := ih (j + 1) (by omega) out (by omega) h
      rw [← wrap_succ (by omega)] at h2
      exact Ev.step (fun _ => spec_ClashesOf.l1.eq_2 ..) (Ev.pos (by omega) (Ev.pos (by omega) (Ev.pos (by omega) (Ev.pos (by omega) (Ev.have hs (Ev.neg (by simp) h2))))))
theorem inner_i (l : List PI) (hl : l.length ≤ 1000) (i : Nat) (hi : i < l.length) (R : List (List Int) × Bool) : ∀ d j : Nat, j + d = l.length → ∀ out : List (List Int), out.length + d ≤ 100000000 → Ev (fun k => impl_ClashesOf.l0 k l (out ++ row l i d j) l (l.length : Int) ((i + 1 : Nat) : Int)) R →
    Ev (fun k => impl_ClashesOf.l1 k l out (i : Int) (j : Int) l (l.length : Int) (i : Int) (rd_T77 l (i : Int)).f0 (rd_T77 l (i : Int)).f1 (rd_T77 l (i : Int)).f2 (rd_T77 l (i : Int)).f3) R := by
  intro d
  induction d with
  | zero =>
    intro j hj out ho h
    rw [row, List.append_nil, ← wrap_succ (by omega)] at h
    exact Ev.step (fun _ => impl_ClashesOf.l1.eq_2 ..) (Ev.neg (by omega) h)
  | succ d ih =>
    intro j hj out ho h
    have hs := clashes_ (rd_T77 l (i : Int)) (rd_T77 l (j : Int))
    rw [row] at h
    by_cases hc : cl (atP l i) (atP l j) = true
    · rw [if_pos hc, ← List.append_assoc] at h
      rw [show cl (rd_T77 l (i : Int)) (rd_T77 l (j : Int)) = true from hc] at hs
      have h2 := ih (j + 1) (by omega) (out ++ [[(i : Int), (j : Int)]]) (by rw [List.length_append, List.length_singleton]; omega) h
      rw [← wrap_succ (by omega)] at h2
      exact Ev.step (fun _ => impl_ClashesOf.l1.eq_2 ..) (Ev.pos (by omega) (Ev.pos (by omega) (Ev.have hs (Ev.pos rfl (Ev.pos (by omega) h2)))))
    · rw [if_neg hc, List.nil_append] at h
      rw [show cl (rd_T77 l (i : Int)) (rd_T77 l (j : Int)) = false from Bool.eq_false_iff.2 hc] at hs
      have h2 := ih (j + 1) (by omega) out (by omega) h
      rw [← wrap_succ (by omega)] at h2
      exact Ev.step (fun _ => impl_ClashesOf.l1.eq_2 ..) (Ev.pos (by omega) (Ev.pos (by omega) (Ev.have hs (Ev.neg (by simp) h2))))
theorem outer_s (l : List PI) (hl : l.length ≤ 1000) : ∀ d i : Nat, i + d = l.length → ∀ out : List (List Int), out.length ≤ i * 1000 → Ev (fun k => spec_ClashesOf.l0 k l out (l.length : Int) (i : Int)) (out ++ rows l d i, true) := by
  intro d
  induction d with
  | zero =>
    intro i hi out ho
    rw [rows, List.append_nil]
    exact Ev.step (fun _ => spec_ClashesOf.l0.eq_2 ..) (Ev.neg (by omega) (Ev.some rfl))
  | succ d ih =>
    intro i hi out ho
    have hr := row_length l i (l.length - (i + 1)) (i + 1)
    have h := ih (i + 1) (by omega) (out ++ row l i (l.length - (i + 1)) (i + 1)) (by rw [List.length_append]; omega)
    have h2 := inner_s l hl i (by omega) _ (l.length - (i + 1)) (i + 1) (by omega) out (by omega) h
    rw [rows, ← List.append_assoc]
    rw [← wrap_succ (by omega)] at h2
    exact Ev.step (fun _ => spec_ClashesOf.l0.eq_2 ..) (Ev.pos (by omega) h2)
theorem outer_i (l : List PI) (hl : l.length ≤ 1000) : ∀ d i : Nat, i + d = l.length → ∀ out : List (List Int), out.length ≤ i * 1000 → Ev (fun k => impl_ClashesOf.l0 k l out l (l.length : Int) (i : Int)) (out ++ rows l d i, true) := by
  intro d
  induction d with
  | zero =>
    intro i hi out ho
    rw [rows, List.append_nil]
    exact Ev.step (fun _ => impl_ClashesOf.l0.eq_2 ..) (Ev.neg (by omega) (Ev.some rfl))
  | succ d ih =>
    intro i hi out ho
    have hr := row_length l i (l.length - (i + 1)) (i + 1)
    have h := ih (i + 1) (by omega) (out ++ row l i (l.length - (i + 1)) (i + 1)) (by rw [List.length_append]; omega)
    have h2 := inner_i l hl i (by omega) _ (l.length - (i + 1)) (i + 1) (by omega) out (by omega) h
    rw [rows, ← List.append_assoc]
    rw [← wrap_succ (by omega)] at h2
    exact Ev.step (fun _ => impl_ClashesOf.l0.eq_2 ..) (Ev.pos (by omega) (Ev.pos (by omega) (Ev.pos (by omega) h2)))
theorem people_len {l : List PI} (h : peopleB l = true) : l.length ≤ 10 := by
  unfold peopleB at h
  simp only [Bool.and_eq_true, decide_eq_true_eq] at h
  omega
theorem Clashes_s (l : List PI) (hl : SizedP l) : Ev (fun k => spec_ClashesOf.f k l) (clR l) := by
  unfold spec_ClashesOf.f clR
  refine Ev.bind (naGood_ l hl) (Ev.ite (fun h => ?_) (fun h => Ev.some (by rw [if_neg h])))
  rw [if_pos h]
  exact outer_s l (by have := people_len h; omega) l.length 0 (by omega) [] (Nat.zero_le _)
theorem Clashes_i (l : List PI) (hl : SizedP l) : Ev (fun k => impl_ClashesOf.f k l) (clR l) := by
  unfold impl_ClashesOf.f clR
  refine Ev.bind (ArePeople_ l hl) (Ev.ite (fun h => ?_) (fun h => Ev.some (by rw [if_neg h])))
  rw [if_pos h]
  exact outer_i l (by have := people_len h; omega) l.length 0 (by omega) [] (Nat.zero_le _)
theorem clR_length (l : List PI) : (clR l).1.length ≤ 1000 := by
  unfold clR
  split
  · rename_i h
    have h1 := people_len h
    have h2 := rows_length l l.length 0
    have h3 : l.length * l.length ≤ 10 * 10 := Nat.mul_le_mul h1 h1
    show (rows l l.length 0).length ≤ 1000
    omega
  · exact Nat.zero_le _
theorem mem_clR (l : List PI) (h : peopleB l = true) (q : List Int) : q ∈ (clR l).1 ↔ ∃ a k, a < k ∧ k < l.length ∧ cl (atP l a) (atP l k) = true ∧ q = [(a : Int), (k : Int)] := by
  unfold clR
  rw [if_pos h]
  show q ∈ rows l l.length 0 ↔ _
  rw [mem_rows l q l.length 0 (by omega)]
  exact ⟨fun ⟨a, k, _, h⟩ => ⟨a, k, h⟩, fun ⟨a, k, h⟩ => ⟨a, k, Nat.zero_le _, h⟩⟩
end Go.Proofs.Ytgapcmmhbegdeaa.MClash
end
section
/- What the laws draw: every cursor's function answers, and what it answers. No condition. -/
namespace Go.Proofs.Ytgapcmmhbegdeaa.MDraw
open Go.RowKit Go.Proofs.Ytgapcmmhbegdeaa.G Go.Proofs.YtgapcmmhbegdeaaW.PrintWords Go.Proofs.YtgapcmmhbegdeaaW.PrintLast Go.Proofs.Ytgapcmmhbegdeaa.MPure

/-- The bytes that come in. -/
def Bytes (s : List Int) : Prop := ∀ a, a ∈ s → (Lit.int .u8 a).wf = true
theorem Bytes.at {s : List Int} (h : Bytes s) (i : Int) (h0 : 0 ≤ i) (h1 : i < (s.length : Int)) : 0 ≤ rd s i ∧ rd s i ≤ 255 := by
  have hm : rd s i ∈ s := by
    show s.getD i.toNat 0 ∈ s
    rw [List.getD_eq_getElem?_getD, List.getElem?_eq_getElem (show i.toNat < s.length by omega)]
    exact List.getElem_mem _
  have := h _ hm
  simp only [Lit.wf, Bool.and_eq_true, decide_eq_true_eq] at this
  exact this
theorem and_255 (x : Int) : 0 ≤ Go.bits .and .u64 x 255 ∧ Go.bits .and .u64 x 255 ≤ 255 := by
  have h : ((BitVec.ofInt IntKind.u64.bits x) &&& (BitVec.ofInt IntKind.u64.bits 255)).toNat ≤ 255 := by
    rw [BitVec.toNat_and]
    exact Nat.le_trans Nat.and_le_right (by decide)
  unfold Go.bits
  simp only
  generalize ((BitVec.ofInt IntKind.u64.bits x) &&& (BitVec.ofInt IntKind.u64.bits 255)).toNat = n at h
  have e : IntKind.u64.wrap (n : Int) = (n : Int) := by
    have h1 : (0 : Int) ≤ n := by omega
    have h2 : (n : Int) ≤ 255 := by omega
    generalize (n : Int) = z at h1 h2
    unfold IntKind.wrap
    simp [IntKind.signed, IntKind.bits]
    omega
  rw [e]
  omega
theorem next_ (s : List Int) (hs : Bytes s) (a d : Int) (h0 : 0 ≤ a) (h1 : a ≤ 1000000000000000) : ∃ v d', spec_l1Cur_next.f s a d = some (v, a + 1, d') ∧ 0 ≤ v ∧ v ≤ 255 := by
  have hw : wrap64 (a + 1) = a + 1 := wrap_in (by omega) (by omega)
  unfold spec_l1Cur_next.f
  rw [hw]
  split
  · rename_i h
    have hr := hs.at a h0 h
    have hv : wrap64 (rd s a) = rd s a := wrap_in (by omega) (by omega)
    rw [if_pos (by omega), hv]
    exact ⟨_, _, rfl, hr.1, hr.2⟩
  · split
    · exact ⟨_, _, rfl, by omega, by omega⟩
    · have hb := and_255 ((IntKind.u64.wrap ((IntKind.u64.wrap ((IntKind.u64.wrap (d * 6364136223846793005)) + 0)) + 1442695040888963407)) / 1099511627776)
      refine ⟨_, _, rfl, ?_, ?_⟩
      · rw [wrap_in (by omega) (by omega)]; exact hb.1
      · rw [wrap_in (by omega) (by omega)]; exact hb.2
theorem pick_ (s : List Int) (hs : Bytes s) (a d n : Int) (h0 : 0 ≤ a) (h1 : a ≤ 1000000000000) : ∃ v a' d', spec_l1Cur_pick.f s a d n = some (v, a', d') ∧ 0 ≤ v ∧ v ≤ 65535 ∧ (1 ≤ n → v < n) ∧ a ≤ a' ∧ a' ≤ a + 2 := by
  unfold spec_l1Cur_pick.f
  split
  · exact ⟨_, _, _, rfl, by omega, by omega, fun h => by omega, by omega, by omega⟩
  · rename_i hn
    obtain ⟨v, d1, e1, v0, v1⟩ := next_ s hs a d h0 (by omega)
    rw [e1]
    simp only [Option.bind_some]
    split
    · obtain ⟨u, d2, e2, u0, u1⟩ := next_ s hs (a + 1) d1 (by omega) (by omega)
      rw [e2]
      simp only [Option.bind_some]
      rw [if_neg (by omega), wrap_in (show -9223372036854775808 ≤ v * 256 by omega) (by omega), wrap_in (show -9223372036854775808 ≤ v * 256 + u by omega) (by omega)]
      have t0 := Int.tmod_nonneg n (show 0 ≤ v * 256 + u by omega)
      have t1 := Int.tmod_lt_of_pos (v * 256 + u) (show 0 < n by omega)
      have t2 : Int.tmod (v * 256 + u) n ≤ v * 256 + u := by
        rw [Int.tmod_eq_emod_of_nonneg (by omega)]
        have := Int.mul_ediv_add_emod (v * 256 + u) n
        have h3 : 0 ≤ (v * 256 + u) / n := Int.ediv_nonneg (by omega) (by omega)
        have h4 : 0 ≤ n * ((v * 256 + u) / n) := Int.mul_nonneg (by omega) h3
        omega
      exact ⟨_, _, _, rfl, t0, by omega, fun _ => t1, by omega, by omega⟩
    · rw [if_neg (by omega)]
      have t0 := Int.tmod_nonneg n v0
      have t1 := Int.tmod_lt_of_pos v (show 0 < n by omega)
      have t2 : Int.tmod v n ≤ v := by
        rw [Int.tmod_eq_emod_of_nonneg v0]
        have := Int.mul_ediv_add_emod v n
        have h3 : 0 ≤ v / n := Int.ediv_nonneg v0 (by omega)
        have h4 : 0 ≤ n * (v / n) := Int.mul_nonneg (by omega) h3
        omega
      exact ⟨_, _, _, rfl, t0, by omega, fun _ => t1, by omega, by omega⟩
theorem one_ (s : List Int) (hs : Bytes s) (a d n : Int) (h0 : 0 ≤ a) (h1 : a ≤ 1000000000000) : ∃ v a' d', spec_l1Cur_one.f s a d n = some (v, a', d') ∧ a ≤ a' ∧ a' ≤ a + 2 := by
  obtain ⟨v, a', d', e, _, _, _, g1, g2⟩ := pick_ s hs a d n h0 h1
  unfold spec_l1Cur_one.f
  rw [e]
  exact ⟨_, _, _, rfl, g1, g2⟩
theorem among_ (s : List Int) (hs : Bytes s) (a d : Int) (l : List Int) (hl : 0 < l.length) (h0 : 0 ≤ a) (h1 : a ≤ 1000000000000) : ∃ v a' d', spec_l1Cur_among.f s a d l = some (v, a', d') ∧ v ∈ l ∧ a ≤ a' ∧ a' ≤ a + 2 := by
  obtain ⟨v, a', d', e, v0, _, v1, g1, g2⟩ := pick_ s hs a d (l.length : Int) h0 h1
  have hv := v1 (by omega)
  unfold spec_l1Cur_among.f
  rw [e]
  simp only [Option.bind_some]
  rw [if_pos v0, if_pos hv]
  refine ⟨_, _, _, rfl, ?_, g1, g2⟩
  show l.getD v.toNat 0 ∈ l
  rw [List.getD_eq_getElem?_getD, List.getElem?_eq_getElem (show v.toNat < l.length by omega)]
  exact List.getElem_mem _
theorem of_ (s : List Int) (hs : Bytes s) (a d : Int) (l : List ByteArray) (hl : 0 < l.length) (h0 : 0 ≤ a) (h1 : a ≤ 1000000000000) : ∃ v a' d', spec_l1Cur_of.f s a d l = some (v, a', d') ∧ v ∈ l ∧ a ≤ a' ∧ a' ≤ a + 2 := by
  obtain ⟨v, a', d', e, v0, _, v1, g1, g2⟩ := pick_ s hs a d (l.length : Int) h0 h1
  have hv := v1 (by omega)
  unfold spec_l1Cur_of.f
  rw [e]
  simp only [Option.bind_some]
  rw [if_pos v0, if_pos hv]
  refine ⟨_, _, _, rfl, ?_, g1, g2⟩
  show l.getD v.toNat ByteArray.empty ∈ l
  rw [List.getD_eq_getElem?_getD, List.getElem?_eq_getElem (show v.toNat < l.length by omega)]
  exact List.getElem_mem _
/-- A number of the machine. -/
def I64 (z : Int) : Prop := -9223372036854775808 ≤ z ∧ z ≤ 9223372036854775807
theorem wrap_i64 (z : Int) : I64 (wrap64 z) := by unfold I64 wrap64; omega
end Go.Proofs.Ytgapcmmhbegdeaa.MDraw
end
section
/- The drawn people: every draw answers with persons whose names are short. No condition. -/
namespace Go.Proofs.Ytgapcmmhbegdeaa.MDrawP
open Go.RowKit Go.Proofs.Ytgapcmmhbegdeaa.G Go.Proofs.YtgapcmmhbegdeaaW.PrintWords Go.Proofs.YtgapcmmhbegdeaaW.PrintLast Go.Proofs.Ytgapcmmhbegdeaa.MPure Go.Proofs.Ytgapcmmhbegdeaa.MWord Go.Proofs.Ytgapcmmhbegdeaa.MPerson Go.Proofs.Ytgapcmmhbegdeaa.MDraw

theorem person_ (s : List Int) (hs : Bytes s) (a d : Int) (n : ByteArray) (h0 : 0 ≤ a) (h1 : a ≤ 100000000000) : ∃ x y z a' d', spec_l1Cur_person.f s a d n = some (n, x, y, z, a', d') ∧ a ≤ a' ∧ a' ≤ a + 12 := by
  obtain ⟨v1, a1, d1, e1, _, _, _, p1, q1⟩ := pick_ s hs a d 26 h0 (by omega)
  obtain ⟨v2, a2, d2, e2, _, p2, q2⟩ := among_ s hs a1 d1 [0, 0, 1, 25, v1] (by simp) (by omega) (by omega)
  obtain ⟨v3, a3, d3, e3, _, p3, q3⟩ := among_ s hs a2 d2 [0, 1, 1, 2, 9] (by simp) (by omega) (by omega)
  obtain ⟨v4, a4, d4, e4, _, p4, q4⟩ := among_ s hs a3 d3 [1985, 1990, 1990, 2000, 1800, 2200] (by simp) (by omega) (by omega)
  obtain ⟨v5, a5, d5, e5, _, _, _, p5, q5⟩ := pick_ s hs a4 d4 60 (by omega) (by omega)
  unfold spec_l1Cur_person.f
  rw [e1]; simp only [Option.bind_some]; rw [e2]; simp only [Option.bind_some]; rw [e3]; simp only [Option.bind_some]; rw [e4]; simp only [Option.bind_some]; rw [e5]; simp only [Option.bind_some]
  split
  · obtain ⟨v6, a6, d6, e6, _, p6, q6⟩ := among_ s hs a5 d5 [(-1), 26] (by simp) (by omega) (by omega)
    rw [e6]
    exact ⟨_, _, _, _, _, rfl, by show a ≤ a6; omega, by show a6 ≤ a + 12; omega⟩
  · split
    · obtain ⟨v6, a6, d6, e6, _, p6, q6⟩ := among_ s hs a5 d5 [(-1), 10] (by simp) (by omega) (by omega)
      rw [e6]
      exact ⟨_, _, _, _, _, rfl, by show a ≤ a6; omega, by show a6 ≤ a + 12; omega⟩
    · split
      · obtain ⟨v6, a6, d6, e6, _, p6, q6⟩ := among_ s hs a5 d5 [1799, 2201] (by simp) (by omega) (by omega)
        rw [e6]
        exact ⟨_, _, _, _, _, rfl, by show a ≤ a6; omega, by show a6 ≤ a + 12; omega⟩
      · exact ⟨_, _, _, _, _, rfl, by show a ≤ a5; omega, by show a5 ≤ a + 12; omega⟩
/-- Persons with short names. -/
def ShortP (l : List PI) : Prop := ∀ x, x ∈ l → x.f0.size ≤ 100
theorem ShortP.sized {l : List PI} (h : ShortP l) (hl : l.length ≤ 100) : SizedP l := ⟨by omega, fun x hx => Nat.le_trans (h x hx) (by decide)⟩
theorem ShortP.snoc {l : List PI} (h : ShortP l) {x : PI} (hx : x.f0.size ≤ 100) : ShortP (l ++ [x]) := fun y hy => by
  rcases List.mem_append.1 hy with hy | hy
  · exact h y hy
  · obtain rfl := List.mem_singleton.1 hy; exact hx
theorem many_loop (s : List Int) : ∀ (n : Nat) (l : List PI) (m a d : Int), l.length + n = m.toNat → m ≤ 11 → ShortP l → ∃ r, Ev (fun k => spec_l1Cur_people.l1 k l m s a d) (r, a, d) ∧ r.length ≤ 20 ∧ ShortP r := by
  intro n
  induction n with
  | zero =>
    intro l m a d hl hm hS
    exact ⟨l, Ev.step (fun _ => spec_l1Cur_people.l1.eq_2 ..) (Ev.neg (by omega) (Ev.some rfl)), by omega, hS⟩
  | succ n ih =>
    intro l m a d hl hm hS
    have hw : wrap64 ((l.length : Int) + 1) = ((l.length + 1 : Nat) : Int) := wrap_succ (by omega)
    have hz : ((⟨#[97, 98, 99, 100, 101, 102, 103, 104, 105, 106, 107]⟩ : ByteArray).extract ((l.length : Int) : Int).toNat (((l.length + 1 : Nat) : Int)).toNat).size ≤ 11 := by
      rw [ByteArray.size_extract]
      have : (⟨#[97, 98, 99, 100, 101, 102, 103, 104, 105, 106, 107]⟩ : ByteArray).size = 11 := rfl
      omega
    have hz2 : ((⟨#[120]⟩ : ByteArray) ++ (⟨#[97, 98, 99, 100, 101, 102, 103, 104, 105, 106, 107]⟩ : ByteArray).extract ((l.length : Int) : Int).toNat (((l.length + 1 : Nat) : Int)).toNat).size ≤ 100 := by
      rw [ByteArray.size_append]
      have : (⟨#[120]⟩ : ByteArray).size = 1 := rfl
      omega
    obtain ⟨r, er, hr, hSr⟩ := ih (l ++ [⟨(⟨#[120]⟩ : ByteArray) ++ (⟨#[97, 98, 99, 100, 101, 102, 103, 104, 105, 106, 107]⟩ : ByteArray).extract ((l.length : Int) : Int).toNat (((l.length + 1 : Nat) : Int)).toNat, 0, (l.length : Int) % 10, 1990⟩]) m a d (by rw [List.length_append, List.length_singleton]; omega) hm (hS.snoc hz2)
    refine ⟨r, Ev.step (fun _ => spec_l1Cur_people.l1.eq_2 ..) (Ev.pos (by omega) (Ev.pos (by omega) ?_)), hr, hSr⟩
    rw [hw]
    exact Ev.pos (by omega) (Ev.pos (by omega) (Ev.pos (by omega) (Ev.pos (by omega) er)))
theorem people_loop (s : List Int) (hs : Bytes s) (L : List ByteArray) (hL : ∀ x, x ∈ L → x.size ≤ 100) (hn : L.length ≤ 10) : ∀ (n i : Nat) (l : List PI) (a d : Int), i + n = L.length → l.length ≤ i → ShortP l → 0 ≤ a → a + 20 * n ≤ 10000000000 → ∃ r a' d', Ev (fun k => spec_l1Cur_people.l0 k l L (L.length : Int) (i : Int) s a d) (r, a', d') ∧ r.length ≤ 20 ∧ ShortP r ∧ a ≤ a' ∧ a' ≤ a + 20 * n + 30 := by
  intro n
  induction n with
  | zero =>
    intro i l a d hi hl hS h0 h1
    obtain ⟨v1, a1, d1, e1, v10, _, _, p1, q1⟩ := pick_ s hs a d 30 h0 (by omega)
    by_cases c0 : v1 = 0
    · obtain ⟨v2, a2, d2, e2, m2, p2, q2⟩ := of_ s hs a1 d1 [(⟨#[]⟩ : ByteArray), (⟨#[97, 110, 110]⟩ : ByteArray), (⟨#[90, 111, 101]⟩ : ByteArray), (⟨#[122, 122]⟩ : ByteArray), (⟨#[110, 105, 110, 101, 99, 104, 97, 114, 115]⟩ : ByteArray)] (by simp) (by omega) (by omega)
      have hg : v2.size ≤ 100 := by
        simp only [List.mem_cons, List.not_mem_nil, or_false] at m2
        rcases m2 with rfl | rfl | rfl | rfl | rfl <;> decide
      obtain ⟨x, y, z, a3, d3, e3, p3, q3⟩ := person_ s hs a2 d2 v2 (by omega) (by omega)
      refine ⟨l ++ [⟨v2, x, y, z⟩], a3, d3, Ev.step (fun _ => spec_l1Cur_people.l0.eq_2 ..) (Ev.neg (by omega) (Ev.have e1 (Ev.pos c0 (Ev.have e2 (Ev.have e3 (Ev.pos (by omega) (Ev.some rfl))))))), by rw [List.length_append, List.length_singleton]; omega, hS.snoc hg, by omega, by omega⟩
    · by_cases c1 : v1 = 1
      · obtain ⟨v2, a2, d2, e2, v20, _, v21, p2, q2⟩ := pick_ s hs a1 d1 2 (by omega) (by omega)
        have hv2 := v21 (by omega)
        have hw : wrap64 (10 + v2) = 10 + v2 := wrap_in (by omega) (by omega)
        obtain ⟨r, er, hr, hSr⟩ := many_loop s (10 + v2).toNat [] (10 + v2) a2 d2 (by simp) (by omega) (fun x hx => nomatch hx)
        refine ⟨r, a2, d2, Ev.step (fun _ => spec_l1Cur_people.l0.eq_2 ..) (Ev.neg (by omega) (Ev.have e1 (Ev.neg c0 (Ev.pos c1 (Ev.have e2 ?_))))), hr, hSr, by omega, by omega⟩
        rw [hw]
        exact er
      · exact ⟨l, a1, d1, Ev.step (fun _ => spec_l1Cur_people.l0.eq_2 ..) (Ev.neg (by omega) (Ev.have e1 (Ev.neg c0 (Ev.neg c1 (Ev.some rfl))))), by omega, hS, by omega, by omega⟩
  | succ n ih =>
    intro i l a d hi hl hS h0 h1
    obtain ⟨b, a1, d1, e1, p1, q1⟩ := one_ s hs a d 2 h0 (by omega)
    have hw : wrap64 ((i : Int) + 1) = ((i + 1 : Nat) : Int) := wrap_succ (by omega)
    cases b with
    | true =>
      have hm : rdOf ByteArray.empty L (i : Int) ∈ L := by
        show L.getD i ByteArray.empty ∈ L
        rw [List.getD_eq_getElem?_getD, List.getElem?_eq_getElem (by omega)]
        exact List.getElem_mem _
      obtain ⟨x, y, z, a3, d3, e3, p3, q3⟩ := person_ s hs a1 d1 (rdOf ByteArray.empty L (i : Int)) (by omega) (by omega)
      obtain ⟨r, a', d', er, hr, hSr, pr, qr⟩ := ih (i + 1) (l ++ [⟨rdOf ByteArray.empty L (i : Int), x, y, z⟩]) a3 d3 (by omega) (by rw [List.length_append, List.length_singleton]; omega) (hS.snoc (hL _ hm)) (by omega) (by omega)
      rw [← hw] at er
      exact ⟨r, a', d', Ev.step (fun _ => spec_l1Cur_people.l0.eq_2 ..) (Ev.pos (by omega) (Ev.pos (by omega) (Ev.pos (by omega) (Ev.have e1 (Ev.pos rfl (Ev.have e3 (Ev.pos (by omega) er))))))), hr, hSr, by omega, by omega⟩
    | false =>
      obtain ⟨r, a', d', er, hr, hSr, pr, qr⟩ := ih (i + 1) l a1 d1 (by omega) (by omega) hS (by omega) (by omega)
      rw [← hw] at er
      exact ⟨r, a', d', Ev.step (fun _ => spec_l1Cur_people.l0.eq_2 ..) (Ev.pos (by omega) (Ev.pos (by omega) (Ev.pos (by omega) (Ev.have e1 (Ev.neg (show ¬ false = true by decide) er))))), hr, hSr, by omega, by omega⟩
/-- Drawn people: at most 20 with short names. -/
theorem people_ (s : List Int) (hs : Bytes s) (a d : Int) (h0 : 0 ≤ a) (h1 : a ≤ 1000000000) : ∃ r a' d', Ev (fun k => spec_l1Cur_people.f k s a d) (r, a', d') ∧ r.length ≤ 20 ∧ ShortP r ∧ a ≤ a' ∧ a' ≤ a + 2000 := by
  obtain ⟨r, a', d', er, hr, hSr, pr, qr⟩ := people_loop s hs [(⟨#[97, 110, 110]⟩ : ByteArray), (⟨#[98, 111, 98]⟩ : ByteArray), (⟨#[99, 97, 114, 108]⟩ : ByteArray), (⟨#[100, 111, 114, 97]⟩ : ByteArray), (⟨#[101, 118, 101]⟩ : ByteArray), (⟨#[102, 105, 110, 110]⟩ : ByteArray), (⟨#[103, 105, 108]⟩ : ByteArray)] (by
    intro x hx
    simp only [List.mem_cons, List.not_mem_nil, or_false] at hx
    rcases hx with rfl | rfl | rfl | rfl | rfl | rfl | rfl <;> decide) (by decide) 7 0 [] a d (by decide) (Nat.le_refl _) (fun x hx => nomatch hx) h0 (by omega)
  refine ⟨r, a', d', ?_, hr, hSr, pr, by omega⟩
  unfold spec_l1Cur_people.f
  exact Ev.have rfl er
theorem personName_ (s : List Int) (hs : Bytes s) (a d : Int) (h0 : 0 ≤ a) (h1 : a ≤ 100000000000) : ∃ v a' d', spec_l1Cur_personName.f s a d = some (v, a', d') ∧ v.size ≤ 100 ∧ a ≤ a' ∧ a' ≤ a + 10 := by
  obtain ⟨v1, a1, d1, e1, m1, p1, q1⟩ := of_ s hs a d [(⟨#[]⟩ : ByteArray), (⟨#[65, 110, 110]⟩ : ByteArray), (⟨#[110, 105, 110, 101, 99, 104, 97, 114, 115]⟩ : ByteArray)] (by simp) h0 (by omega)
  obtain ⟨v2, a2, d2, e2, m2, p2, q2⟩ := of_ s hs a1 d1 [(⟨#[97, 110, 110]⟩ : ByteArray), (⟨#[122, 111, 101]⟩ : ByteArray), (⟨#[104, 97, 108]⟩ : ByteArray), (⟨#[101, 105, 103, 104, 116, 99, 104, 97]⟩ : ByteArray), (⟨#[97]⟩ : ByteArray), v1] (by simp) (by omega) (by omega)
  have hg1 : v1.size ≤ 100 := by
    simp only [List.mem_cons, List.not_mem_nil, or_false] at m1
    rcases m1 with rfl | rfl | rfl <;> decide
  have hg2 : v2.size ≤ 100 := by
    simp only [List.mem_cons, List.not_mem_nil, or_false] at m2
    rcases m2 with rfl | rfl | rfl | rfl | rfl | rfl
    · decide
    · decide
    · decide
    · decide
    · decide
    · exact hg1
  unfold spec_l1Cur_personName.f
  rw [e1]; simp only [Option.bind_some]; rw [e2]
  exact ⟨_, _, _, rfl, hg2, by show a ≤ a2; omega, by show a2 ≤ a + 10; omega⟩
theorem letterOf_ (s : List Int) (hs : Bytes s) (a d : Int) (h0 : 0 ≤ a) (h1 : a ≤ 100000000000) : ∃ v a' d', spec_l1Cur_letterOf.f s a d = some (v, a', d') ∧ a ≤ a' ∧ a' ≤ a + 10 := by
  obtain ⟨v1, a1, d1, e1, _, p1, q1⟩ := among_ s hs a d [0, (-1), 26] (by simp) h0 (by omega)
  obtain ⟨v2, a2, d2, e2, _, p2, q2⟩ := among_ s hs a1 d1 [0, 0, 1, 25, 5, v1] (by simp) (by omega) (by omega)
  unfold spec_l1Cur_letterOf.f
  rw [e1]; simp only [Option.bind_some]; rw [e2]
  exact ⟨_, _, _, rfl, by show a ≤ a2; omega, by show a2 ≤ a + 10; omega⟩
theorem yearOf_ (s : List Int) (hs : Bytes s) (a d : Int) (h0 : 0 ≤ a) (h1 : a ≤ 100000000000) : ∃ v a' d', spec_l1Cur_yearOf.f s a d = some (v, a', d') ∧ a ≤ a' ∧ a' ≤ a + 10 := by
  obtain ⟨v1, a1, d1, e1, _, p1, q1⟩ := among_ s hs a d [1800, 1799, 2201] (by simp) h0 (by omega)
  obtain ⟨v2, a2, d2, e2, _, p2, q2⟩ := among_ s hs a1 d1 [1990, 2000, 2010, 2200, v1] (by simp) (by omega) (by omega)
  unfold spec_l1Cur_yearOf.f
  rw [e1]; simp only [Option.bind_some]; rw [e2]
  exact ⟨_, _, _, rfl, by show a ≤ a2; omega, by show a2 ≤ a + 10; omega⟩
theorem namePlace_ (s : List Int) (hs : Bytes s) (a d : Int) (h0 : 0 ≤ a) (h1 : a ≤ 100000000000) : ∃ v a' d', spec_l1Cur_namePlace.f s a d = some (v, a', d') ∧ a ≤ a' ∧ a' ≤ a + 10 := by
  obtain ⟨v1, a1, d1, e1, _, p1, q1⟩ := among_ s hs a d [3, (-1), 10] (by simp) h0 (by omega)
  obtain ⟨v2, a2, d2, e2, _, p2, q2⟩ := among_ s hs a1 d1 [0, 1, 1, 2, 9, v1] (by simp) (by omega) (by omega)
  unfold spec_l1Cur_namePlace.f
  rw [e1]; simp only [Option.bind_some]; rw [e2]
  exact ⟨_, _, _, rfl, by show a ≤ a2; omega, by show a2 ≤ a + 10; omega⟩
end Go.Proofs.Ytgapcmmhbegdeaa.MDrawP
end
section
/- What FnNames draws. No condition. -/
namespace Go.Proofs.Ytgapcmmhbegdeaa.MDrawN
open Go.RowKit Go.Proofs.Ytgapcmmhbegdeaa.G Go.Proofs.YtgapcmmhbegdeaaW.PrintWords Go.Proofs.YtgapcmmhbegdeaaW.PrintLast Go.Proofs.Ytgapcmmhbegdeaa.MPure Go.Proofs.Ytgapcmmhbegdeaa.MWord Go.Proofs.Ytgapcmmhbegdeaa.MPerson Go.Proofs.Ytgapcmmhbegdeaa.MDraw Go.Proofs.Ytgapcmmhbegdeaa.MDrawP

theorem in_ (s : List Int) (hs : Bytes s) (a d n1 n2 n3 : Int) (h0 : 0 ≤ a) (h1 : a ≤ 100000000000) : ∃ v a' d', ((spec_l1Cur_pick.f s a d n1).bind fun x => ((spec_l1Cur_pick.f s x.2.1 x.2.2 n1).bind fun y => ((spec_l1Cur_among.f s y.2.1 y.2.2 (([0, n3, (-1)] : List Int))).bind fun z => ((spec_l1Cur_among.f s z.2.1 z.2.2 (([0, x.1, y.1, n2, z.1] : List Int))).bind fun u => (some (u.1, u.2.1, u.2.2)))))) = some (v, a', d') ∧ a ≤ a' ∧ a' ≤ a + 10 := by
  obtain ⟨v1, a1, d1, e1, -, -, -, p1, q1⟩ := pick_ s hs a d n1 h0 (by omega)
  obtain ⟨v2, a2, d2, e2, -, -, -, p2, q2⟩ := pick_ s hs a1 d1 n1 (by omega) (by omega)
  obtain ⟨v3, a3, d3, e3, -, p3, q3⟩ := among_ s hs a2 d2 [0, n3, (-1)] (by simp) (by omega) (by omega)
  obtain ⟨v4, a4, d4, e4, -, p4, q4⟩ := among_ s hs a3 d3 [0, v1, v2, n2, v3] (by simp) (by omega) (by omega)
  rw [e1]; simp only [Option.bind_some]; rw [e2]; simp only [Option.bind_some]; rw [e3]; simp only [Option.bind_some]; rw [e4]
  exact ⟨_, _, _, rfl, by show a ≤ a4; omega, by show a4 ≤ a + 10; omega⟩
theorem personIn_ (s : List Int) (hs : Bytes s) (a d : Int) (l : List PI) (h0 : 0 ≤ a) (h1 : a ≤ 100000000000) : ∃ v a' d', spec_l1Cur_personIn.f s a d l = some (v, a', d') ∧ a ≤ a' ∧ a' ≤ a + 10 := by
  exact in_ s hs a d _ _ _ h0 h1
theorem DrawSolveClashes_ (s : List Int) (hs : Bytes s) : ∃ l y, Ev (fun k => spec_DrawSolveClashes.f k s) (l, y) ∧ l.length ≤ 20 ∧ ShortP l := by
  obtain ⟨l, a1, d1, e1, hl, hS, p1, q1⟩ := people_ s hs 0 0 (by omega) (by omega)
  obtain ⟨v2, a2, d2, e2, p2, q2⟩ := yearOf_ s hs a1 d1 (by omega) (by omega)
  obtain ⟨v3, a3, d3, e3, _, p3, q3⟩ := among_ s hs a2 d2 [2000, 2010, 2200, v2] (by simp) (by omega) (by omega)
  exact ⟨l, v3, Ev.bind e1 (Ev.have e2 (Ev.have e3 (Ev.some rfl))), hl, hS⟩
theorem DrawNewName_ (s : List Int) (hs : Bytes s) : ∃ l n a y, Ev (fun k => spec_DrawNewName.f k s) (l, n, a, y) ∧ l.length ≤ 20 ∧ ShortP l ∧ n.size ≤ 100 := by
  obtain ⟨l, a1, d1, e1, hl, hS, p1, q1⟩ := people_ s hs 0 0 (by omega) (by omega)
  obtain ⟨v2, a2, d2, e2, hn, p2, q2⟩ := personName_ s hs a1 d1 (by omega) (by omega)
  obtain ⟨v3, a3, d3, e3, p3, q3⟩ := letterOf_ s hs a2 d2 (by omega) (by omega)
  obtain ⟨v4, a4, d4, e4, p4, q4⟩ := yearOf_ s hs a3 d3 (by omega) (by omega)
  exact ⟨l, v2, v3, v4, Ev.bind e1 (Ev.have e2 (Ev.have e3 (Ev.have e4 (Ev.some rfl)))), hl, hS, hn⟩
theorem DrawRenamePerson_ (s : List Int) (hs : Bytes s) : ∃ l i a b y, Ev (fun k => spec_DrawRenamePerson.f k s) (l, i, a, b, y) ∧ l.length ≤ 20 ∧ ShortP l := by
  obtain ⟨l, a1, d1, e1, hl, hS, p1, q1⟩ := people_ s hs 0 0 (by omega) (by omega)
  obtain ⟨v2, a2, d2, e2, p2, q2⟩ := personIn_ s hs a1 d1 l (by omega) (by omega)
  obtain ⟨v3, a3, d3, e3, p3, q3⟩ := letterOf_ s hs a2 d2 (by omega) (by omega)
  obtain ⟨v4, a4, d4, e4, p4, q4⟩ := namePlace_ s hs a3 d3 (by omega) (by omega)
  obtain ⟨v5, a5, d5, e5, p5, q5⟩ := yearOf_ s hs a4 d4 (by omega) (by omega)
  exact ⟨l, v2, v3, v4, v5, Ev.bind e1 (Ev.have e2 (Ev.have e3 (Ev.have e4 (Ev.have e5 (Ev.some rfl))))), hl, hS⟩
end Go.Proofs.Ytgapcmmhbegdeaa.MDrawN
end
section
/- The laws' comparison of lists of numbers and of lists of lists: a list is like itself; whether a number is in a list. No condition. -/
namespace Go.Proofs.Ytgapcmmhbegdeaa.MQLists
open Go.RowKit Go.Proofs.Ytgapcmmhbegdeaa.G Go.Proofs.YtgapcmmhbegdeaaW.PrintWords Go.Proofs.YtgapcmmhbegdeaaW.PrintLast Go.Proofs.Ytgapcmmhbegdeaa.MPure

theorem sameInts_ (l : List Int) (hl : l.length ≤ 140737488351232) : Ev (fun k => laws_sameInts.f k l l) true := by
  unfold laws_sameInts.f
  refine Ev.pos rfl ?_
  have h := loop_all0 (L := fun k i => laws_sameInts.l0 k l l (l.length : Int) i) l.length (fun _ => true) true (Ev.step (fun _ => laws_sameInts.l0.eq_2 ..) (Ev.neg (by omega) (Ev.some rfl)))
    (fun i hi _ r ih => by
      rw [← wrap_succ (by omega)] at ih
      exact Ev.step (fun _ => laws_sameInts.l0.eq_2 ..) (Ev.pos (by omega) (Ev.pos (by omega) (Ev.pos (by omega) (Ev.pos (by omega) (Ev.pos rfl ih))))))
    (fun _ _ h => by cases h)
  exact Ev.eq h (by simp)
theorem sameLists_ (l : List (List Int)) (hl : l.length ≤ 140737488351232) (h2 : ∀ x, x ∈ l → x.length ≤ 140737488351232) : Ev (fun k => laws_sameLists.f k l l) true := by
  unfold laws_sameLists.f
  refine Ev.pos rfl ?_
  have h := loop_all0 (L := fun k i => laws_sameLists.l0 k l l (l.length : Int) i) l.length (fun _ => true) true (Ev.step (fun _ => laws_sameLists.l0.eq_2 ..) (Ev.neg (by omega) (Ev.some rfl)))
    (fun i hi _ r ih => by
      rw [← wrap_succ (by omega)] at ih
      have hm : (l.getD i []) ∈ l := by
        rw [List.getD_eq_getElem?_getD, List.getElem?_eq_getElem hi]
        exact List.getElem_mem _
      exact Ev.step (fun _ => laws_sameLists.l0.eq_2 ..) (Ev.pos (by omega) (Ev.pos (by omega) (Ev.pos (by omega) (Ev.pos (by omega) (Ev.bind (sameInts_ _ (h2 _ hm)) (Ev.pos rfl ih)))))))
    (fun _ _ h => by cases h)
  exact Ev.eq h (by simp)
end Go.Proofs.Ytgapcmmhbegdeaa.MQLists
end
section
/- The laws' comparison of people: a list is like itself; whether a number is in a list. No condition. -/
namespace Go.Proofs.Ytgapcmmhbegdeaa.MQPeople
open Go.RowKit Go.Proofs.Ytgapcmmhbegdeaa.G Go.Proofs.YtgapcmmhbegdeaaW.PrintWords Go.Proofs.YtgapcmmhbegdeaaW.PrintLast Go.Proofs.Ytgapcmmhbegdeaa.MPure Go.Proofs.Ytgapcmmhbegdeaa.MWord Go.Proofs.Ytgapcmmhbegdeaa.MPerson

theorem pSamePeople_ (l : List PI) (hl : l.length ≤ 140737488351232) : Ev (fun k => laws_pSamePeople.f k l l) true := by
  unfold laws_pSamePeople.f
  refine Ev.pos rfl ?_
  have h := loop_all0 (L := fun k i => laws_pSamePeople.l0 k l l (l.length : Int) i) l.length (fun _ => true) true (Ev.step (fun _ => laws_pSamePeople.l0.eq_2 ..) (Ev.neg (by omega) (Ev.some rfl)))
    (fun i hi _ r ih => by
      rw [← wrap_succ (by omega)] at ih
      exact Ev.step (fun _ => laws_pSamePeople.l0.eq_2 ..) (Ev.pos (by omega) (Ev.pos (by omega) (Ev.pos (by omega) (Ev.pos (by omega) (Ev.neg (by simp) ih))))))
    (fun _ _ h => by cases h)
  exact Ev.eq h (by simp)
end Go.Proofs.Ytgapcmmhbegdeaa.MQPeople
end
