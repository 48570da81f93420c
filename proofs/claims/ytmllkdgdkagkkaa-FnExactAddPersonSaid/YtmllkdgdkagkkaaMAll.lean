/- Plain laws of the functions that the claim's functions call: what they compute, with no program in sight. No condition. -/
import Derived.Test.YtmllkdgdkagkkaaWAll
import Derived.Lib.Bytealg
import Derived.Test.YtmllkdgdkagkkaaG6
import Derived.Test.YtmllkdgdkagkkaaG0
import Derived.Test.YtmllkdgdkagkkaaG19
import Derived.Test.YtmllkdgdkagkkaaG20
import Derived.Test.YtmllkdgdkagkkaaG21
import Derived.Test.YtmllkdgdkagkkaaG22
import Derived.Test.YtmllkdgdkagkkaaG24
import Derived.Test.YtmllkdgdkagkkaaG25
import Derived.Test.YtmllkdgdkagkkaaG3
import Derived.Test.YtmllkdgdkagkkaaG28
section
/- Plain lemmas on rounds, lists and numbers, for the laws' pure statements: no program in sight. -/
namespace Go.Proofs.Ytmllkdgdkagkkaa.MPure
open Go.RowKit Go.Proofs.YtmllkdgdkagkkaaW.PrintWords Go.Proofs.YtmllkdgdkagkkaaW.PrintLast

theorem Ev.pos {α : Type} {c : Prop} [Decidable c] {f g : Nat → Option α} {r : α} (h : c) (k : Ev f r) : Ev (fun n => if c then f n else g n) r := by
  simpa only [if_pos h] using k
theorem Ev.neg {α : Type} {c : Prop} [Decidable c] {f g : Nat → Option α} {r : α} (h : ¬ c) (k : Ev g r) : Ev (fun n => if c then f n else g n) r := by
  simpa only [if_neg h] using k
theorem Ev.some {α : Type} {a r : α} (h : a = r) : Ev (fun _ => Option.some a) r := h ▸ Ev.now a
theorem Ev.have {α β : Type} {a : Option α} {x : α} {f : Nat → α → Option β} {r : β} (h : a = .some x) (k : Ev (fun n => f n x) r) : Ev (fun n => a.bind (f n)) r := by
  subst h
  exact k
theorem Ev.ite {α : Type} {c : Prop} [Decidable c] {f g : Nat → Option α} {r : α} (h : c → Ev f r) (k : ¬ c → Ev g r) : Ev (fun n => if c then f n else g n) r := by
  by_cases hc : c
  · exact Ev.pos hc (h hc)
  · exact Ev.neg hc (k hc)
theorem Ev.eq {α : Type} {g : Nat → Option α} {a r : α} (k : Ev g a) (h : a = r) : Ev g r := h ▸ k
theorem wrap_in {n : Int} (h : -9223372036854775808 ≤ n) (h' : n ≤ 9223372036854775807) : wrap64 n = n := by unfold wrap64; omega
theorem wrap_succ {i : Nat} (h : i ≤ 9223372036854775806) : wrap64 ((i : Int) + 1) = ((i + 1 : Nat) : Int) := by unfold wrap64; omega
theorem wrap_pred {i : Nat} (h0 : 0 < i) (h : i ≤ 9223372036854775806) : wrap64 ((i : Int) - 1) = ((i - 1 : Nat) : Int) := by unfold wrap64; omega
/-- A loop that stops with 'false' at the first place at which p does not hold, and answers e behind the last one. -/
theorem loop_all {L : Nat → Int → Option Bool} (n : Nat) (p : Nat → Bool) (e : Bool) (hend : Ev (fun k => L k (n : Int)) e)
    (hyes : ∀ i : Nat, i < n → p i = true → ∀ r, Ev (fun k => L k ((i + 1 : Nat) : Int)) r → Ev (fun k => L k (i : Int)) r) (hno : ∀ i : Nat, i < n → p i = false → Ev (fun k => L k (i : Int)) false) :
    ∀ d i : Nat, i + d = n → Ev (fun k => L k (i : Int)) ((List.range' i d).all p && e)
  | 0, i, h => by
    have : i = n := by omega
    subst this
    simpa using hend
  | d + 1, i, h => by
    have hi : i < n := by omega
    cases hp : p i with
    | true =>
      have ih := loop_all n p e hend hyes hno d (i + 1) (by omega)
      have := hyes i hi hp _ ih
      simpa [List.range'_succ, hp] using this
    | false =>
      have := hno i hi hp
      simpa [List.range'_succ, hp] using this
/-- The same from its begin. -/
theorem loop_all0 {L : Nat → Int → Option Bool} (n : Nat) (p : Nat → Bool) (e : Bool) (hend : Ev (fun k => L k (n : Int)) e)
    (hyes : ∀ i : Nat, i < n → p i = true → ∀ r, Ev (fun k => L k ((i + 1 : Nat) : Int)) r → Ev (fun k => L k (i : Int)) r) (hno : ∀ i : Nat, i < n → p i = false → Ev (fun k => L k (i : Int)) false) :
    Ev (fun k => L k 0) ((List.range n).all p && e) := by
  have h := loop_all n p e hend hyes hno n 0 (by omega)
  rw [← List.range_eq_range'] at h
  exact h

theorem all_congr {n : Nat} {p q : Nat → Bool} (h : ∀ i, i < n → p i = q i) : (List.range n).all p = (List.range n).all q := by
  rw [Bool.eq_iff_iff]
  simp only [List.all_eq_true, List.mem_range]
  constructor
  · exact fun H i hi => by rw [← h i hi]; exact H i hi
  · exact fun H i hi => by rw [h i hi]; exact H i hi

/-- A list that is filled from its begin. -/
theorem set_fill {α : Type} {xs ys : List α} (h : ys.length = xs.length) {i : Nat} (hi : i < xs.length) : (xs.take i ++ ys.drop i).set i xs[i] = xs.take (i + 1) ++ ys.drop (i + 1) := by
  rw [List.set_append, if_neg (by simp; omega)]
  have : i - (List.take i xs).length = 0 := by simp; omega
  rw [this, List.drop_eq_getElem_cons (show i < ys.length by omega), List.set_cons_zero, List.take_succ_eq_append_getElem hi, List.append_assoc]
  rfl
theorem fill_all {α : Type} {xs ys : List α} (h : ys.length = xs.length) {i : Nat} (hi : xs.length ≤ i) : xs.take i ++ ys.drop i = xs := by
  rw [List.take_of_length_le hi, List.drop_of_length_le (by omega), List.append_nil]
theorem fill_length {α : Type} {xs ys : List α} (h : ys.length = xs.length) (i : Nat) : (xs.take i ++ ys.drop i).length = xs.length := by
  simp; omega
end Go.Proofs.Ytmllkdgdkagkkaa.MPure
end
section
/- Words: what the printed functions on texts of some letters come to. -/
namespace Go.Proofs.Ytmllkdgdkagkkaa.MWord
open Go.RowKit Go.Proofs.Ytmllkdgdkagkkaa.G Go.Proofs.YtmllkdgdkagkkaaW.PrintWords Go.Proofs.YtmllkdgdkagkkaaW.PrintLast Go.Proofs.Ytmllkdgdkagkkaa.MPure

/-- 1 to 8 bytes, of each of which p holds. -/
def wordB (p : Int → Bool) (s : ByteArray) : Bool := (List.range s.size).all (fun i => p (bt s (i : Int))) && decide (1 ≤ (s.size : Int) ∧ (s.size : Int) ≤ 8)
theorem l1In_ (a b c : Int) : spec_l1In.f a b c = some (decide (b ≤ a ∧ a ≤ c)) := by
  unfold spec_l1In.f
  by_cases h : a ≥ b
  · rw [if_pos h]; simp [show b ≤ a from h]
  · rw [if_neg h]; simp [show ¬ b ≤ a from h]
theorem within_ (a b c : Int) : impl_within.f a b c = some (decide (b ≤ a ∧ a ≤ c)) := by
  unfold impl_within.f
  by_cases h : a ≥ b
  · rw [if_pos h]; simp [show b ≤ a from h]
  · rw [if_neg h]; simp [show ¬ b ≤ a from h]

/-- Which bytes are among some letters. -/
def amongB (ls : ByteArray) (c : Int) : Bool := decide (0 ≤ Lib.indexByte ls.data.toList c.toNat.toUInt8)
theorem hasOnly_ (s ls : ByteArray) (hs : s.size ≤ 140737488351232) : Ev (fun k => impl_hasOnly.f k s ls) ((List.range s.size).all (fun i => amongB ls (bt s (i : Int)))) := by
  refine Ev.eq (loop_all0 (L := fun k i => impl_hasOnly.l0 k s ls (s.size : Int) i) s.size (fun i => amongB ls (bt s (i : Int))) true ?_ ?_ ?_) (Bool.and_true _)
  · refine Ev.step (f := fun _ => _) (fun k => ?_) (Ev.some rfl)
    simp only [impl_hasOnly.l0]
    rw [if_neg (by omega)]
  · intro i hi hp r hr
    refine Ev.step (f := fun k => impl_hasOnly.l0 k s ls (s.size : Int) ((i + 1 : Nat) : Int)) (fun k => ?_) hr
    simp only [amongB, decide_eq_true_eq] at hp
    simp only [impl_hasOnly.l0, strings_IndexByte.f, Option.bind_some]
    rw [if_pos (by omega), if_pos (by omega), if_pos (by omega), if_neg (by omega), wrap_succ (by omega)]
  · intro i hi hp
    refine Ev.step (f := fun k => some false) (fun k => ?_) (Ev.some rfl)
    simp only [amongB, decide_eq_false_iff_not] at hp
    simp only [impl_hasOnly.l0, strings_IndexByte.f, Option.bind_some]
    rw [if_pos (by omega), if_pos (by omega), if_pos (by omega), if_pos (by omega)]
theorem isWordOf_ (s ls : ByteArray) (hs : s.size ≤ 140737488351232) : Ev (fun k => impl_isWordOf.f k s ls) (wordB (amongB ls) s) := by
  unfold impl_isWordOf.f
  refine Ev.have (within_ _ _ _) (Ev.ite (fun h => ?_) (fun h => ?_))
  · refine Ev.bind (hasOnly_ s ls hs) (Ev.some ?_)
    simp only [wordB]
    rw [h, Bool.and_true]
  · refine Ev.some ?_
    simp only [wordB]
    rw [Bool.eq_false_iff.2 h, Bool.and_false]
theorem wordB_congr {p q : Int → Bool} (h : ∀ c, 0 ≤ c → c ≤ 255 → p c = q c) (s : ByteArray) : wordB p s = wordB q s := by
  unfold wordB
  rw [all_congr (fun i _ => h _ (bt_range s _).1 (bt_range s _).2)]
end Go.Proofs.Ytmllkdgdkagkkaa.MWord
end
section
/- What the printed functions on persons come to, by numbers and lists alone: names, persons, people, the copies and the comparison that the exact laws use. -/
namespace Go.Proofs.Ytmllkdgdkagkkaa.MPerson
open Go.RowKit Go.Proofs.Ytmllkdgdkagkkaa.G Go.Proofs.YtmllkdgdkagkkaaW.PrintWords Go.Proofs.YtmllkdgdkagkkaaW.PrintLast Go.Proofs.Ytmllkdgdkagkkaa.MPure Go.Proofs.Ytmllkdgdkagkkaa.MWord

abbrev PI := S76
abbrev PL := S72
def atP (l : List PI) (i : Nat) : PI := l.getD i z76
theorem atP_mem {l : List PI} {i : Nat} (h : i < l.length) : atP l i ∈ l := by
  unfold atP
  rw [List.getD_eq_getElem?_getD, List.getElem?_eq_getElem h]
  exact List.getElem_mem h
def SizedP (l : List PI) : Prop := l.length ≤ 140737488351232 ∧ ∀ x, x ∈ l → x.f0.size ≤ 140737488351232
def smallB (c : Int) : Bool := decide (97 ≤ c ∧ c ≤ 122)
theorem smalls (c : Int) (h0 : 0 ≤ c) (h1 : c ≤ 255) : amongB (⟨#[97, 98, 99, 100, 101, 102, 103, 104, 105, 106, 107, 108, 109, 110, 111, 112, 113, 114, 115, 116, 117, 118, 119, 120, 121, 122]⟩ : ByteArray) c = smallB c := by
  have key : ∀ n : Nat, n < 256 → amongB (⟨#[97, 98, 99, 100, 101, 102, 103, 104, 105, 106, 107, 108, 109, 110, 111, 112, 113, 114, 115, 116, 117, 118, 119, 120, 121, 122]⟩ : ByteArray) (n : Int) = smallB (n : Int) := by decide +kernel
  obtain ⟨n, rfl⟩ := Int.eq_ofNat_of_zero_le h0
  exact key n (by omega)
def letterB (n : Int) : Bool := decide (0 ≤ n ∧ n ≤ 25)
def placeB (n : Int) : Bool := decide (0 ≤ n ∧ n ≤ 9)
def yearB (n : Int) : Bool := decide (1800 ≤ n ∧ n ≤ 2200)
def personB (s : ByteArray) (a b c : Int) : Bool := wordB smallB s && letterB a && placeB b && yearB c
theorem naLetter_ (a : Int) : spec_naLetter.f a = some (letterB a) := by
  unfold spec_naLetter.f
  rw [l1In_]
  rfl
theorem naPlace_ (a : Int) : spec_naPlace.f a = some (placeB a) := by
  unfold spec_naPlace.f
  rw [l1In_]
  rfl
theorem naYear_ (a : Int) : spec_naYear.f a = some (yearB a) := by
  unfold spec_naYear.f
  rw [l1In_]
  rfl
theorem isYear_ (a : Int) : impl_isYear.f a = some (yearB a) := by
  unfold impl_isYear.f
  rw [within_]
  rfl
theorem naName_ (s : ByteArray) (hs : s.size ≤ 140737488351232) : Ev (fun k => spec_naName.f k s) (wordB smallB s) := by
  refine loop_all0 (L := fun k i => spec_naName.l0 k s i) s.size (fun i => smallB (bt s (i : Int))) _ ?_ ?_ ?_
  · exact Ev.step (fun _ => spec_naName.l0.eq_2 ..) (Ev.neg (by omega) (Ev.have (l1In_ _ _ _) (Ev.some rfl)))
  · intro i hi hp r hr
    simp only [smallB, decide_eq_true_eq] at hp
    rw [← wrap_succ (by omega)] at hr
    exact Ev.step (fun _ => spec_naName.l0.eq_2 ..) (Ev.pos (by omega) (Ev.pos (by omega) (Ev.neg (by omega) (Ev.neg (by omega) hr))))
  · intro i hi hp
    simp only [smallB, decide_eq_false_iff_not] at hp
    exact Ev.step (fun _ => spec_naName.l0.eq_2 ..) (Ev.pos (by omega) (Ev.pos (by omega) (Ev.ite (fun _ => Ev.some rfl) (fun _ => Ev.pos (by omega) (Ev.some rfl)))))
theorem naOne_ (s : ByteArray) (a b c : Int) (hs : s.size ≤ 140737488351232) : Ev (fun k => spec_naOne.f k s a b c) (personB s a b c) := by
  unfold spec_naOne.f personB
  refine Ev.bind (naName_ s hs) (Ev.ite (fun h1 => ?_) (fun h1 => Ev.some (by simp [h1])))
  refine Ev.have (naLetter_ a) (Ev.ite (fun h2 => ?_) (fun h2 => Ev.some (by simp [h2])))
  refine Ev.have (naPlace_ b) (Ev.ite (fun h3 => ?_) (fun h3 => Ev.some (by simp [h3])))
  exact Ev.have (naYear_ c) (Ev.some (by simp [h1, h2, h3]))
theorem IsPerson_ (s : ByteArray) (a b c : Int) (hs : s.size ≤ 140737488351232) : Ev (fun k => impl_IsPerson.f k s a b c) (personB s a b c) := by
  unfold impl_IsPerson.f personB
  refine Ev.bind (Ev.eq (isWordOf_ s _ hs) (wordB_congr smalls s)) (Ev.ite (fun h1 => ?_) (fun h1 => Ev.some (by simp [h1])))
  refine Ev.have (within_ a _ _) (Ev.ite (fun h2 => ?_) (fun h2 => Ev.some (by rw [show letterB a = false from Bool.eq_false_iff.2 h2]; simp)))
  refine Ev.have (within_ b _ _) (Ev.ite (fun h3 => ?_) (fun h3 => Ev.some (by rw [show placeB b = false from Bool.eq_false_iff.2 h3]; simp)))
  exact Ev.have (isYear_ c) (Ev.some (by rw [show letterB a = true from h2, show placeB b = true from h3]; simp [h1]))
def lessB (a b : ByteArray) : Bool := Op.bytesLess a.toList b.toList
def peopleP (l : List PI) (i : Nat) : Bool := personB (atP l i).f0 (atP l i).f1 (atP l i).f2 (atP l i).f3 && (decide (i = 0) || lessB (atP l (i - 1)).f0 (atP l i).f0)
def peopleB (l : List PI) : Bool := (List.range l.length).all (peopleP l) && decide ((l.length : Int) ≤ 10)
theorem naGood_ (l : List PI) (hl : SizedP l) : Ev (fun k => spec_naGood.f k l) (peopleB l) := by
  obtain ⟨hn, hs⟩ := hl
  refine loop_all0 (L := fun k i => spec_naGood.l0 k l l (l.length : Int) i) l.length (peopleP l) _ ?_ ?_ ?_
  · exact Ev.step (fun _ => spec_naGood.l0.eq_2 ..) (Ev.neg (by omega) (Ev.some rfl))
  · intro i hi hp r hr
    simp only [peopleP, Bool.and_eq_true] at hp
    rw [← wrap_succ (by omega)] at hr
    refine Ev.step (fun _ => spec_naGood.l0.eq_2 ..) (Ev.pos (by omega) (Ev.pos (by omega) (Ev.pos (by omega) (Ev.bind (naOne_ _ _ _ _ (hs _ (atP_mem hi))) (Ev.pos hp.1 (Ev.ite (fun h0 => ?_) (fun h0 => hr)))))))
    rw [wrap_pred (by omega) (by omega)]
    refine Ev.pos (by omega) (Ev.pos (by omega) (Ev.pos ?_ hr))
    have := hp.2
    simp only [Bool.or_eq_true, decide_eq_true_eq] at this
    rcases this with h | h
    · omega
    · exact h
  · intro i hi hp
    refine Ev.step (fun _ => spec_naGood.l0.eq_2 ..) (Ev.pos (by omega) (Ev.pos (by omega) (Ev.pos (by omega) (Ev.bind (naOne_ _ _ _ _ (hs _ (atP_mem hi))) (Ev.ite (fun h1 => ?_) (fun _ => Ev.some rfl))))))
    simp only [peopleP, Bool.and_eq_false_iff, Bool.or_eq_false_iff, decide_eq_false_iff_not] at hp
    rcases hp with hp | ⟨hp, hq⟩
    · exact absurd (h1.symm.trans hp) (by decide)
    · refine Ev.pos (by omega) ?_
      rw [wrap_pred (by omega) (by omega)]
      exact Ev.pos (by omega) (Ev.pos (by omega) (Ev.neg (Bool.eq_false_iff.1 hq) (Ev.some rfl)))
theorem ArePeople_ (l : List PI) (hl : SizedP l) : Ev (fun k => impl_ArePeople.f k l) (peopleB l) := by
  obtain ⟨hn, hs⟩ := hl
  refine loop_all0 (L := fun k i => impl_ArePeople.l0 k l l (l.length : Int) i) l.length (peopleP l) _ ?_ ?_ ?_
  · exact Ev.step (fun _ => impl_ArePeople.l0.eq_2 ..) (Ev.neg (by omega) (Ev.some rfl))
  · intro i hi hp r hr
    simp only [peopleP, Bool.and_eq_true] at hp
    rw [← wrap_succ (by omega)] at hr
    refine Ev.step (fun _ => impl_ArePeople.l0.eq_2 ..) (Ev.pos (by omega) (Ev.pos (by omega) (Ev.pos (by omega) (Ev.bind (IsPerson_ _ _ _ _ (hs _ (atP_mem hi))) (Ev.pos hp.1 (Ev.ite (fun h0 => ?_) (fun h0 => hr)))))))
    rw [wrap_pred (by omega) (by omega)]
    refine Ev.pos (by omega) (Ev.pos (by omega) (Ev.pos ?_ hr))
    have := hp.2
    simp only [Bool.or_eq_true, decide_eq_true_eq] at this
    rcases this with h | h
    · omega
    · exact h
  · intro i hi hp
    refine Ev.step (fun _ => impl_ArePeople.l0.eq_2 ..) (Ev.pos (by omega) (Ev.pos (by omega) (Ev.pos (by omega) (Ev.bind (IsPerson_ _ _ _ _ (hs _ (atP_mem hi))) (Ev.ite (fun h1 => ?_) (fun _ => Ev.some rfl))))))
    simp only [peopleP, Bool.and_eq_false_iff, Bool.or_eq_false_iff, decide_eq_false_iff_not] at hp
    rcases hp with hp | ⟨hp, hq⟩
    · exact absurd (h1.symm.trans hp) (by decide)
    · refine Ev.pos (by omega) ?_
      rw [wrap_pred (by omega) (by omega)]
      exact Ev.pos (by omega) (Ev.pos (by omega) (Ev.neg (Bool.eq_false_iff.1 hq) (Ev.some rfl)))

/-! ### what the exact laws do with persons: sizes, copies, comparison -/
def convP (x : PL) : PI := ⟨x.f0, x.f1, x.f2, x.f3⟩
def GivenP (l : List PL) : Prop := (∀ a_, a_ ∈ l → gT72 a_) ∧ l.length * 40 ≤ 140737488351232
theorem GivenP.sized {l : List PL} (h : GivenP l) : SizedP (l.map convP) := by
  obtain ⟨h1, h2⟩ := h
  refine ⟨by rw [List.length_map]; omega, fun x hx => ?_⟩
  obtain ⟨y, hy, rfl⟩ := List.mem_map.1 hx
  exact (h1 y hy).1
theorem toPersonS_ (l : List PL) (hl : l.length * 40 ≤ 140737488351232) : Ev (fun k => laws_toPersonS.f k l) (l.map convP) := by
  have key : ∀ d i : Nat, i + d = l.length → Ev (fun k => laws_toPersonS.l0 k l ((l.map convP).take i ++ (List.replicate l.length z76).drop i) (i : Int)) (l.map convP) := by
    intro d
    induction d with
    | zero =>
      intro i hi
      exact Ev.step (fun _ => laws_toPersonS.l0.eq_2 ..) (Ev.neg (by omega) (Ev.some (fill_all (by simp) (by simp; omega))))
    | succ d ih =>
      intro i hi
      refine Ev.step (fun _ => laws_toPersonS.l0.eq_2 ..) (Ev.pos (by omega) (Ev.pos (by omega) (Ev.have rfl (Ev.pos ?_ ?_))))
      · rw [fill_length (by simp), List.length_map]; omega
      · rw [wrap_succ (by omega)]
        have e : ((l.map convP).take i ++ (List.replicate l.length z76).drop i).set i ((l.map convP)[i]'(by simp; omega)) = (l.map convP).take (i + 1) ++ (List.replicate l.length z76).drop (i + 1) := set_fill (by simp) (by simp; omega)
        have e2 : (l.map convP)[i]'(by simp; omega) = (⟨(rd_T72 l (i : Int)).f0, (rd_T72 l (i : Int)).f1, (rd_T72 l (i : Int)).f2, (rd_T72 l (i : Int)).f3⟩ : PI) := by
          have : rd_T72 l (i : Int) = l[i]'(by omega) := by
            show l.getD i z72 = _
            rw [List.getD_eq_getElem?_getD, List.getElem?_eq_getElem (by omega)]
            rfl
          rw [this, List.getElem_map]
          rfl
        rw [e2] at e
        have := ih (i + 1) (by omega)
        rw [← e] at this
        exact this
  unfold laws_toPersonS.f
  refine Ev.pos (by omega) (Ev.pos (by omega) ?_)
  have := key l.length 0 (by omega)
  exact this
theorem eqPerson_ (a : PI) : laws_eqPerson.f a.f0 a.f1 a.f2 a.f3 a.f0 a.f1 a.f2 a.f3 = some true := by
  unfold laws_eqPerson.f
  rw [if_pos rfl, if_pos rfl, if_pos rfl, if_pos rfl]
theorem eqPersonS_ (l : List PI) (hl : l.length ≤ 140737488351232) : Ev (fun k => laws_eqPersonS.f k l l) true := by
  unfold laws_eqPersonS.f
  refine Ev.pos rfl ?_
  have h := loop_all0 (L := fun k i => laws_eqPersonS.l0 k l l i) l.length (fun _ => true) true ?_ ?_ ?_
  · exact Ev.eq h (by simp)
  · exact Ev.step (fun _ => laws_eqPersonS.l0.eq_2 ..) (Ev.neg (by omega) (Ev.some rfl))
  · intro i hi _ r hr
    refine Ev.step (fun _ => laws_eqPersonS.l0.eq_2 ..) (Ev.pos (by omega) (Ev.pos (by omega) (Ev.pos (by omega) (Ev.have (eqPerson_ _) (Ev.pos rfl ?_)))))
    rw [wrap_succ (by omega)]
    exact hr
  · intro i _ h
    cases h
theorem szPerson_ (g : ByteArray) (a b c : Int) (hg : g.size ≤ 140737488351232) (n : Int) (h0 : 0 ≤ n) (h1 : n ≤ 1048576) : laws_szPerson.f g a b c n = some (if n - (g.size : Int) < 0 then -1 else n - (g.size : Int)) := by
  unfold laws_szPerson.f
  rw [wrap_in (by omega) (by omega)]
  split <;> rfl
theorem szPersonS_ (l : List PL) (hl : GivenP l) (n : Int) (h0 : 0 ≤ n) (h1 : n ≤ 1048576) : ∃ z, Ev (fun k => laws_szPersonS.f k l n) z ∧ -1 ≤ z ∧ z ≤ n := by
  obtain ⟨hg, hn⟩ := hl
  have key : ∀ d i : Nat, i + d = l.length → ∀ z : Int, 0 ≤ z → z ≤ 1048576 → ∃ r, Ev (fun k => laws_szPersonS.l0 k l z (i : Int)) r ∧ -1 ≤ r ∧ r ≤ z := by
    intro d
    induction d with
    | zero =>
      intro i hi z h0 h1
      exact ⟨z, Ev.step (fun _ => laws_szPersonS.l0.eq_2 ..) (Ev.neg (by omega) (Ev.some rfl)), by omega, by omega⟩
    | succ d ih =>
      intro i hi z h0 h1
      have hm : rd_T72 l (i : Int) ∈ l := by
        show l.getD i z72 ∈ l
        rw [List.getD_eq_getElem?_getD, List.getElem?_eq_getElem (by omega)]
        exact List.getElem_mem _
      have hz := szPerson_ (rd_T72 l (i : Int)).f0 (rd_T72 l (i : Int)).f1 (rd_T72 l (i : Int)).f2 (rd_T72 l (i : Int)).f3 (hg _ hm).1 z h0 h1
      by_cases hneg : z - ((rd_T72 l (i : Int)).f0.size : Int) < 0
      · rw [if_pos hneg] at hz
        exact ⟨-1, Ev.step (fun _ => laws_szPersonS.l0.eq_2 ..) (Ev.pos (by omega) (Ev.pos (by omega) (Ev.have hz (Ev.pos (by decide) (Ev.some rfl))))), by omega, by omega⟩
      · rw [if_neg hneg] at hz
        obtain ⟨r, hr, h2, h3⟩ := ih (i + 1) (by omega) _ (Int.not_lt.1 hneg) (by omega)
        refine ⟨r, Ev.step (fun _ => laws_szPersonS.l0.eq_2 ..) (Ev.pos (by omega) (Ev.pos (by omega) (Ev.have hz (Ev.neg hneg ?_)))), h2, by omega⟩
        rw [wrap_succ (by omega)]
        exact hr
  unfold laws_szPersonS.f
  rw [wrap_in (by omega) (by omega)]
  by_cases hneg : n - (l.length : Int) < 0
  · exact ⟨-1, Ev.pos hneg (Ev.some rfl), by omega, by omega⟩
  · obtain ⟨r, hr, h2, h3⟩ := key l.length 0 (by omega) _ (Int.not_lt.1 hneg) (by omega)
    exact ⟨r, Ev.neg hneg hr, h2, by omega⟩
end Go.Proofs.Ytmllkdgdkagkkaa.MPerson
end
section
/- The law's marks as texts: what markText comes to (that it comes to some text, and always to the same). -/
namespace Go.Proofs.Ytmllkdgdkagkkaa.MText
open Go.RowKit Go.Proofs.Ytmllkdgdkagkkaa.G Go.Proofs.YtmllkdgdkagkkaaW.PrintWords Go.Proofs.YtmllkdgdkagkkaaW.PrintLast Go.Proofs.Ytmllkdgdkagkkaa.MPure

theorem one_size (x : Int) : (strOfNums [x]).size = 1 := rfl
theorem markText_loop : ∀ d : Nat, d ≤ 40 → ∀ (a : Int) (s : ByteArray), 0 ≤ a → a < 10 ^ d → a ≤ 4611686018427387904 → s.size + d ≤ 100 → ∃ t, Ev (fun k => laws_markText.l0 k a s) t := by
  intro d
  induction d with
  | zero =>
    intro _ a s h0 h1 _ hs
    refine ⟨_, Ev.step (fun _ => laws_markText.l0.eq_2 ..) (Ev.neg (by simp at h1; omega) (Ev.pos (by omega) (Ev.some rfl)))⟩
  | succ d ih =>
    intro hd a s h0 h1 hb hs
    by_cases hp : a > 0
    · have e : wrap64 (Int.tdiv a 10) = a / 10 := by
        rw [Int.tdiv_eq_ediv_of_nonneg h0, wrap_in (by omega) (by omega)]
      have hlt : a / 10 < 10 ^ d := by
        rw [Int.pow_succ] at h1
        omega
      obtain ⟨t, ht⟩ := ih (by omega) (a / 10) (strOfNums [wrap64 (48 + Int.tmod a 10) % 256] ++ s) (by omega) hlt (by omega) (by rw [ByteArray.size_append, one_size]; omega)
      refine ⟨t, Ev.step (fun _ => laws_markText.l0.eq_2 ..) (Ev.pos hp (Ev.have rfl (Ev.pos (by rw [one_size]; omega) ?_)))⟩
      rw [e]
      exact ht
    · exact ⟨_, Ev.step (fun _ => laws_markText.l0.eq_2 ..) (Ev.neg hp (Ev.pos (by omega) (Ev.some rfl)))⟩
theorem markText_any (a : Int) (h0 : 0 ≤ a) (h1 : a ≤ 4611686018427387904) : ∃ t, Ev (fun k => laws_markText.f k a) t := by
  unfold laws_markText.f
  by_cases h : a ≤ 0
  · exact ⟨_, Ev.pos h (Ev.some rfl)⟩
  · obtain ⟨t, ht⟩ := markText_loop 19 (by omega) a ⟨#[]⟩ h0 (by have : (10 : Int) ^ 19 = 10000000000000000000 := by decide
                                                                 omega) h1 (by decide)
    exact ⟨t, Ev.neg h ht⟩
/-- The text of a mark. -/
noncomputable def mt (a : Int) : ByteArray := if h : 0 ≤ a ∧ a ≤ 4611686018427387904 then Classical.choose (markText_any a h.1 h.2) else ⟨#[]⟩
theorem markText_ (a : Int) (h0 : 0 ≤ a) (h1 : a ≤ 4611686018427387904) : Ev (fun k => laws_markText.f k a) (mt a) := by
  unfold mt
  rw [dif_pos ⟨h0, h1⟩]
  exact Classical.choose_spec (markText_any a h0 h1)
end Go.Proofs.Ytmllkdgdkagkkaa.MText
end
section
/- The laws' marks on persons: what is written into a list of persons, and that it is found again. -/
namespace Go.Proofs.Ytmllkdgdkagkkaa.MMarkPP
open Go.RowKit Go.Proofs.Ytmllkdgdkagkkaa.G Go.Proofs.YtmllkdgdkagkkaaW.PrintWords Go.Proofs.YtmllkdgdkagkkaaW.PrintLast Go.Proofs.Ytmllkdgdkagkkaa.MPure Go.Proofs.Ytmllkdgdkagkkaa.MPerson Go.Proofs.Ytmllkdgdkagkkaa.MText

noncomputable def mkP (n : Int) (i : Nat) : PI := ⟨mt (n + 4 * i), n + 4 * i + 1, n + 4 * i + 2, n + 4 * i + 3⟩
noncomputable def marksP (n : Int) (m : Nat) : List PI := (List.range m).map (mkP n)
theorem marksP_length (n : Int) (m : Nat) : (marksP n m).length = m := by simp [marksP]
theorem marksP_get (n : Int) (m i : Nat) (h : i < m) : (marksP n m)[i]'(by rw [marksP_length]; exact h) = mkP n i := by simp [marksP]
theorem rd_setP (xs : List PI) (i : Nat) (v : PI) (h : i < xs.length) : rd_T76 (xs.set i v) (i : Int) = v := by
  show (xs.set i v).getD i z76 = v
  rw [List.getD_eq_getElem?_getD, List.getElem?_set_self h]
  rfl
theorem markPersonS_ (l : List PI) (hl : l.length ≤ 140737488351232) (n : Int) (h0 : 0 ≤ n) (h1 : n ≤ 1152921504606846976) : Ev (fun k => laws_markPersonS.f k l n) (n + 4 * l.length, marksP n l.length) := by
  have key : ∀ d i : Nat, i + d = l.length → Ev (fun k => laws_markPersonS.l0 k ((marksP n l.length).take i ++ l.drop i) (n + 4 * i) (i : Int)) (n + 4 * l.length, marksP n l.length) := by
    intro d
    induction d with
    | zero =>
      intro i hi
      have hlen := fill_length (xs := marksP n l.length) (ys := l) (by rw [marksP_length]) i
      rw [marksP_length] at hlen
      refine Ev.step (fun _ => laws_markPersonS.l0.eq_2 ..) (Ev.neg (by omega) (Ev.some ?_))
      rw [fill_all (by rw [marksP_length]) (by rw [marksP_length]; omega)]
      obtain rfl : i = l.length := by omega
      rfl
    | succ d ih =>
      intro i hi
      have hlen := fill_length (xs := marksP n l.length) (ys := l) (by rw [marksP_length]) i
      rw [marksP_length] at hlen
      have h := ih (i + 1) (by omega)
      have e1 : wrap64 (n + 4 * (i : Int) + 1) = n + 4 * i + 1 := wrap_in (by omega) (by omega)
      have e2 : wrap64 (n + 4 * (i : Int) + 1 + 1) = n + 4 * i + 2 := by rw [wrap_in (by omega) (by omega)]; omega
      have e3 : wrap64 (n + 4 * (i : Int) + 2 + 1) = n + 4 * i + 3 := by rw [wrap_in (by omega) (by omega)]; omega
      have e4 : wrap64 (n + 4 * (i : Int) + 3 + 1) = n + 4 * ((i + 1 : Nat) : Int) := by rw [wrap_in (by omega) (by omega)]; omega
      refine Ev.step (fun _ => laws_markPersonS.l0.eq_2 ..) (Ev.pos (by omega) (Ev.bind (markText_ _ (by omega) (by omega)) (Ev.pos (by omega) ?_)))
      generalize hx : (marksP n l.length).take i ++ l.drop i = x at hlen ⊢
      have hix : i < x.length := by omega
      rw [e1, e2, e3, e4, wrap_succ (by omega)]
      refine Ev.have rfl (Ev.have rfl (Ev.have rfl ?_))
      have ei : ((i : Int)).toNat = i := rfl
      rw [ei, rd_setP _ i _ hix]
      simp only [List.set_set]
      rw [rd_setP _ i _ hix]
      rw [rd_setP _ i _ hix, ← hx]
      have hs : ((marksP n l.length).take i ++ l.drop i).set i (mkP n i) = (marksP n l.length).take (i + 1) ++ l.drop (i + 1) := by
        rw [← marksP_get n l.length i (by omega)]
        exact set_fill (by rw [marksP_length]) (by rw [marksP_length]; omega)
      rw [← hs] at h
      exact h
  have h := key l.length 0 (by omega)
  unfold laws_markPersonS.f
  simpa using h
theorem heldPersonS_ (m : Nat) (hl : m ≤ 140737488351232) (n : Int) (h0 : 0 ≤ n) (h1 : n ≤ 1152921504606846976) : Ev (fun k => laws_heldPersonS.f k (marksP n m) n) (n + 4 * m) := by
  have key : ∀ d i : Nat, i + d = m → Ev (fun k => laws_heldPersonS.l0 k (marksP n m) (n + 4 * i) (i : Int)) (n + 4 * m) := by
    intro d
    induction d with
    | zero =>
      intro i hi
      obtain rfl : i = m := by omega
      exact Ev.step (fun _ => laws_heldPersonS.l0.eq_2 ..) (Ev.neg (by rw [marksP_length]; omega) (Ev.some rfl))
    | succ d ih =>
      intro i hi
      have h := ih (i + 1) (by omega)
      have e1 : wrap64 (n + 4 * (i : Int) + 1) = n + 4 * i + 1 := wrap_in (by omega) (by omega)
      have e2 : wrap64 (n + 4 * (i : Int) + 1 + 1) = n + 4 * i + 2 := by rw [wrap_in (by omega) (by omega)]; omega
      have e3 : wrap64 (n + 4 * (i : Int) + 2 + 1) = n + 4 * i + 3 := by rw [wrap_in (by omega) (by omega)]; omega
      have e4 : wrap64 (n + 4 * (i : Int) + 3 + 1) = n + 4 * ((i + 1 : Nat) : Int) := by rw [wrap_in (by omega) (by omega)]; omega
      have er : rd_T76 (marksP n m) (i : Int) = mkP n i := by
        show (marksP n m).getD i z76 = _
        rw [List.getD_eq_getElem?_getD, List.getElem?_eq_getElem (by rw [marksP_length]; omega), marksP_get n m i (by omega)]
        rfl
      refine Ev.step (fun _ => laws_heldPersonS.l0.eq_2 ..) (Ev.pos (by rw [marksP_length]; omega) (Ev.pos (by omega) (Ev.bind (markText_ _ (by omega) (by omega)) ?_)))
      rw [e1, e2, e3, e4, wrap_succ (by omega), er]
      exact Ev.pos rfl (Ev.pos rfl (Ev.pos rfl (Ev.pos rfl h)))
  have h := key m 0 (by omega)
  unfold laws_heldPersonS.f
  simpa using h
end Go.Proofs.Ytmllkdgdkagkkaa.MMarkPP
end
