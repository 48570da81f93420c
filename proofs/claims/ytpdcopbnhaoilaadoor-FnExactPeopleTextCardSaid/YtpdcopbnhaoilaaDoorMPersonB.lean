/- What the printed functions on persons come to, by numbers and lists alone: names, persons, people. -/
import Derived.Test.YtpdcopbnhaoilaaDoorG0
import Derived.Test.YtpdcopbnhaoilaaDoorG2
import Derived.Test.YtpdcopbnhaoilaaDoorG3
import Derived.Test.YtpdcopbnhaoilaaDoorG4
import Derived.Test.YtpdcopbnhaoilaaDoorG5
import Derived.Test.YtpdcopbnhaoilaaDoorG6
import Derived.Test.YtpdcopbnhaoilaaDoorMWord
namespace Go.Proofs.YtpdcopbnhaoilaaDoor.MPerson
open Go.RowKit Go.Proofs.YtpdcopbnhaoilaaDoor.G Go.Proofs.YtpdcopbnhaoilaaDoorW.PrintWords Go.Proofs.YtpdcopbnhaoilaaDoorW.PrintLast Go.Proofs.YtpdcopbnhaoilaaDoor.MPure Go.Proofs.YtpdcopbnhaoilaaDoor.MWord

abbrev PI := S26
def atP (l : List PI) (i : Nat) : PI := l.getD i z26
theorem atP_mem {l : List PI} {i : Nat} (h : i < l.length) : atP l i ∈ l := by
  unfold atP
  rw [List.getD_eq_getElem?_getD, List.getElem?_eq_getElem h]
  exact List.getElem_mem h
def SizedP (l : List PI) : Prop := l.length ≤ 140737488351232 ∧ ∀ x, x ∈ l → x.f0.size ≤ 140737488351232
def smallB (c : Int) : Bool := decide (97 ≤ c ∧ c ≤ 122)
theorem smalls (c : Int) (h0 : 0 ≤ c) (h1 : c ≤ 255) : amongB (⟨#[97, 98, 99, 100, 101, 102, 103, 104, 105, 106, 107, 108, 109, 110, 111, 112, 113, 114, 115, 116, 117, 118, 119, 120, 121, 122]⟩ : ByteArray) c = smallB c := by
  have key : ∀ n : Nat, n < 256 → amongB (⟨#[97, 98, 99, 100, 101, 102, 103, 104, 105, 106, 107, 108, 109, 110, 111, 112, 113, 114, 115, 116, 117, 118, 119, 120, 121, 122]⟩ : ByteArray) (n : Int) = smallB (n : Int) := by decide +kernel
  obtain ⟨n, rfl⟩ := Int.eq_ofNat_of_zero_le h0
  exact key n (by omega)
def letterB (n : Int) : Bool := decide (0 ≤ n ∧ n ≤ 25)
def placeB (n : Int) : Bool := decide (0 ≤ n ∧ n ≤ 9)
def yearB (n : Int) : Bool := decide (1800 ≤ n ∧ n ≤ 2200)
def personB (s : ByteArray) (a b c : Int) : Bool := wordB smallB s && letterB a && placeB b && yearB c
theorem naLetter_ (a : Int) : spec_naLetter.f a = some (letterB a) := by
  unfold spec_naLetter.f
  rw [l1In_]
  rfl
theorem naPlace_ (a : Int) : spec_naPlace.f a = some (placeB a) := by
  unfold spec_naPlace.f
  rw [l1In_]
  rfl
theorem naYear_ (a : Int) : spec_naYear.f a = some (yearB a) := by
  unfold spec_naYear.f
  rw [l1In_]
  rfl
theorem isYear_ (a : Int) : impl_isYear.f a = some (yearB a) := by
  unfold impl_isYear.f
  rw [within_]
  rfl
theorem naName_ (s : ByteArray) (hs : s.size ≤ 140737488351232) : Ev (fun k => spec_naName.f k s) (wordB smallB s) := by
  refine loop_all0 (L := fun k i => spec_naName.l0 k s i) s.size (fun i => smallB (bt s (i : Int))) _ ?_ ?_ ?_
  · exact Ev.step (fun _ => spec_naName.l0.eq_2 ..) (Ev.neg (by omega) (Ev.have (l1In_ _ _ _) (Ev.some rfl)))
  · intro i hi hp r hr
    simp only [smallB, decide_eq_true_eq] at hp
    rw [← wrap_succ (by omega)] at hr
    exact Ev.step (fun _ => spec_naName.l0.eq_2 ..) (Ev.pos (by omega) (Ev.pos (by omega) (Ev.neg (by omega) (Ev.neg (by omega) hr))))
  · intro i hi hp
    simp only [smallB, decide_eq_false_iff_not] at hp
    exact Ev.step (fun _ => spec_naName.l0.eq_2 ..) (Ev.pos (by omega) (Ev.pos (by omega) (Ev.ite (fun _ => Ev.some rfl) (fun _ => Ev.pos (by omega) (Ev.some rfl)))))
theorem naOne_ (s : ByteArray) (a b c : Int) (hs : s.size ≤ 140737488351232) : Ev (fun k => spec_naOne.f k s a b c) (personB s a b c) := by
  unfold spec_naOne.f personB
  refine Ev.bind (naName_ s hs) (Ev.ite (fun h1 => ?_) (fun h1 => Ev.some (by simp [h1])))
  refine Ev.have (naLetter_ a) (Ev.ite (fun h2 => ?_) (fun h2 => Ev.some (by simp [h2])))
  refine Ev.have (naPlace_ b) (Ev.ite (fun h3 => ?_) (fun h3 => Ev.some (by simp [h3])))
  exact Ev.have (naYear_ c) (Ev.some (by simp [h1, h2, h3]))
theorem IsPerson_ (s : ByteArray) (a b c : Int) (hs : s.size ≤ 140737488351232) : Ev (fun k => impl_IsPerson.f k s a b c) (personB s a b c) := by
  unfold impl_IsPerson.f personB
  refine Ev.bind (Ev.eq (isWordOf_ s _ hs) (wordB_congr smalls s)) (Ev.ite (fun h1 => ?_) (fun h1 => Ev.some (by simp [h1])))
  refine Ev.have (within_ a _ _) (Ev.ite (fun h2 => ?_) (fun h2 => Ev.some (by rw [show letterB a = false from Bool.eq_false_iff.2 h2]; simp)))
  refine Ev.have (within_ b _ _) (Ev.ite (fun h3 => ?_) (fun h3 => Ev.some (by rw [show placeB b = false from Bool.eq_false_iff.2 h3]; simp)))
  exact Ev.have (isYear_ c) (Ev.some (by rw [show letterB a = true from h2, show placeB b = true from h3]; simp [h1]))
def lessB (a b : ByteArray) : Bool := Op.bytesLess a.toList b.toList
def peopleP (l : List PI) (i : Nat) : Bool := personB (atP l i).f0 (atP l i).f1 (atP l i).f2 (atP l i).f3 && (decide (i = 0) || lessB (atP l (i - 1)).f0 (atP l i).f0)
def peopleB (l : List PI) : Bool := (List.range l.length).all (peopleP l) && decide ((l.length : Int) ≤ 10)
theorem naGood_ (l : List PI) (hl : SizedP l) : Ev (fun k => spec_naGood.f k l) (peopleB l) := by
  obtain ⟨hn, hs⟩ := hl
  refine loop_all0 (L := fun k i => spec_naGood.l0 k l l (l.length : Int) i) l.length (peopleP l) _ ?_ ?_ ?_
  · exact Ev.step (fun _ => spec_naGood.l0.eq_2 ..) (Ev.neg (by omega) (Ev.some rfl))
  · intro i hi hp r hr
    simp only [peopleP, Bool.and_eq_true] at hp
    rw [← wrap_succ (by omega)] at hr
    refine Ev.step (fun _ => spec_naGood.l0.eq_2 ..) (Ev.pos (by omega) (Ev.pos (by omega) (Ev.pos (by omega) (Ev.bind (naOne_ _ _ _ _ (hs _ (atP_mem hi))) (Ev.pos hp.1 (Ev.ite (fun h0 => ?_) (fun h0 => hr)))))))
    rw [wrap_pred (by omega) (by omega)]
    refine Ev.pos (by omega) (Ev.pos (by omega) (Ev.pos ?_ hr))
    have := hp.2
    simp only [Bool.or_eq_true, decide_eq_true_eq] at this
    rcases this with h | h
    · omega
    · exact h
  · intro i hi hp
    refine Ev.step (fun _ => spec_naGood.l0.eq_2 ..) (Ev.pos (by omega) (Ev.pos (by omega) (Ev.pos (by omega) (Ev.bind (naOne_ _ _ _ _ (hs _ (atP_mem hi))) (Ev.ite (fun h1 => ?_) (fun _ => Ev.some rfl))))))
    simp only [peopleP, Bool.and_eq_false_iff, Bool.or_eq_false_iff, decide_eq_false_iff_not] at hp
    rcases hp with hp | ⟨hp, hq⟩
    · exact absurd (h1.symm.trans hp) (by decide)
    · refine Ev.pos (by omega) ?_
      rw [wrap_pred (by omega) (by omega)]
      exact Ev.pos (by omega) (Ev.pos (by omega) (Ev.neg (Bool.eq_false_iff.1 hq) (Ev.some rfl)))
theorem ArePeople_ (l : List PI) (hl : SizedP l) : Ev (fun k => impl_ArePeople.f k l) (peopleB l) := by
  obtain ⟨hn, hs⟩ := hl
  refine loop_all0 (L := fun k i => impl_ArePeople.l0 k l l (l.length : Int) i) l.length (peopleP l) _ ?_ ?_ ?_
  · exact Ev.step (fun _ => impl_ArePeople.l0.eq_2 ..) (Ev.neg (by omega) (Ev.some rfl))
  · intro i hi hp r hr
    simp only [peopleP, Bool.and_eq_true] at hp
    rw [← wrap_succ (by omega)] at hr
    refine Ev.step (fun _ => impl_ArePeople.l0.eq_2 ..) (Ev.pos (by omega) (Ev.pos (by omega) (Ev.pos (by omega) (Ev.bind (IsPerson_ _ _ _ _ (hs _ (atP_mem hi))) (Ev.pos hp.1 (Ev.ite (fun h0 => ?_) (fun h0 => hr)))))))
    rw [wrap_pred (by omega) (by omega)]
    refine Ev.pos (by omega) (Ev.pos (by omega) (Ev.pos ?_ hr))
    have := hp.2
    simp only [Bool.or_eq_true, decide_eq_true_eq] at this
    rcases this with h | h
    · omega
    · exact h
  · intro i hi hp
    refine Ev.step (fun _ => impl_ArePeople.l0.eq_2 ..) (Ev.pos (by omega) (Ev.pos (by omega) (Ev.pos (by omega) (Ev.bind (IsPerson_ _ _ _ _ (hs _ (atP_mem hi))) (Ev.ite (fun h1 => ?_) (fun _ => Ev.some rfl))))))
    simp only [peopleP, Bool.and_eq_false_iff, Bool.or_eq_false_iff, decide_eq_false_iff_not] at hp
    rcases hp with hp | ⟨hp, hq⟩
    · exact absurd (h1.symm.trans hp) (by decide)
    · refine Ev.pos (by omega) ?_
      rw [wrap_pred (by omega) (by omega)]
      exact Ev.pos (by omega) (Ev.pos (by omega) (Ev.neg (Bool.eq_false_iff.1 hq) (Ev.some rfl)))
end Go.Proofs.YtpdcopbnhaoilaaDoor.MPerson
