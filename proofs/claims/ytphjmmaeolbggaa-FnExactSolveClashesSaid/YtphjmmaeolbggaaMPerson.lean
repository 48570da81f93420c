/- What the printed functions on persons come to, by numbers and lists alone: names, persons, people, the copies and the comparison that the exact laws use. -/
import Derived.Test.YtphjmmaeolbggaaG0
import Derived.Test.YtphjmmaeolbggaaG1
import Derived.Test.YtphjmmaeolbggaaG3
import Derived.Test.YtphjmmaeolbggaaG5
import Derived.Test.YtphjmmaeolbggaaG6
import Derived.Test.YtphjmmaeolbggaaG9
import Derived.Test.YtphjmmaeolbggaaMWord
namespace Go.Proofs.Ytphjmmaeolbggaa.MPerson
open Go.RowKit Go.Proofs.Ytphjmmaeolbggaa.G Go.Proofs.YtphjmmaeolbggaaW.PrintWords Go.Proofs.YtphjmmaeolbggaaW.PrintLast Go.Proofs.Ytphjmmaeolbggaa.MPure Go.Proofs.Ytphjmmaeolbggaa.MWord

abbrev PI := S69
abbrev PL := S66
def atP (l : List PI) (i : Nat) : PI := l.getD i z69
theorem atP_mem {l : List PI} {i : Nat} (h : i < l.length) : atP l i ∈ l := by
  unfold atP
  rw [List.getD_eq_getElem?_getD, List.getElem?_eq_getElem h]
  exact List.getElem_mem h
def SizedP (l : List PI) : Prop := l.length ≤ 140737488351232 ∧ ∀ x, x ∈ l → x.f0.size ≤ 140737488351232
def smallB (c : Int) : Bool := decide (97 ≤ c ∧ c ≤ 122)
theorem smalls (c : Int) (h0 : 0 ≤ c) (h1 : c ≤ 255) : amongB (⟨#[97, 98, 99, 100, 101, 102, 103, 104, 105, 106, 107, 108, 109, 110, 111, 112, 113, 114, 115, 116, 117, 118, 119, 120, 121, 122]⟩ : ByteArray) c = smallB c := by
  have key : ∀ n : Nat, n < 256 → amongB (⟨#[97, 98, 99, 100, 101, 102, 103, 104, 105, 106, 107, 108, 109, 110, 111, 112, 113, 114, 115, 116, 117, 118, 119, 120, 121, 122]⟩ : ByteArray) (n : Int) = smallB (n : Int) := by decide +kernel
  obtain ⟨n, rfl⟩ := Int.eq_ofNat_of_zero_le h0
  exact key n (by omega)
def letterB (n : Int) : Bool := decide (0 ≤ n ∧ n ≤ 25)
def placeB (n : Int) : Bool := decide (0 ≤ n ∧ n ≤ 9)
def yearB (n : Int) : Bool := decide (1800 ≤ n ∧ n ≤ 2200)
def personB (s : ByteArray) (a b c : Int) : Bool := wordB smallB s && letterB a && placeB b && yearB c
theorem naLetter_ (a : Int) : spec_naLetter.f a = some (letterB a) := by
  unfold spec_naLetter.f
  rw [l1In_]
  rfl
theorem naPlace_ (a : Int) : spec_naPlace.f a = some (placeB a) := by
  unfold spec_naPlace.f
  rw [l1In_]
  rfl
theorem naYear_ (a : Int) : spec_naYear.f a = some (yearB a) := by
  unfold spec_naYear.f
  rw [l1In_]
  rfl
theorem isYear_ (a : Int) : impl_isYear.f a = some (yearB a) := by
  unfold impl_isYear.f
  rw [within_]
  rfl
theorem naName_ (s : ByteArray) (hs : s.size ≤ 140737488351232) : Ev (fun k => spec_naName.f k s) (wordB smallB s) := by
  refine loop_all0 (L := fun k i => spec_naName.l0 k s i) s.size (fun i => smallB (bt s (i : Int))) _ ?_ ?_ ?_
  · exact Ev.step (fun _ => spec_naName.l0.eq_2 ..) (Ev.neg (by omega) (Ev.have (l1In_ _ _ _) (Ev.some rfl)))
  · intro i hi hp r hr
    simp only [smallB, decide_eq_true_eq] at hp
    rw [← wrap_succ (by omega)] at hr
    exact Ev.step (fun _ => spec_naName.l0.eq_2 ..) (Ev.pos (by omega) (Ev.pos (by omega) (Ev.neg (by omega) (Ev.neg (by omega) hr))))
  · intro i hi hp
    simp only [smallB, decide_eq_false_iff_not] at hp
    exact Ev.step (fun _ => spec_naName.l0.eq_2 ..) (Ev.pos (by omega) (Ev.pos (by omega) (Ev.ite (fun _ => Ev.some rfl) (fun _ => Ev.pos (by omega) (Ev.some rfl)))))
theorem naOne_ (s : ByteArray) (a b c : Int) (hs : s.size ≤ 140737488351232) : Ev (fun k => spec_naOne.f k s a b c) (personB s a b c) := by
  unfold spec_naOne.f personB
  refine Ev.bind (naName_ s hs) (Ev.ite (fun h1 => ?_) (fun h1 => Ev.some (by simp [h1])))
  refine Ev.have (naLetter_ a) (Ev.ite (fun h2 => ?_) (fun h2 => Ev.some (by simp [h2])))
  refine Ev.have (naPlace_ b) (Ev.ite (fun h3 => ?_) (fun h3 => Ev.some (by simp [h3])))
  exact Ev.have (naYear_ c) (Ev.some (by simp [h1, h2, h3]))
theorem IsPerson_ (s : ByteArray) (a b c : Int) (hs : s.size ≤ 140737488351232) : Ev (fun k => impl_IsPerson.f k s a b c) (personB s a b c) := by
  unfold impl_IsPerson.f personB
  refine Ev.bind (Ev.eq (isWordOf_ s _ hs) (wordB_congr smalls s)) (Ev.ite (fun h1 => ?_) (fun h1 => Ev.some (by simp [h1])))
  refine Ev.have (within_ a _ _) (Ev.ite (fun h2 => ?_) (fun h2 => Ev.some (by rw [show letterB a = false from Bool.eq_false_iff.2 h2]; simp)))
  refine Ev.have (within_ b _ _) (Ev.ite (fun h3 => ?_) (fun h3 => Ev.some (by rw [show placeB b = false from Bool.eq_false_iff.2 h3]; simp)))
  exact Ev.have (isYear_ c) (Ev.some (by rw [show letterB a = true from h2, show placeB b = true from h3]; simp [h1]))
def lessB (a b : ByteArray) : Bool := Op.bytesLess a.toList b.toList
def peopleP (l : List PI) (i : Nat) : Bool := personB (atP l i).f0 (atP l i).f1 (atP l i).f2 (atP l i).f3 && (decide (i = 0) || lessB (atP l (i - 1)).f0 (atP l i).f0)
def peopleB (l : List PI) : Bool := (List.range l.length).all (peopleP l) && decide ((l.length : Int) ≤ 10)
theorem naGood_ (l : List PI) (hl : SizedP l) : Ev (fun k => spec_naGood.f k l) (peopleB l) := by
  obtain ⟨hn, hs⟩ := hl
  refine loop_all0 (L := fun k i => spec_naGood.l0 k l l (l.length : Int) i) l.length (peopleP l) _ ?_ ?_ ?_
  · exact Ev.step (fun _ => spec_naGood.l0.eq_2 ..) (Ev.neg (by omega) (Ev.some rfl))
  · intro i hi hp r hr
    simp only [peopleP, Bool.and_eq_true] at hp
    rw [← wrap_succ (by omega)] at hr
    refine Ev.step (fun _ => spec_naGood.l0.eq_2 ..) (Ev.pos (by omega) (Ev.pos (by omega) (Ev.pos (by omega) (Ev.bind (naOne_ _ _ _ _ (hs _ (atP_mem hi))) (Ev.pos hp.1 (Ev.ite (fun h0 => ?_) (fun h0 => hr)))))))
    rw [wrap_pred (by omega) (by omega)]
    refine Ev.pos (by omega) (Ev.pos (by omega) (Ev.pos ?_ hr))
    have := hp.2
    simp only [Bool.or_eq_true, decide_eq_true_eq] at this
    rcases this with h | h
    · omega
    · exact h
  · intro i hi hp
    refine Ev.step (fun _ => spec_naGood.l0.eq_2 ..) (Ev.pos (by omega) (Ev.pos (by omega) (Ev.pos (by omega) (Ev.bind (naOne_ _ _ _ _ (hs _ (atP_mem hi))) (Ev.ite (fun h1 => ?_) (fun _ => Ev.some rfl))))))
    simp only [peopleP, Bool.and_eq_false_iff, Bool.or_eq_false_iff, decide_eq_false_iff_not] at hp
    rcases hp with hp | ⟨hp, hq⟩
    · exact absurd (h1.symm.trans hp) (by decide)
    · refine Ev.pos (by omega) ?_
      rw [wrap_pred (by omega) (by omega)]
      exact Ev.pos (by omega) (Ev.pos (by omega) (Ev.neg (Bool.eq_false_iff.1 hq) (Ev.some rfl)))
theorem ArePeople_ (l : List PI) (hl : SizedP l) : Ev (fun k => impl_ArePeople.f k l) (peopleB l) := by
  obtain ⟨hn, hs⟩ := hl
  refine loop_all0 (L := fun k i => impl_ArePeople.l0 k l l (l.length : Int) i) l.length (peopleP l) _ ?_ ?_ ?_
  · exact Ev.step (fun _ => impl_ArePeople.l0.eq_2 ..) (Ev.neg (by omega) (Ev.some rfl))
  · intro i hi hp r hr
    simp only [peopleP, Bool.and_eq_true] at hp
    rw [← wrap_succ (by omega)] at hr
    refine Ev.step (fun _ => impl_ArePeople.l0.eq_2 ..) (Ev.pos (by omega) (Ev.pos (by omega) (Ev.pos (by omega) (Ev.bind (IsPerson_ _ _ _ _ (hs _ (atP_mem hi))) (Ev.pos hp.1 (Ev.ite (fun h0 => ?_) (fun h0 => hr)))))))
    rw [wrap_pred (by omega) (by omega)]
    refine Ev.pos (by omega) (Ev.pos (by omega) (Ev.pos ?_ hr))
    have := hp.2
    simp only [Bool.or_eq_true, decide_eq_true_eq] at this
    rcases this with h | h
    · omega
    · exact h
  · intro i hi hp
    refine Ev.step (fun _ => impl_ArePeople.l0.eq_2 ..) (Ev.pos (by omega) (Ev.pos (by omega) (Ev.pos (by omega) (Ev.bind (IsPerson_ _ _ _ _ (hs _ (atP_mem hi))) (Ev.ite (fun h1 => ?_) (fun _ => Ev.some rfl))))))
    simp only [peopleP, Bool.and_eq_false_iff, Bool.or_eq_false_iff, decide_eq_false_iff_not] at hp
    rcases hp with hp | ⟨hp, hq⟩
    · exact absurd (h1.symm.trans hp) (by decide)
    · refine Ev.pos (by omega) ?_
      rw [wrap_pred (by omega) (by omega)]
      exact Ev.pos (by omega) (Ev.pos (by omega) (Ev.neg (Bool.eq_false_iff.1 hq) (Ev.some rfl)))

/-! ### what the exact laws do with persons: sizes, copies, comparison -/
def convP (x : PL) : PI := ⟨x.f0, x.f1, x.f2, x.f3⟩
def GivenP (l : List PL) : Prop := (∀ a_, a_ ∈ l → gT66 a_) ∧ l.length * 40 ≤ 140737488351232
theorem GivenP.sized {l : List PL} (h : GivenP l) : SizedP (l.map convP) := by
  obtain ⟨h1, h2⟩ := h
  refine ⟨by rw [List.length_map]; omega, fun x hx => ?_⟩
  obtain ⟨y, hy, rfl⟩ := List.mem_map.1 hx
  exact (h1 y hy).1
theorem toPersonS_ (l : List PL) (hl : l.length * 40 ≤ 140737488351232) : Ev (fun k => laws_toPersonS.f k l) (l.map convP) := by
  have key : ∀ d i : Nat, i + d = l.length → Ev (fun k => laws_toPersonS.l0 k l ((l.map convP).take i ++ (List.replicate l.length z69).drop i) (i : Int)) (l.map convP) := by
    intro d
    induction d with
    | zero =>
      intro i hi
      exact Ev.step (fun _ => laws_toPersonS.l0.eq_2 ..) (Ev.neg (by omega) (Ev.some (fill_all (by simp) (by simp; omega))))
    | succ d ih =>
      intro i hi
      refine Ev.step (fun _ => laws_toPersonS.l0.eq_2 ..) (Ev.pos (by omega) (Ev.pos (by omega) (Ev.have rfl (Ev.pos ?_ ?_))))
      · rw [fill_length (by simp), List.length_map]; omega
      · rw [wrap_succ (by omega)]
        have e : ((l.map convP).take i ++ (List.replicate l.length z69).drop i).set i ((l.map convP)[i]'(by simp; omega)) = (l.map convP).take (i + 1) ++ (List.replicate l.length z69).drop (i + 1) := set_fill (by simp) (by simp; omega)
        have e2 : (l.map convP)[i]'(by simp; omega) = (⟨(rd_T66 l (i : Int)).f0, (rd_T66 l (i : Int)).f1, (rd_T66 l (i : Int)).f2, (rd_T66 l (i : Int)).f3⟩ : PI) := by
          have : rd_T66 l (i : Int) = l[i]'(by omega) := by
            show l.getD i z66 = _
            rw [List.getD_eq_getElem?_getD, List.getElem?_eq_getElem (by omega)]
            rfl
          rw [this, List.getElem_map]
          rfl
        rw [e2] at e
        have := ih (i + 1) (by omega)
        rw [← e] at this
        exact this
  unfold laws_toPersonS.f
  refine Ev.pos (by omega) (Ev.pos (by omega) ?_)
  have := key l.length 0 (by omega)
  exact this
theorem eqPerson_ (a : PI) : laws_eqPerson.f a.f0 a.f1 a.f2 a.f3 a.f0 a.f1 a.f2 a.f3 = some true := by
  unfold laws_eqPerson.f
  rw [if_pos rfl, if_pos rfl, if_pos rfl, if_pos rfl]
theorem eqPersonS_ (l : List PI) (hl : l.length ≤ 140737488351232) : Ev (fun k => laws_eqPersonS.f k l l) true := by
  unfold laws_eqPersonS.f
  refine Ev.pos rfl ?_
  have h := loop_all0 (L := fun k i => laws_eqPersonS.l0 k l l i) l.length (fun _ => true) true ?_ ?_ ?_
  · exact Ev.eq h (by simp)
  · exact Ev.step (fun _ => laws_eqPersonS.l0.eq_2 ..) (Ev.neg (by omega) (Ev.some rfl))
  · intro i hi _ r hr
    refine Ev.step (fun _ => laws_eqPersonS.l0.eq_2 ..) (Ev.pos (by omega) (Ev.pos (by omega) (Ev.pos (by omega) (Ev.have (eqPerson_ _) (Ev.pos rfl ?_)))))
    rw [wrap_succ (by omega)]
    exact hr
  · intro i _ h
    cases h
theorem szPerson_ (g : ByteArray) (a b c : Int) (hg : g.size ≤ 140737488351232) (n : Int) (h0 : 0 ≤ n) (h1 : n ≤ 1048576) : laws_szPerson.f g a b c n = some (if n - (g.size : Int) < 0 then -1 else n - (g.size : Int)) := by
  unfold laws_szPerson.f
  rw [wrap_in (by omega) (by omega)]
  split <;> rfl
theorem szPersonS_ (l : List PL) (hl : GivenP l) (n : Int) (h0 : 0 ≤ n) (h1 : n ≤ 1048576) : ∃ z, Ev (fun k => laws_szPersonS.f k l n) z ∧ -1 ≤ z ∧ z ≤ n := by
  obtain ⟨hg, hn⟩ := hl
  have key : ∀ d i : Nat, i + d = l.length → ∀ z : Int, 0 ≤ z → z ≤ 1048576 → ∃ r, Ev (fun k => laws_szPersonS.l0 k l z (i : Int)) r ∧ -1 ≤ r ∧ r ≤ z := by
    intro d
    induction d with
    | zero =>
      intro i hi z h0 h1
      exact ⟨z, Ev.step (fun _ => laws_szPersonS.l0.eq_2 ..) (Ev.neg (by omega) (Ev.some rfl)), by omega, by omega⟩
    | succ d ih =>
      intro i hi z h0 h1
      have hm : rd_T66 l (i : Int) ∈ l := by
        show l.getD i z66 ∈ l
        rw [List.getD_eq_getElem?_getD, List.getElem?_eq_getElem (by omega)]
        exact List.getElem_mem _
      have hz := szPerson_ (rd_T66 l (i : Int)).f0 (rd_T66 l (i : Int)).f1 (rd_T66 l (i : Int)).f2 (rd_T66 l (i : Int)).f3 (hg _ hm).1 z h0 h1
      by_cases hneg : z - ((rd_T66 l (i : Int)).f0.size : Int) < 0
      · rw [if_pos hneg] at hz
        exact ⟨-1, Ev.step (fun _ => laws_szPersonS.l0.eq_2 ..) (Ev.pos (by omega) (Ev.pos (by omega) (Ev.have hz (Ev.pos (by decide) (Ev.some rfl))))), by omega, by omega⟩
      · rw [if_neg hneg] at hz
        obtain ⟨r, hr, h2, h3⟩ := ih (i + 1) (by omega) _ (Int.not_lt.1 hneg) (by omega)
        refine ⟨r, Ev.step (fun _ => laws_szPersonS.l0.eq_2 ..) (Ev.pos (by omega) (Ev.pos (by omega) (Ev.have hz (Ev.neg hneg ?_)))), h2, by omega⟩
        rw [wrap_succ (by omega)]
        exact hr
  unfold laws_szPersonS.f
  rw [wrap_in (by omega) (by omega)]
  by_cases hneg : n - (l.length : Int) < 0
  · exact ⟨-1, Ev.pos hneg (Ev.some rfl), by omega, by omega⟩
  · obtain ⟨r, hr, h2, h3⟩ := key l.length 0 (by omega) _ (Int.not_lt.1 hneg) (by omega)
    exact ⟨r, Ev.neg hneg hr, h2, by omega⟩
end Go.Proofs.Ytphjmmaeolbggaa.MPerson
