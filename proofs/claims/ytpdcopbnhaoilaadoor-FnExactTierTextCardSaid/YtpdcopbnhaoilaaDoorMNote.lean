/- What the printed functions on notes and tiers come to, by numbers and lists alone: words, notes, tiers, the copies and the comparison that the exact laws use. -/
import Derived.Test.YtpdcopbnhaoilaaDoorG0
import Derived.Test.YtpdcopbnhaoilaaDoorG10
import Derived.Test.YtpdcopbnhaoilaaDoorG11
import Derived.Test.YtpdcopbnhaoilaaDoorG12
import Derived.Test.YtpdcopbnhaoilaaDoorG13
import Derived.Test.YtpdcopbnhaoilaaDoorG14
import Derived.Test.YtpdcopbnhaoilaaDoorMWord
namespace Go.Proofs.YtpdcopbnhaoilaaDoor.MNote
open Go.RowKit Go.Proofs.YtpdcopbnhaoilaaDoor.G Go.Proofs.YtpdcopbnhaoilaaDoorW.PrintWords Go.Proofs.YtpdcopbnhaoilaaDoorW.PrintLast Go.Proofs.YtpdcopbnhaoilaaDoor.MPure Go.Proofs.YtpdcopbnhaoilaaDoor.MWord

theorem fsWord_ (s : ByteArray) (hs : s.size ≤ 140737488351232) : Ev (fun k => spec_fsWord.f k s) (wordB capB s) := by
  refine loop_all0 (L := fun k i => spec_fsWord.l0 k s i) s.size (fun i => capB (bt s (i : Int))) _ ?_ ?_ ?_
  · refine Ev.step (f := fun _ => _) (fun k => ?_) (Ev.some rfl)
    simp only [spec_fsWord.l0]
    rw [if_neg (by omega), l1In_]
    rfl
  · intro i hi hp r hr
    refine Ev.step (f := fun k => spec_fsWord.l0 k s ((i + 1 : Nat) : Int)) (fun k => ?_) hr
    simp only [capB, decide_eq_true_eq] at hp
    simp only [spec_fsWord.l0]
    rw [if_pos (by omega), if_pos (by omega), if_neg (by omega), if_neg (by omega), wrap_succ (by omega)]
  · intro i hi hp
    simp only [capB, decide_eq_false_iff_not] at hp
    by_cases h : bt s (i : Int) < 65
    · refine Ev.step (f := fun k => some false) (fun k => ?_) (Ev.some rfl)
      simp only [spec_fsWord.l0]
      rw [if_pos (by omega), if_pos (by omega), if_pos h]
    · refine Ev.step (f := fun k => some false) (fun k => ?_) (Ev.some rfl)
      simp only [spec_fsWord.l0]
      rw [if_pos (by omega), if_pos (by omega), if_neg h, if_pos (by omega)]

/-! ### notes -/
def frameB (n : Int) : Bool := decide (0 ≤ n ∧ n ≤ 99999)
def noteB (f t : Int) (g : ByteArray) : Bool := frameB f && frameB t && decide (f < t) && wordB capB g
theorem tiFrame_ (a : Int) : spec_tiFrame.f a = some (frameB a) := by
  unfold spec_tiFrame.f
  rw [l1In_]
  rfl
theorem isFrame_ (a : Int) : impl_isFrame.f a = some (frameB a) := by
  unfold impl_isFrame.f
  rw [within_]
  rfl
theorem tiNote_ (f t : Int) (g : ByteArray) (hg : g.size ≤ 140737488351232) : Ev (fun k => spec_tiNote.f k f t g) (noteB f t g) := by
  unfold spec_tiNote.f noteB
  refine Ev.have (tiFrame_ _) (Ev.ite (fun h => ?_) (fun h => Ev.some (by rw [Bool.eq_false_iff.2 h]; rfl)))
  refine Ev.have (tiFrame_ _) (Ev.ite (fun h2 => ?_) (fun h2 => Ev.some (by rw [Bool.eq_false_iff.2 h2]; simp)))
  refine Ev.ite (fun h3 => ?_) (fun h3 => Ev.some (by simp [h3]))
  exact Ev.bind (fsWord_ g hg) (Ev.some (by simp [h, h2, h3]))
theorem IsNote_ (f t : Int) (g : ByteArray) (hg : g.size ≤ 140737488351232) : Ev (fun k => impl_IsNote.f k f t g) (noteB f t g) := by
  unfold impl_IsNote.f noteB
  refine Ev.have (isFrame_ _) (Ev.ite (fun h => ?_) (fun h => Ev.some (by rw [Bool.eq_false_iff.2 h]; rfl)))
  refine Ev.have (isFrame_ _) (Ev.ite (fun h2 => ?_) (fun h2 => Ev.some (by rw [Bool.eq_false_iff.2 h2]; simp)))
  refine Ev.ite (fun h3 => ?_) (fun h3 => Ev.some (by simp [h3]))
  exact Ev.bind (isWord_ g hg) (Ev.some (by simp [h, h2, h3]))
theorem szNote_ (f t : Int) (g : ByteArray) (hg : g.size ≤ 140737488351232) (n : Int) (h0 : 0 ≤ n) (h1 : n ≤ 1048576) : laws_szNote.f f t g n = some (if n - (g.size : Int) < 0 then -1 else n - (g.size : Int)) := by
  unfold laws_szNote.f
  rw [wrap_in (by omega) (by omega)]
  split <;> rfl

/-! ### tiers -/
abbrev NI := S84
abbrev NL := S100
def atN (l : List NI) (i : Nat) : NI := l.getD i z84
theorem atN_mem {l : List NI} {i : Nat} (h : i < l.length) : atN l i ∈ l := by
  unfold atN
  rw [List.getD_eq_getElem?_getD, List.getElem?_eq_getElem h]
  exact List.getElem_mem h
/-- What the notes' texts bear. -/
def Sized (l : List NI) : Prop := l.length ≤ 140737488351232 ∧ ∀ x, x ∈ l → x.f2.size ≤ 140737488351232
def tierP (l : List NI) (i : Nat) : Bool := noteB (atN l i).f0 (atN l i).f1 (atN l i).f2 && (decide (i = 0) || decide ((atN l (i - 1)).f1 ≤ (atN l i).f0))
def tierB (l : List NI) : Bool := (List.range l.length).all (tierP l) && decide ((l.length : Int) ≤ 40)

theorem tiGood_ (l : List NI) (hl : Sized l) : Ev (fun k => spec_tiGood.f k l) (tierB l) := by
  obtain ⟨hn, hs⟩ := hl
  refine loop_all0 (L := fun k i => spec_tiGood.l0 k l l (l.length : Int) i) l.length (tierP l) _ ?_ ?_ ?_
  · exact Ev.step (fun _ => spec_tiGood.l0.eq_2 ..) (Ev.neg (by omega) (Ev.some rfl))
  · intro i hi hp r hr
    simp only [tierP, Bool.and_eq_true] at hp
    refine Ev.step (fun _ => spec_tiGood.l0.eq_2 ..) (Ev.pos (by omega) (Ev.pos (by omega) (Ev.pos (by omega) (Ev.bind (tiNote_ _ _ _ (hs _ (atN_mem hi))) (Ev.pos hp.1 (Ev.ite (fun h0 => ?_) (fun h0 => ?_)))))))
    · rw [wrap_pred (by omega) (by omega)]
      refine Ev.pos (by omega) (Ev.pos (by omega) (Ev.neg ?_ ?_))
      · have := hp.2
        simp only [Bool.or_eq_true, decide_eq_true_eq] at this
        have h : (atN l (i - 1)).f1 ≤ (atN l i).f0 := by
          rcases this with h | h
          · omega
          · exact h
        exact Int.not_lt.2 h
      · rw [wrap_succ (by omega)]
        exact hr
    · rw [wrap_succ (by omega)]
      exact hr
  · intro i hi hp
    refine Ev.step (fun _ => spec_tiGood.l0.eq_2 ..) (Ev.pos (by omega) (Ev.pos (by omega) (Ev.pos (by omega) (Ev.bind (tiNote_ _ _ _ (hs _ (atN_mem hi))) (Ev.ite (fun h1 => ?_) (fun _ => Ev.some rfl))))))
    simp only [tierP, Bool.and_eq_false_iff, Bool.or_eq_false_iff, decide_eq_false_iff_not] at hp
    rcases hp with hp | ⟨hp, hq⟩
    · exact absurd (h1.symm.trans hp) (by decide)
    · refine Ev.pos (by omega) ?_
      rw [wrap_pred (by omega) (by omega)]
      exact Ev.pos (by omega) (Ev.pos (by omega) (Ev.pos (Int.not_le.1 hq) (Ev.some rfl)))
theorem IsTier_ (l : List NI) (hl : Sized l) : Ev (fun k => impl_IsTier.f k l) (tierB l) := by
  obtain ⟨hn, hs⟩ := hl
  refine loop_all0 (L := fun k i => impl_IsTier.l0 k l l (l.length : Int) i) l.length (tierP l) _ ?_ ?_ ?_
  · exact Ev.step (fun _ => impl_IsTier.l0.eq_2 ..) (Ev.neg (by omega) (Ev.some rfl))
  · intro i hi hp r hr
    simp only [tierP, Bool.and_eq_true] at hp
    refine Ev.step (fun _ => impl_IsTier.l0.eq_2 ..) (Ev.pos (by omega) (Ev.pos (by omega) (Ev.pos (by omega) (Ev.bind (IsNote_ _ _ _ (hs _ (atN_mem hi))) (Ev.pos hp.1 (Ev.ite (fun h0 => ?_) (fun h0 => ?_)))))))
    · rw [wrap_pred (by omega) (by omega)]
      refine Ev.pos (by omega) (Ev.pos (by omega) (Ev.neg ?_ ?_))
      · have := hp.2
        simp only [Bool.or_eq_true, decide_eq_true_eq] at this
        have h : (atN l (i - 1)).f1 ≤ (atN l i).f0 := by
          rcases this with h | h
          · omega
          · exact h
        exact Int.not_lt.2 h
      · rw [wrap_succ (by omega)]
        exact hr
    · rw [wrap_succ (by omega)]
      exact hr
  · intro i hi hp
    refine Ev.step (fun _ => impl_IsTier.l0.eq_2 ..) (Ev.pos (by omega) (Ev.pos (by omega) (Ev.pos (by omega) (Ev.bind (IsNote_ _ _ _ (hs _ (atN_mem hi))) (Ev.ite (fun h1 => ?_) (fun _ => Ev.some rfl))))))
    simp only [tierP, Bool.and_eq_false_iff, Bool.or_eq_false_iff, decide_eq_false_iff_not] at hp
    rcases hp with hp | ⟨hp, hq⟩
    · exact absurd (h1.symm.trans hp) (by decide)
    · refine Ev.pos (by omega) ?_
      rw [wrap_pred (by omega) (by omega)]
      exact Ev.pos (by omega) (Ev.pos (by omega) (Ev.pos (Int.not_le.1 hq) (Ev.some rfl)))

/-! ### what the exact laws do with notes: sizes, copies, comparison -/
def conv (x : NL) : NI := ⟨x.f0, x.f1, x.f2⟩
/-- What a law's notes bear, as the row tells it. -/
def Given (l : List NL) : Prop := (∀ a_, a_ ∈ l → gT100 a_) ∧ l.length * 32 ≤ 140737488351232
theorem Given.sized {l : List NL} (h : Given l) : Sized (l.map conv) := by
  obtain ⟨h1, h2⟩ := h
  refine ⟨by rw [List.length_map]; omega, fun x hx => ?_⟩
  obtain ⟨y, hy, rfl⟩ := List.mem_map.1 hx
  exact (h1 y hy).2.2
theorem toNoteS_ (l : List NL) (hl : l.length * 32 ≤ 140737488351232) : Ev (fun k => laws_toNoteS.f k l) (l.map conv) := by
  have key : ∀ d i : Nat, i + d = l.length → Ev (fun k => laws_toNoteS.l0 k l ((l.map conv).take i ++ (List.replicate l.length z84).drop i) (i : Int)) (l.map conv) := by
    intro d
    induction d with
    | zero =>
      intro i hi
      exact Ev.step (fun _ => laws_toNoteS.l0.eq_2 ..) (Ev.neg (by omega) (Ev.some (fill_all (by simp) (by simp; omega))))
    | succ d ih =>
      intro i hi
      refine Ev.step (fun _ => laws_toNoteS.l0.eq_2 ..) (Ev.pos (by omega) (Ev.pos (by omega) (Ev.have rfl (Ev.pos ?_ ?_))))
      · rw [fill_length (by simp), List.length_map]; omega
      · rw [wrap_succ (by omega)]
        have e : ((l.map conv).take i ++ (List.replicate l.length z84).drop i).set i ((l.map conv)[i]'(by simp; omega)) = (l.map conv).take (i + 1) ++ (List.replicate l.length z84).drop (i + 1) := set_fill (by simp) (by simp; omega)
        have e2 : (l.map conv)[i]'(by simp; omega) = (⟨(rd_T100 l (i : Int)).f0, (rd_T100 l (i : Int)).f1, (rd_T100 l (i : Int)).f2⟩ : NI) := by
          have : rd_T100 l (i : Int) = l[i]'(by omega) := by
            show l.getD i z100 = _
            rw [List.getD_eq_getElem?_getD, List.getElem?_eq_getElem (by omega)]
            rfl
          rw [this, List.getElem_map]
          rfl
        rw [e2] at e
        have := ih (i + 1) (by omega)
        rw [← e] at this
        exact this
  unfold laws_toNoteS.f
  refine Ev.pos (by omega) (Ev.pos (by omega) ?_)
  have := key l.length 0 (by omega)
  exact this
theorem eqNote_ (a : NI) : laws_eqNote.f a.f0 a.f1 a.f2 a.f0 a.f1 a.f2 = some true := by
  unfold laws_eqNote.f
  rw [if_pos rfl, if_pos rfl, if_pos rfl]
theorem eqNoteS_ (l : List NI) (hl : l.length ≤ 140737488351232) : Ev (fun k => laws_eqNoteS.f k l l) true := by
  unfold laws_eqNoteS.f
  refine Ev.pos rfl ?_
  have h := loop_all0 (L := fun k i => laws_eqNoteS.l0 k l l i) l.length (fun _ => true) true ?_ ?_ ?_
  · exact Ev.eq h (by simp)
  · exact Ev.step (fun _ => laws_eqNoteS.l0.eq_2 ..) (Ev.neg (by omega) (Ev.some rfl))
  · intro i hi _ r hr
    refine Ev.step (fun _ => laws_eqNoteS.l0.eq_2 ..) (Ev.pos (by omega) (Ev.pos (by omega) (Ev.pos (by omega) (Ev.have (eqNote_ _) (Ev.pos rfl ?_)))))
    rw [wrap_succ (by omega)]
    exact hr
  · intro i _ h
    cases h
theorem szNoteS_ (l : List NL) (hl : Given l) (n : Int) (h0 : 0 ≤ n) (h1 : n ≤ 1048576) : ∃ z, Ev (fun k => laws_szNoteS.f k l n) z ∧ -1 ≤ z ∧ z ≤ n := by
  obtain ⟨hg, hn⟩ := hl
  have key : ∀ d i : Nat, i + d = l.length → ∀ z : Int, 0 ≤ z → z ≤ 1048576 → ∃ r, Ev (fun k => laws_szNoteS.l0 k l z (i : Int)) r ∧ -1 ≤ r ∧ r ≤ z := by
    intro d
    induction d with
    | zero =>
      intro i hi z h0 h1
      exact ⟨z, Ev.step (fun _ => laws_szNoteS.l0.eq_2 ..) (Ev.neg (by omega) (Ev.some rfl)), by omega, by omega⟩
    | succ d ih =>
      intro i hi z h0 h1
      have hm : rd_T100 l (i : Int) ∈ l := by
        show l.getD i z100 ∈ l
        rw [List.getD_eq_getElem?_getD, List.getElem?_eq_getElem (by omega)]
        exact List.getElem_mem _
      have hz := szNote_ (rd_T100 l (i : Int)).f0 (rd_T100 l (i : Int)).f1 (rd_T100 l (i : Int)).f2 (hg _ hm).2.2 z h0 h1
      by_cases hneg : z - ((rd_T100 l (i : Int)).f2.size : Int) < 0
      · rw [if_pos hneg] at hz
        exact ⟨-1, Ev.step (fun _ => laws_szNoteS.l0.eq_2 ..) (Ev.pos (by omega) (Ev.pos (by omega) (Ev.have hz (Ev.pos (by decide) (Ev.some rfl))))), by omega, by omega⟩
      · rw [if_neg hneg] at hz
        obtain ⟨r, hr, h2, h3⟩ := ih (i + 1) (by omega) _ (Int.not_lt.1 hneg) (by omega)
        refine ⟨r, Ev.step (fun _ => laws_szNoteS.l0.eq_2 ..) (Ev.pos (by omega) (Ev.pos (by omega) (Ev.have hz (Ev.neg hneg ?_)))), h2, by omega⟩
        rw [wrap_succ (by omega)]
        exact hr
  unfold laws_szNoteS.f
  rw [wrap_in (by omega) (by omega)]
  by_cases hneg : n - (l.length : Int) < 0
  · exact ⟨-1, Ev.pos hneg (Ev.some rfl), by omega, by omega⟩
  · obtain ⟨r, hr, h2, h3⟩ := key l.length 0 (by omega) _ (Int.not_lt.1 hneg) (by omega)
    exact ⟨r, Ev.neg hneg hr, h2, by omega⟩
end Go.Proofs.YtpdcopbnhaoilaaDoor.MNote
