/- SplitNote of the program returns what that of the reference returns, for all lists of notes, all indices and all frames, and in memory of its own; no condition beyond what every row's reading gives. -/
import Derived.Test.YtmllkdgdkagkkaaG0
import Derived.Test.YtmllkdgdkagkkaaG8
import Derived.Test.YtmllkdgdkagkkaaG57
import Derived.Test.YtmllkdgdkagkkaaG63
import Derived.Test.YtmllkdgdkagkkaaG64
import Derived.Test.YtmllkdgdkagkkaaG65
import Derived.Test.YtmllkdgdkagkkaaMAll
namespace Go.Proofs.Ytmllkdgdkagkkaa.Pure
open Go.RowKit Go.Proofs.Ytmllkdgdkagkkaa.G Go.Proofs.YtmllkdgdkagkkaaW.PrintWords Go.Proofs.YtmllkdgdkagkkaaW.PrintLast Go.Proofs.Ytmllkdgdkagkkaa.MPure Go.Proofs.Ytmllkdgdkagkkaa.MWord Go.Proofs.Ytmllkdgdkagkkaa.MNote Go.Proofs.Ytmllkdgdkagkkaa.MMarkN

theorem tier_length {l : List NI} (h : tierB l = true) : l.length ≤ 40 := by
  unfold tierB at h
  simp only [Bool.and_eq_true, decide_eq_true_eq] at h
  omega
theorem tier_at {l : List NI} (h : tierB l = true) {i : Nat} (hi : i < l.length) : noteB (atN l i).f0 (atN l i).f1 (atN l i).f2 = true ∧ (i = 0 ∨ (atN l (i - 1)).f1 ≤ (atN l i).f0) := by
  unfold tierB at h
  simp only [Bool.and_eq_true, List.all_eq_true, List.mem_range] at h
  have := h.1 i hi
  unfold tierP at this
  simp only [Bool.and_eq_true, Bool.or_eq_true, decide_eq_true_eq] at this
  exact this
theorem tier_of {l : List NI} (h : ∀ i, i < l.length → noteB (atN l i).f0 (atN l i).f1 (atN l i).f2 = true ∧ (i = 0 ∨ (atN l (i - 1)).f1 ≤ (atN l i).f0)) (hl : l.length ≤ 40) : tierB l = true := by
  unfold tierB
  simp only [Bool.and_eq_true, List.all_eq_true, List.mem_range, decide_eq_true_eq]
  refine ⟨fun i hi => ?_, by omega⟩
  unfold tierP
  simp only [Bool.and_eq_true, Bool.or_eq_true, decide_eq_true_eq]
  exact h i hi
theorem note_cut {f t m : Int} {g : ByteArray} (h : noteB f t g = true) (h1 : f < m) (h2 : m < t) : noteB f m g = true ∧ noteB m t g = true := by
  unfold noteB frameB at h ⊢
  simp only [Bool.and_eq_true, decide_eq_true_eq] at h ⊢
  exact ⟨⟨⟨⟨h.1.1.1, by omega⟩, h1⟩, h.2⟩, ⟨⟨⟨by omega, h.1.1.2⟩, h2⟩, h.2⟩⟩
theorem note_in {f t : Int} {g : ByteArray} (h : noteB f t g = true) : 0 ≤ f ∧ f < t ∧ t ≤ 99999 := by
  unfold noteB frameB at h
  simp only [Bool.and_eq_true, decide_eq_true_eq] at h
  omega
/-- The notes with one split at a frame. -/
def spl (l : List NI) (n : Nat) (m : Int) : List NI := l.take n ++ [(⟨(atN l n).f0, m, (atN l n).f2⟩ : NI), (⟨m, (atN l n).f1, (atN l n).f2⟩ : NI)] ++ l.drop (n + 1)
theorem spl_length (l : List NI) (n : Nat) (m : Int) (h : n < l.length) : (spl l n m).length = l.length + 1 := by
  unfold spl
  rw [List.length_append, List.length_append, List.length_take, List.length_drop]
  show min n l.length + 2 + _ = _
  omega
theorem spl_at (l : List NI) (n : Nat) (m : Int) (h : n < l.length) (i : Nat) : atN (spl l n m) i = if i < n then atN l i else if i = n then (⟨(atN l n).f0, m, (atN l n).f2⟩ : NI) else if i = n + 1 then (⟨m, (atN l n).f1, (atN l n).f2⟩ : NI) else atN l (i - 1) := by
  have ht : (l.take n).length = n := by rw [List.length_take]; omega
  have e : spl l n m = l.take n ++ ((⟨(atN l n).f0, m, (atN l n).f2⟩ : NI) :: (⟨m, (atN l n).f1, (atN l n).f2⟩ : NI) :: l.drop (n + 1)) := by
    unfold spl
    rw [List.append_assoc]
    rfl
  rw [e]
  generalize (⟨(atN l n).f0, m, (atN l n).f2⟩ : NI) = a
  generalize (⟨m, (atN l n).f1, (atN l n).f2⟩ : NI) = b
  unfold atN
  rw [List.getD_eq_getElem?_getD]
  by_cases c : i < n
  · rw [if_pos c, List.getElem?_append_left (by omega), List.getElem?_take, if_pos c, ← List.getD_eq_getElem?_getD]
  · rw [if_neg c, List.getElem?_append_right (by omega), ht]
    by_cases c2 : i = n
    · rw [if_pos c2, c2, Nat.sub_self]; rfl
    · rw [if_neg c2]
      by_cases c3 : i = n + 1
      · rw [if_pos c3, c3, show n + 1 - n = 1 by omega]; rfl
      · rw [if_neg c3, show i - n = (i - n - 2) + 1 + 1 by omega, List.getElem?_cons_succ, List.getElem?_cons_succ, List.getElem?_drop, List.getD_eq_getElem?_getD, show n + 1 + (i - n - 2) = i - 1 by omega]
theorem spl_tier (l : List NI) (n : Nat) (m : Int) (h : tierB l = true) (hn : n < l.length) (h1 : (atN l n).f0 < m) (h2 : m < (atN l n).f1) (hl : l.length < 40) : tierB (spl l n m) = true := by
  have hlen := spl_length l n m hn
  have hx := tier_at h hn
  have hc := note_cut hx.1 h1 h2
  refine tier_of (fun i hi => ?_) (by omega)
  rw [spl_at l n m hn i, spl_at l n m hn (i - 1)]
  by_cases c : i < n
  · rw [if_pos c, if_pos (show i - 1 < n by omega)]
    exact tier_at h (by omega)
  · rw [if_neg c]
    by_cases c2 : i = n
    · rw [if_pos c2]
      refine ⟨hc.1, ?_⟩
      by_cases c0 : i = 0
      · exact Or.inl c0
      · rw [if_pos (show i - 1 < n by omega)]
        have := hx.2
        rw [c2]
        exact this
    · rw [if_neg c2]
      by_cases c3 : i = n + 1
      · rw [if_pos c3, if_neg (show ¬ i - 1 < n by omega), if_pos (show i - 1 = n by omega)]
        exact ⟨hc.2, Or.inr (Int.le_refl _)⟩
      · rw [if_neg c3, if_neg (show ¬ i - 1 < n by omega), if_neg (show ¬ i - 1 = n by omega)]
        have ht := tier_at h (show i - 1 < l.length by omega)
        refine ⟨ht.1, Or.inr ?_⟩
        have h3 : (atN l (i - 1 - 1)).f1 ≤ (atN l (i - 1)).f0 := by
          rcases ht.2 with h0 | h0
          · omega
          · exact h0
        by_cases c4 : i - 1 = n + 1
        · rw [if_pos c4]
          rw [c4] at h3 ⊢
          exact h3
        · rw [if_neg c4]
          exact h3
def splOk (l : List NI) (i m : Int) : Bool := tierB l && decide (0 ≤ i ∧ i < (l.length : Int)) && decide ((atN l i.toNat).f0 < m ∧ m < (atN l i.toNat).f1) && decide (l.length < 40)
def splR (l : List NI) (i m : Int) : List NI × Bool := if splOk l i m = true then (spl l i.toNat m, true) else ([], false)
theorem wr {z : Int} (h0 : -3000000000 ≤ z) (h1 : z ≤ 3000000000) : wrap64 z = z := wrap_in (by omega) (by omega)
theorem in1 (n : Nat) (hn : n ≤ 40) (i : Int) : decide (0 ≤ i ∧ i ≤ wrap64 ((n : Int) - 1)) = decide (0 ≤ i ∧ i < (n : Int)) := by
  rw [wr (by omega) (by omega), decide_eq_decide]
  omega
theorem in2 {f t : Int} (h0 : 0 ≤ f) (h1 : f < t) (h2 : t ≤ 99999) (m : Int) : decide (wrap64 (f + 1) ≤ m ∧ m ≤ wrap64 (t - 1)) = decide (f < m ∧ m < t) := by
  rw [wr (by omega) (by omega), wr (by omega) (by omega), decide_eq_decide]
  omega
theorem spl_sized (l : List NI) (hl : Sized l) (n : Nat) (m : Int) (h : n < l.length) (h40 : l.length ≤ 40) : Sized (spl l n m) := by
  refine ⟨by rw [spl_length l n m h]; omega, fun x hx => ?_⟩
  have hm := hl.2 _ (atN_mem h)
  unfold spl at hx
  rcases List.mem_append.1 hx with hx | hx
  · rcases List.mem_append.1 hx with hx | hx
    · exact hl.2 x (List.mem_of_mem_take hx)
    · simp only [List.mem_cons, List.not_mem_nil, or_false] at hx
      rcases hx with rfl | rfl
      · exact hm
      · exact hm
  · exact hl.2 x (List.mem_of_mem_drop hx)
theorem Split_s (l : List NI) (hl : Sized l) (i m : Int) : Ev (fun k => spec_SplitNote.f k l i m) (splR l i m) := by
  unfold spec_SplitNote.f splR splOk
  refine Ev.bind (tiGood_ l hl) (Ev.ite (fun h1 => ?_) (fun h1 => Ev.some (by rw [Bool.eq_false_iff.2 h1]; rfl)))
  have hn := tier_length h1
  rw [h1]
  refine Ev.have (l1In_ i 0 (wrap64 ((l.length : Int) - 1))) ?_
  rw [in1 _ hn]
  refine Ev.ite (fun h2 => ?_) (fun h2 => Ev.some (by rw [Bool.eq_false_iff.2 h2]; rfl))
  rw [h2]
  have h2' := of_decide_eq_true h2
  obtain ⟨n, rfl⟩ : ∃ n : Nat, i = (n : Int) := ⟨i.toNat, by omega⟩
  have hlt : n < l.length := by omega
  have hb := note_in (tier_at h1 hlt).1
  have er : rd_T63 l (n : Int) = atN l n := rfl
  rw [er, Int.toNat_natCast]
  refine Ev.pos (by omega) (Ev.pos (by omega) (Ev.have (l1In_ _ _ _) ?_))
  rw [in2 hb.1 hb.2.1 hb.2.2]
  refine Ev.ite (fun h3 => ?_) (fun h3 => Ev.some (by rw [Bool.eq_false_iff.2 h3]; rfl))
  have h3' := of_decide_eq_true h3
  have hw : wrap64 ((n : Int) + 1) = ((n + 1 : Nat) : Int) := wrap_succ (by omega)
  have ht : (l.take n).length = n := by rw [List.length_take]; omega
  have hd : (l.drop (n + 1)).length = l.length - (n + 1) := by rw [List.length_drop]
  rw [hw]
  refine Ev.have rfl (Ev.pos (by omega) (Ev.have rfl (Ev.pos (by simp only [List.length_nil]; omega) (Ev.have rfl (Ev.have rfl (Ev.pos (by simp only [List.nil_append, List.length_cons, List.length_nil]; omega) (Ev.have rfl (Ev.pos (by omega) (Ev.pos (by omega) (Ev.have rfl (Ev.pos (by simp only [List.nil_append, List.length_append, List.length_cons, List.length_nil, Int.toNat_natCast]; omega) ?_)))))))))))
  have e : ([] ++ l.take n ++ [(⟨(atN l n).f0, m, (atN l n).f2⟩ : NI), (⟨m, (atN l n).f1, (atN l n).f2⟩ : NI)] ++ l.drop (((n + 1 : Nat) : Int)).toNat) = spl l n m := by
    rw [List.nil_append]; rfl
  rw [e]
  refine Ev.bind (a := if decide (l.length < 40) = true then (spl l n m, true) else ([], false)) ?_ (Ev.some (by rw [h3]; cases decide (l.length < 40) <;> rfl))
  unfold spec_tiIf.f
  refine Ev.bind (tiGood_ _ (spl_sized l hl n m hlt hn)) ?_
  by_cases h4 : l.length < 40
  · rw [spl_tier l n m h1 hlt h3'.1 h3'.2 h4, if_pos (decide_eq_true h4)]
    exact Ev.pos rfl (Ev.some rfl)
  · have : tierB (spl l n m) = false := by
      rw [Bool.eq_false_iff]
      intro h
      have := tier_length h
      rw [spl_length l n m hlt] at this
      omega
    rw [this, if_neg (fun h => h4 (of_decide_eq_true h))]
    exact Ev.neg Bool.false_ne_true (Ev.some rfl)
theorem Split_i (l : List NI) (hl : Sized l) (i m : Int) : Ev (fun k => impl_SplitNote.f k l i m) (splR l i m) := by
  have hj : ∀ z, z = ([], false) → Ev (fun k => impl_SplitNote.j0 k l i m true) z := fun z hz => Ev.step (fun _ => impl_SplitNote.j0.eq_2 ..) (Ev.pos rfl (Ev.some hz.symm))
  unfold impl_SplitNote.f splR splOk
  refine Ev.bind (IsTier_ l hl) (Ev.ite (fun h1 => ?_) (fun h1 => hj _ (by rw [Bool.eq_false_iff.2 h1]; rfl)))
  have hn := tier_length h1
  rw [h1]
  refine Ev.have (within_ i 0 (wrap64 ((l.length : Int) - 1))) ?_
  rw [in1 _ hn]
  refine Ev.ite (fun h2 => ?_) (fun h2 => hj _ (by rw [Bool.eq_false_iff.2 h2]; rfl))
  rw [h2]
  have h2' := of_decide_eq_true h2
  obtain ⟨n, rfl⟩ : ∃ n : Nat, i = (n : Int) := ⟨i.toNat, by omega⟩
  have hlt : n < l.length := by omega
  have hb := note_in (tier_at h1 hlt).1
  have er : rd_T63 l (n : Int) = atN l n := rfl
  rw [er, Int.toNat_natCast]
  refine Ev.pos (by omega) (Ev.pos (by omega) (Ev.have (within_ _ _ _) ?_))
  rw [in2 hb.1 hb.2.1 hb.2.2]
  refine Ev.ite (fun h3 => ?_) (fun h3 => hj _ (by rw [Bool.eq_false_iff.2 h3]; rfl))
  rw [h3]
  by_cases h4 : l.length < 40
  · have hq : ((l.length : Int) == 40) = false := by simp; omega
    have hc : slices_Clone_Note.f l = some l := by
      unfold slices_Clone_Note.f
      rw [if_pos (by omega)]
    have hw : wrap64 ((n : Int) + 1) = ((n + 1 : Nat) : Int) := wrap_succ (by omega)
    have hins : slices_Insert_Note.f l ((n + 1 : Nat) : Int) [(⟨m, (atN l n).f1, (atN l n).f2⟩ : NI)] = some (l.take (n + 1) ++ [(⟨m, (atN l n).f1, (atN l n).f2⟩ : NI)] ++ l.drop (n + 1)) := by
      unfold slices_Insert_Note.f
      rw [if_pos ⟨by omega, by omega, rfl, by omega⟩]
      rfl
    have hx : atN l n = l[n] := by
      unfold atN
      rw [List.getD_eq_getElem?_getD, List.getElem?_eq_getElem hlt]
      rfl
    have ht : (l.take n).length = n := by rw [List.length_take]; omega
    have eI : l.take (n + 1) ++ [(⟨m, (atN l n).f1, (atN l n).f2⟩ : NI)] ++ l.drop (n + 1) = l.take n ++ (atN l n :: (⟨m, (atN l n).f1, (atN l n).f2⟩ : NI) :: l.drop (n + 1)) := by
      rw [List.take_succ_eq_append_getElem hlt, ← hx, List.append_assoc, List.append_assoc]
      rfl
    have hg : rd_T63 (l.take n ++ (atN l n :: (⟨m, (atN l n).f1, (atN l n).f2⟩ : NI) :: l.drop (n + 1))) (n : Int) = atN l n := by
      show (l.take n ++ (atN l n :: (⟨m, (atN l n).f1, (atN l n).f2⟩ : NI) :: l.drop (n + 1))).getD n z63 = atN l n
      rw [List.getD_eq_getElem?_getD, List.getElem?_append_right (by omega), ht, Nat.sub_self]
      rfl
    have hset : (l.take n ++ (atN l n :: (⟨m, (atN l n).f1, (atN l n).f2⟩ : NI) :: l.drop (n + 1))).set n (⟨(atN l n).f0, m, (atN l n).f2⟩ : NI) = spl l n m := by
      rw [List.set_append_right _ _ (by omega), ht, Nat.sub_self]
      unfold spl
      rw [List.append_assoc]
      rfl
    refine Ev.step (fun _ => impl_SplitNote.j0.eq_2 ..) (Ev.neg (by rw [hq]; simp) (Ev.have hc (Ev.pos (by omega) (Ev.pos (by omega) ?_))))
    rw [hw, er]
    refine Ev.have (hins.trans (congrArg some eI)) (Ev.pos (by rw [List.length_append, ht]; simp only [List.length_cons]; omega) (Ev.some ?_))
    rw [hg, Int.toNat_natCast, hset, decide_eq_true h4]
    rfl
  · have hq : ((l.length : Int) == 40) = true := by simp; omega
    rw [hq]
    exact hj _ (by rw [decide_eq_false h4]; rfl)
theorem splR_length (l : List NI) (i m : Int) : (splR l i m).1.length ≤ l.length + 1 := by
  unfold splR
  split
  · rename_i h
    unfold splOk at h
    simp only [Bool.and_eq_true, decide_eq_true_eq] at h
    show (spl l i.toNat m).length ≤ _
    rw [spl_length l _ m (by omega)]
    exact Nat.le_refl _
  · exact Nat.zero_le _
theorem FnExactSplitNote : laws_FnExactSplitNote.Pure := by
  intro l i m hl _ _
  obtain ⟨z0, ⟨K0, hz0⟩, _, _⟩ := szNoteS_ l hl 1048576 (by omega) (by omega)
  obtain ⟨K2, ht0⟩ := toNoteS_ l hl.2
  have hs0 := Given.sized hl
  have hl2 : (l.map conv).length ≤ 4398046511104 := by rw [List.length_map]; have := hl.2; omega
  obtain ⟨K4, g3⟩ := Split_s _ hs0 i m
  obtain ⟨K5, g4⟩ := Split_i _ hs0 i m
  have hr := splR_length (l.map conv) i m
  generalize splR (l.map conv) i m = r at g3 g4 hr
  obtain ⟨r, q⟩ := r
  have hr2 : r.length ≤ 4398046511105 := Nat.le_trans hr (by omega)
  obtain ⟨K6, he⟩ := eqNoteS_ r (by omega)
  obtain ⟨K7, hx⟩ := eqNoteS_ _ hs0.1
  obtain ⟨K9, hmx⟩ := markNoteS_ (l.map conv) (by omega) 1 (by omega) (by omega)
  obtain ⟨K11, hmr⟩ := markNoteS_ r (by omega) 1 (by omega) (by omega)
  obtain ⟨K12, hh⟩ := heldNoteS_ r.length (by omega) 1 (by omega) (by omega)
  refine ⟨K0 + K2 + K4 + K5 + K6 + K7 + K9 + K11 + K12, z0, hz0 _ (by omega), fun _ => ?_⟩
  exact ⟨_, r, q, _, _, _, _, ht0 _ (by omega), g3 _ (by omega), g4 _ (by omega), he _ (by omega), hx _ (by omega), hmx _ (by omega), by omega, hmr _ (by omega), hh _ (by omega), by omega⟩
end Go.Proofs.Ytmllkdgdkagkkaa.Pure
