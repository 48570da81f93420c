/- The text of a tier: both functions write the same one; no condition but that it is a tier. -/
import Derived.Test.YtpdcopbnhaoilaaDoorG13
import Derived.Test.YtpdcopbnhaoilaaDoorG15
import Derived.Test.YtpdcopbnhaoilaaDoorMNote
import Derived.Test.YtpdcopbnhaoilaaDoorMNum
namespace Go.Proofs.YtpdcopbnhaoilaaDoor.MTierT
open Go.RowKit Go.Proofs.YtpdcopbnhaoilaaDoor.G Go.Proofs.YtpdcopbnhaoilaaDoorW.PrintWords Go.Proofs.YtpdcopbnhaoilaaDoorW.PrintLast Go.Proofs.YtpdcopbnhaoilaaDoor.MPure Go.Proofs.YtpdcopbnhaoilaaDoor.MWord Go.Proofs.YtpdcopbnhaoilaaDoor.MNote Go.Proofs.YtpdcopbnhaoilaaDoor.MNum

/-- What is written of one note. -/
def piece (x : NI) : ByteArray := ((((num x.f0 ++ (⟨#[45]⟩ : ByteArray)) ++ num x.f1) ++ (⟨#[32]⟩ : ByteArray)) ++ x.f2) ++ (⟨#[59]⟩ : ByteArray)
def tailT (s : ByteArray) (l : List NI) : ByteArray := l.foldl (fun s x => s ++ piece x) s
def tierT (l : List NI) : ByteArray := tailT ⟨#[]⟩ l
theorem tier_40 {l : List NI} (h : tierB l = true) : l.length ≤ 40 := by
  unfold tierB at h
  have := of_decide_eq_true (Bool.and_eq_true_iff.1 h).2
  omega
theorem tier_note {l : List NI} (h : tierB l = true) {i : Nat} (hi : i < l.length) : noteB (atN l i).f0 (atN l i).f1 (atN l i).f2 = true := by
  unfold tierB at h
  exact (Bool.and_eq_true_iff.1 (List.all_eq_true.1 (Bool.and_eq_true_iff.1 h).1 i (List.mem_range.2 hi))).1
theorem note_says {f t : Int} {g : ByteArray} (h : noteB f t g = true) : (0 ≤ f ∧ f < 1000000) ∧ (0 ≤ t ∧ t < 1000000) ∧ g.size ≤ 8 := by
  unfold noteB at h
  obtain ⟨h, hw⟩ := Bool.and_eq_true_iff.1 h
  obtain ⟨h, _⟩ := Bool.and_eq_true_iff.1 h
  obtain ⟨ha, hb⟩ := Bool.and_eq_true_iff.1 h
  have ha := of_decide_eq_true ha
  have hb := of_decide_eq_true hb
  exact ⟨⟨ha.1, by omega⟩, ⟨hb.1, by omega⟩, by
    unfold wordB at hw
    have := of_decide_eq_true (Bool.and_eq_true_iff.1 hw).2
    omega⟩
theorem drop_at {l : List NI} {i : Nat} (h : i < l.length) : l.drop i = atN l i :: l.drop (i + 1) := by
  rw [List.drop_eq_getElem_cons h]
  congr 1
  unfold atN
  rw [List.getD_eq_getElem?_getD, List.getElem?_eq_getElem h]
  rfl
theorem piece_size {x : NI} (h : noteB x.f0 x.f1 x.f2 = true) : (piece x).size ≤ 23 := by
  obtain ⟨⟨a0, a1⟩, ⟨b0, b1⟩, c⟩ := note_says h
  have ha := num_size x.f0 a0 a1
  have hb := num_size x.f1 b0 b1
  have e1 : (⟨#[45]⟩ : ByteArray).size = 1 := rfl
  have e2 : (⟨#[32]⟩ : ByteArray).size = 1 := rfl
  have e3 : (⟨#[59]⟩ : ByteArray).size = 1 := rfl
  unfold piece
  simp only [ByteArray.size_append]
  omega
theorem text_loops (l : List NI) (h : tierB l = true) : ∀ d i : Nat, i + d = l.length → ∀ s : ByteArray, s.size ≤ 23 * i →
    Ev (fun k => spec_tiText.l0 k s l (l.length : Int) (i : Int)) (tailT s (l.drop i)) ∧ Ev (fun k => impl_tierText.l0 k s l (l.length : Int) (i : Int)) (tailT s (l.drop i)) := by
  have h40 := tier_40 h
  intro d
  induction d with
  | zero =>
    intro i hi s _
    rw [List.drop_of_length_le (by omega)]
    exact ⟨Ev.step (fun _ => spec_tiText.l0.eq_2 ..) (Ev.neg (by omega) (Ev.some rfl)), Ev.step (fun _ => impl_tierText.l0.eq_2 ..) (Ev.neg (by omega) (Ev.some rfl))⟩
  | succ d ih =>
    intro i hi s hs
    have hn := tier_note h (i := i) (by omega)
    have hz := piece_size hn
    obtain ⟨⟨a0, a1⟩, ⟨b0, b1⟩, c⟩ := note_says hn
    have ha := num_size _ a0 a1
    have hb := num_size _ b0 b1
    have e1 : (⟨#[45]⟩ : ByteArray).size = 1 := rfl
    have e2 : (⟨#[32]⟩ : ByteArray).size = 1 := rfl
    have e3 : (⟨#[59]⟩ : ByteArray).size = 1 := rfl
    have p := ih (i + 1) (by omega) (s ++ piece (atN l i)) (by rw [ByteArray.size_append]; omega)
    rw [← wrap_succ (by omega)] at p
    rw [drop_at (by omega)]
    have s1 : (num (atN l i).f0).size + 1 ≤ 9223372036854775807 := by omega
    have s2 : (num (atN l i).f0 ++ (⟨#[45]⟩ : ByteArray)).size + (num (atN l i).f1).size ≤ 9223372036854775807 := by simp only [ByteArray.size_append]; omega
    have s3 : ((num (atN l i).f0 ++ (⟨#[45]⟩ : ByteArray)) ++ num (atN l i).f1).size + 1 ≤ 9223372036854775807 := by simp only [ByteArray.size_append]; omega
    have s4 : (((num (atN l i).f0 ++ (⟨#[45]⟩ : ByteArray)) ++ num (atN l i).f1) ++ (⟨#[32]⟩ : ByteArray)).size + (atN l i).f2.size ≤ 9223372036854775807 := by simp only [ByteArray.size_append]; omega
    have s5 : ((((num (atN l i).f0 ++ (⟨#[45]⟩ : ByteArray)) ++ num (atN l i).f1) ++ (⟨#[32]⟩ : ByteArray)) ++ (atN l i).f2).size + 1 ≤ 9223372036854775807 := by simp only [ByteArray.size_append]; omega
    have s6 : s.size + (piece (atN l i)).size ≤ 9223372036854775807 := by omega
    exact ⟨Ev.step (fun _ => spec_tiText.l0.eq_2 ..) (Ev.pos (by omega) (Ev.pos (by omega) (Ev.pos (by omega) (Ev.bind (l1Num_at _ a0 a1) (Ev.pos s1 (Ev.bind (l1Num_at _ b0 b1) (Ev.pos s2 (Ev.pos s3 (Ev.pos s4 (Ev.pos s5 (Ev.pos s6 p.1))))))))))),
      Ev.step (fun _ => impl_tierText.l0.eq_2 ..) (Ev.pos (by omega) (Ev.pos (by omega) (Ev.pos (by omega) (Ev.have (Itoa_at _ a0 a1) (Ev.pos s1 (Ev.have (Itoa_at _ b0 b1) (Ev.pos s2 (Ev.pos s3 (Ev.pos s4 (Ev.pos s5 (Ev.pos s6 p.2)))))))))))⟩
def textR (l : List NI) : ByteArray × Bool := if tierB l = true then (tierT l, true) else (⟨#[]⟩, false)
theorem TierText_s (l : List NI) (hl : Sized l) : Ev (fun k => spec_TierText.f k l) (textR l) := by
  unfold spec_TierText.f textR
  refine Ev.bind (tiGood_ l hl) (Ev.ite (fun h => ?_) (fun h => ?_))
  · rw [if_pos h]
    exact Ev.bind (text_loops l h l.length 0 (by omega) ⟨#[]⟩ (Nat.le_refl _)).1 (Ev.some rfl)
  · rw [if_neg h]
    exact Ev.some rfl
theorem TierText_i (l : List NI) (hl : Sized l) : Ev (fun k => impl_TierText.f k l) (textR l) := by
  unfold impl_TierText.f textR
  refine Ev.bind (IsTier_ l hl) (Ev.ite (fun h => ?_) (fun h => ?_))
  · rw [if_pos h]
    exact Ev.bind (text_loops l h l.length 0 (by omega) ⟨#[]⟩ (Nat.le_refl _)).2 (Ev.some rfl)
  · rw [if_neg h]
    exact Ev.some rfl
end Go.Proofs.YtpdcopbnhaoilaaDoor.MTierT
