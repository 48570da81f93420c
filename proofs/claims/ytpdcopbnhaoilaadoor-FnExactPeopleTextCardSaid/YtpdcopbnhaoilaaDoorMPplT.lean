/- The text of people: both functions write the same one; no condition but that they are people. -/
import Derived.Test.YtpdcopbnhaoilaaDoorG4
import Derived.Test.YtpdcopbnhaoilaaDoorG7
import Derived.Test.YtpdcopbnhaoilaaDoorMPersonB
import Derived.Test.YtpdcopbnhaoilaaDoorMNum
namespace Go.Proofs.YtpdcopbnhaoilaaDoor.MPplT
open Go.RowKit Go.Proofs.YtpdcopbnhaoilaaDoor.G Go.Proofs.YtpdcopbnhaoilaaDoorW.PrintWords Go.Proofs.YtpdcopbnhaoilaaDoorW.PrintLast Go.Proofs.YtpdcopbnhaoilaaDoor.MPure Go.Proofs.YtpdcopbnhaoilaaDoor.MWord Go.Proofs.YtpdcopbnhaoilaaDoor.MPerson Go.Proofs.YtpdcopbnhaoilaaDoor.MNum

/-- The letter of a number. -/
def ltr (n : Int) : ByteArray := (⟨#[97, 98, 99, 100, 101, 102, 103, 104, 105, 106, 107, 108, 109, 110, 111, 112, 113, 114, 115, 116, 117, 118, 119, 120, 121, 122]⟩ : ByteArray).extract (n : Int).toNat (wrap64 (n + 1) : Int).toNat
theorem ltr_size (n : Int) : (ltr n).size ≤ 26 := by
  unfold ltr
  rw [ByteArray.size_extract]
  have : (⟨#[97, 98, 99, 100, 101, 102, 103, 104, 105, 106, 107, 108, 109, 110, 111, 112, 113, 114, 115, 116, 117, 118, 119, 120, 121, 122]⟩ : ByteArray).size = 26 := rfl
  omega
/-- What is written of one person. -/
def piece (x : PI) : ByteArray := (((((x.f0 ++ (⟨#[32]⟩ : ByteArray)) ++ ltr x.f1) ++ num x.f2) ++ (⟨#[64]⟩ : ByteArray)) ++ num x.f3) ++ (⟨#[59]⟩ : ByteArray)
def tailT (s : ByteArray) (l : List PI) : ByteArray := l.foldl (fun s x => s ++ piece x) s
def peopleT (l : List PI) : ByteArray := tailT ⟨#[]⟩ l
theorem people_10 {l : List PI} (h : peopleB l = true) : l.length ≤ 10 := by
  unfold peopleB at h
  have := of_decide_eq_true (Bool.and_eq_true_iff.1 h).2
  omega
theorem people_one {l : List PI} (h : peopleB l = true) {i : Nat} (hi : i < l.length) : personB (atP l i).f0 (atP l i).f1 (atP l i).f2 (atP l i).f3 = true := by
  unfold peopleB at h
  exact (Bool.and_eq_true_iff.1 (List.all_eq_true.1 (Bool.and_eq_true_iff.1 h).1 i (List.mem_range.2 hi))).1
theorem person_says {s : ByteArray} {a b c : Int} (h : personB s a b c = true) : s.size ≤ 8 ∧ (0 ≤ a ∧ a ≤ 25) ∧ (0 ≤ b ∧ b < 1000000) ∧ (0 ≤ c ∧ c < 1000000) := by
  unfold personB at h
  obtain ⟨h, hc⟩ := Bool.and_eq_true_iff.1 h
  obtain ⟨h, hb⟩ := Bool.and_eq_true_iff.1 h
  obtain ⟨hw, ha⟩ := Bool.and_eq_true_iff.1 h
  have ha := of_decide_eq_true ha
  have hb := of_decide_eq_true hb
  have hc := of_decide_eq_true hc
  unfold wordB at hw
  have hw := of_decide_eq_true (Bool.and_eq_true_iff.1 hw).2
  exact ⟨by omega, ha, by omega, by omega⟩
theorem drop_at {l : List PI} {i : Nat} (h : i < l.length) : l.drop i = atP l i :: l.drop (i + 1) := by
  rw [List.drop_eq_getElem_cons h]
  congr 1
  unfold atP
  rw [List.getD_eq_getElem?_getD, List.getElem?_eq_getElem h]
  rfl
theorem piece_size {x : PI} (h : personB x.f0 x.f1 x.f2 x.f3 = true) : (piece x).size ≤ 49 := by
  obtain ⟨a, _, ⟨c0, c1⟩, ⟨d0, d1⟩⟩ := person_says h
  have hc := num_size x.f2 c0 c1
  have hd := num_size x.f3 d0 d1
  have hl := ltr_size x.f1
  have e1 : (⟨#[32]⟩ : ByteArray).size = 1 := rfl
  have e2 : (⟨#[64]⟩ : ByteArray).size = 1 := rfl
  have e3 : (⟨#[59]⟩ : ByteArray).size = 1 := rfl
  unfold piece
  simp only [ByteArray.size_append]
  omega
theorem text_loops (l : List PI) (h : peopleB l = true) : ∀ d i : Nat, i + d = l.length → ∀ s : ByteArray, s.size ≤ 49 * i →
    Ev (fun k => spec_PeopleText.l0 k s l (l.length : Int) (i : Int)) (tailT s (l.drop i), true) ∧ Ev (fun k => impl_PeopleText.l0 k s l (l.length : Int) (i : Int)) (tailT s (l.drop i), true) := by
  have h10 := people_10 h
  intro d
  induction d with
  | zero =>
    intro i hi s _
    rw [List.drop_of_length_le (by omega)]
    exact ⟨Ev.step (fun _ => spec_PeopleText.l0.eq_2 ..) (Ev.neg (by omega) (Ev.some rfl)), Ev.step (fun _ => impl_PeopleText.l0.eq_2 ..) (Ev.neg (by omega) (Ev.some rfl))⟩
  | succ d ih =>
    intro i hi s hs
    have hn := people_one h (i := i) (by omega)
    have hz := piece_size hn
    obtain ⟨a, ⟨b0, b1⟩, ⟨c0, c1⟩, ⟨d0, d1⟩⟩ := person_says hn
    have hc := num_size _ c0 c1
    have hd := num_size _ d0 d1
    have hl := ltr_size (atP l i).f1
    have e1 : (⟨#[32]⟩ : ByteArray).size = 1 := rfl
    have e2 : (⟨#[64]⟩ : ByteArray).size = 1 := rfl
    have e3 : (⟨#[59]⟩ : ByteArray).size = 1 := rfl
    have w0 : wrap64 ((atP l i).f1 + 1) = (atP l i).f1 + 1 := wrap_in (by omega) (by omega)
    have w1 : (atP l i).f1 ≤ wrap64 ((atP l i).f1 + 1) := by omega
    have w2 : wrap64 ((atP l i).f1 + 1) ≤ 26 := by omega
    have p := ih (i + 1) (by omega) (s ++ piece (atP l i)) (by rw [ByteArray.size_append]; omega)
    rw [← wrap_succ (by omega)] at p
    rw [drop_at (by omega)]
    have s1 : (atP l i).f0.size + 1 ≤ 9223372036854775807 := by omega
    have s2 : ((atP l i).f0 ++ (⟨#[32]⟩ : ByteArray)).size + (ltr (atP l i).f1).size ≤ 9223372036854775807 := by simp only [ByteArray.size_append]; omega
    have s3 : (((atP l i).f0 ++ (⟨#[32]⟩ : ByteArray)) ++ ltr (atP l i).f1).size + (num (atP l i).f2).size ≤ 9223372036854775807 := by simp only [ByteArray.size_append]; omega
    have s4 : ((((atP l i).f0 ++ (⟨#[32]⟩ : ByteArray)) ++ ltr (atP l i).f1) ++ num (atP l i).f2).size + 1 ≤ 9223372036854775807 := by simp only [ByteArray.size_append]; omega
    have s5 : (((((atP l i).f0 ++ (⟨#[32]⟩ : ByteArray)) ++ ltr (atP l i).f1) ++ num (atP l i).f2) ++ (⟨#[64]⟩ : ByteArray)).size + (num (atP l i).f3).size ≤ 9223372036854775807 := by simp only [ByteArray.size_append]; omega
    have s6 : ((((((atP l i).f0 ++ (⟨#[32]⟩ : ByteArray)) ++ ltr (atP l i).f1) ++ num (atP l i).f2) ++ (⟨#[64]⟩ : ByteArray)) ++ num (atP l i).f3).size + 1 ≤ 9223372036854775807 := by simp only [ByteArray.size_append]; omega
    have s7 : s.size + (piece (atP l i)).size ≤ 9223372036854775807 := by omega
    exact ⟨Ev.step (fun _ => spec_PeopleText.l0.eq_2 ..) (Ev.pos (by omega) (Ev.pos (by omega) (Ev.pos (by omega) (Ev.pos s1 (Ev.pos b0 (Ev.pos w1 (Ev.pos w2 (Ev.pos s2 (Ev.bind (l1Num_at _ c0 c1) (Ev.pos s3 (Ev.pos s4 (Ev.bind (l1Num_at _ d0 d1) (Ev.pos s5 (Ev.pos s6 (Ev.pos s7 p.1))))))))))))))),
      Ev.step (fun _ => impl_PeopleText.l0.eq_2 ..) (Ev.pos (by omega) (Ev.pos (by omega) (Ev.pos (by omega) (Ev.pos s1 (Ev.pos b0 (Ev.pos w1 (Ev.pos w2 (Ev.pos s2 (Ev.have (Itoa_at _ c0 c1) (Ev.pos s3 (Ev.pos s4 (Ev.have (Itoa_at _ d0 d1) (Ev.pos s5 (Ev.pos s6 (Ev.pos s7 p.2)))))))))))))))⟩
def textR (l : List PI) : ByteArray × Bool := if peopleB l = true then (peopleT l, true) else (⟨#[]⟩, false)
theorem PeopleText_s (l : List PI) (hl : SizedP l) : Ev (fun k => spec_PeopleText.f k l) (textR l) := by
  unfold spec_PeopleText.f textR
  refine Ev.bind (naGood_ l hl) (Ev.ite (fun h => ?_) (fun h => ?_))
  · rw [if_pos h]
    exact (text_loops l h l.length 0 (by omega) ⟨#[]⟩ (Nat.le_refl _)).1
  · rw [if_neg h]
    exact Ev.some rfl
theorem PeopleText_i (l : List PI) (hl : SizedP l) : Ev (fun k => impl_PeopleText.f k l) (textR l) := by
  unfold impl_PeopleText.f textR
  refine Ev.bind (ArePeople_ l hl) (Ev.ite (fun h => ?_) (fun h => ?_))
  · rw [if_pos h]
    exact (text_loops l h l.length 0 (by omega) ⟨#[]⟩ (Nat.le_refl _)).2
  · rw [if_neg h]
    exact Ev.some rfl
end Go.Proofs.YtpdcopbnhaoilaaDoor.MPplT
