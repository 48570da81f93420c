/- FnTierEdits answers true for all bytes. No condition beyond what every row's reading gives. -/
import Derived.Test.YtgapcmmhbegdeaaG0
import Derived.Test.YtgapcmmhbegdeaaG10
import Derived.Test.YtgapcmmhbegdeaaG72
import Derived.Test.YtgapcmmhbegdeaaG76
import Derived.Test.YtgapcmmhbegdeaaG77
import Derived.Test.YtgapcmmhbegdeaaG80
import Derived.Test.YtgapcmmhbegdeaaG82
import Derived.Test.YtgapcmmhbegdeaaMAll
namespace Go.Proofs.Ytgapcmmhbegdeaa.Pure
open Go.RowKit Go.Proofs.Ytgapcmmhbegdeaa.G Go.Proofs.YtgapcmmhbegdeaaW.PrintWords Go.Proofs.YtgapcmmhbegdeaaW.PrintLast Go.Proofs.Ytgapcmmhbegdeaa.MPure Go.Proofs.Ytgapcmmhbegdeaa.MWord Go.Proofs.Ytgapcmmhbegdeaa.MNote Go.Proofs.Ytgapcmmhbegdeaa.MDraw Go.Proofs.Ytgapcmmhbegdeaa.MDrawT Go.Proofs.Ytgapcmmhbegdeaa.MQNotes
open Go.Proofs.Ytgapcmmhbegdeaa.MCSplitNote (splR spl splOk Split_s Split_i)
open Go.Proofs.Ytgapcmmhbegdeaa.MCJoinNotes (joiR joiOk Join_s Join_i)
open Go.Proofs.Ytgapcmmhbegdeaa.MCMoveTier (mvR mvL mvEnd mv1 MoveTier_s MoveTier_i)
open Go.Proofs.Ytgapcmmhbegdeaa.MCNoteAt (noteAtR NoteAt_s NoteAt_i)

/-! ### the draws -/
theorem frame_ (s : List Int) (hs : Bytes s) (a d : Int) (h0 : 0 ≤ a) (h1 : a ≤ 100000000) : ∃ v a' d', spec_l1Cur_frame.f s a d = some (v, a', d') := by
  obtain ⟨v1, a1, d1, e1, _, _, _, p1, q1⟩ := pick_ s hs a d 60 h0 (by omega)
  obtain ⟨v2, a2, d2, e2, _, p2, q2⟩ := among_ s hs a1 d1 [15, (-1), 100000] (by decide) (by omega) (by omega)
  obtain ⟨v3, a3, d3, e3, _, p3, q3⟩ := among_ s hs a2 d2 [0, 5, 10, 12, v1, 99999, v2] (by simp) (by omega) (by omega)
  unfold spec_l1Cur_frame.f
  rw [e1]; simp only [Option.bind_some]; rw [e2]; simp only [Option.bind_some]; rw [e3]
  exact ⟨_, _, _, rfl⟩
theorem DrawNoteAt_ (s : List Int) (hs : Bytes s) : ∃ l f, Ev (fun k => spec_DrawNoteAt.f k s) (l, f) ∧ l.length ≤ 60 ∧ Short l := by
  obtain ⟨l, a1, d1, e1, hl, hS, p1, q1⟩ := tier_ s hs 0 0 (by omega) (by omega)
  obtain ⟨f, a2, d2, e2⟩ := frame_ s hs a1 d1 (by omega) (by omega)
  exact ⟨l, f, Ev.bind e1 (Ev.have e2 (Ev.some rfl)), hl, hS⟩
theorem DrawMoveTier_ (s : List Int) (hs : Bytes s) : ∃ l f, Ev (fun k => spec_DrawMoveTier.f k s) (l, f) ∧ l.length ≤ 60 ∧ Short l := by
  obtain ⟨l, a1, d1, e1, hl, hS, p1, q1⟩ := tier_ s hs 0 0 (by omega) (by omega)
  obtain ⟨v2, a2, d2, e2, _, p2, q2⟩ := among_ s hs a1 d1 [1, 100000, (-9223372036854775808)] (by decide) (by omega) (by omega)
  obtain ⟨v3, a3, d3, e3, _, p3, q3⟩ := among_ s hs a2 d2 [0, 5, (-5), 99900, 99999, (-99999), v2] (by simp) (by omega) (by omega)
  exact ⟨l, v3, Ev.bind e1 (Ev.have e2 (Ev.have e3 (Ev.some rfl))), hl, hS⟩
theorem Short.set {l : List NI} (h : Short l) (i : Nat) {x : NI} (hx : x.f2.size ≤ 100) : Short (l.set i x) := fun y hy => by
  rcases List.mem_or_eq_of_mem_set hy with hy | rfl
  · exact h y hy
  · exact hx
theorem rd_mem (s : List NI) (n : Int) (h0 : 0 ≤ n) (h : n < (s.length : Int)) : rd_T58 s n ∈ s := by
  show s.getD n.toNat z58 ∈ s
  rw [List.getD_eq_getElem?_getD, List.getElem?_eq_getElem (show n.toNat < s.length by omega)]
  exact List.getElem_mem _
theorem DrawJoinNotes_ (s : List Int) (hs : Bytes s) : ∃ l f, Ev (fun k => spec_DrawJoinNotes.f k s) (l, f) ∧ l.length ≤ 60 ∧ Short l := by
  obtain ⟨l, a1, d1, e1, hl, hS, p1, q1⟩ := tier_ s hs 0 0 (by omega) (by omega)
  have go : ∀ (b : Bool) (a2 d2 : Int), 0 ≤ a2 → a2 ≤ 10000 → (b = true → 1 < l.length) → ∃ r f, Ev (fun k => spec_DrawJoinNotes.j0 k l (l.length : Int) b s a2 d2) (r, f) ∧ r.length ≤ 60 ∧ Short r := by
    intro b a2 d2 h0 h1 hb
    cases b with
    | true =>
      have h2 := hb rfl
      obtain ⟨v, a3, d3, e3, v0, _, v1, p3, q3⟩ := pick_ s hs a2 d2 ((l.length : Int) - 1) h0 (by omega)
      have hv := v1 (by omega)
      have w1 : wrap64 ((l.length : Int) - 1) = (l.length : Int) - 1 := wrap_in (by omega) (by omega)
      have w2 : wrap64 (v + 1) = v + 1 := wrap_in (by omega) (by omega)
      have hsm := hS _ (rd_mem l v v0 (by omega))
      refine ⟨l.set (v + 1).toNat ⟨(rd_T58 l (v + 1)).f0, (rd_T58 l (v + 1)).f1, (rd_T58 l v).f2⟩, v, Ev.step (fun _ => spec_DrawJoinNotes.j0.eq_2 ..) (Ev.pos rfl ?_), by rw [List.length_set]; exact hl, Short.set hS _ hsm⟩
      rw [w1]
      refine Ev.have e3 (Ev.pos v0 (Ev.pos (by show v < (l.length : Int); omega) ?_))
      show Ev (fun k => if 0 ≤ wrap64 (v + 1) then (if wrap64 (v + 1) < (l.length : Int) then some (l.set (wrap64 (v + 1)).toNat ⟨(rd_T58 l (wrap64 (v + 1))).f0, (rd_T58 l (wrap64 (v + 1))).f1, (rd_T58 l v).f2⟩, v) else none) else none) _
      rw [w2]
      exact Ev.pos (by omega) (Ev.pos (by omega) (Ev.some rfl))
    | false =>
      obtain ⟨v, a3, d3, e3, v0, _, v1, p3, q3⟩ := pick_ s hs a2 d2 (wrap64 ((l.length : Int) + 1)) h0 (by omega)
      obtain ⟨f, a4, d4, e4, _, p4, q4⟩ := among_ s hs a3 d3 [0, v, wrap64 ((l.length : Int) - 1), (l.length : Int), (-1)] (by simp) (by omega) (by omega)
      exact ⟨l, f, Ev.step (fun _ => spec_DrawJoinNotes.j0.eq_2 ..) (Ev.neg (by decide) (Ev.have e3 (Ev.have e4 (Ev.some rfl)))), hl, hS⟩
  by_cases h2 : 1 < l.length
  · obtain ⟨b, a2, d2, e2, p2, q2⟩ := one_ s hs a1 d1 2 (by omega) (by omega)
    obtain ⟨r, f, er, hr, hSr⟩ := go b a2 d2 (by omega) (by omega) (fun _ => h2)
    exact ⟨r, f, Ev.bind e1 (Ev.pos (by show (l.length : Int) > 1; omega) (Ev.have e2 er)), hr, hSr⟩
  · obtain ⟨r, f, er, hr, hSr⟩ := go false a1 d1 (by omega) (by omega) (fun h => (nomatch h))
    exact ⟨r, f, Ev.bind e1 (Ev.neg (by show ¬ (l.length : Int) > 1; omega) er), hr, hSr⟩
theorem DrawSplitNote_ (s : List Int) (hs : Bytes s) : ∃ l i f, Ev (fun k => spec_DrawSplitNote.f k s) (l, i, f) ∧ l.length ≤ 60 ∧ Short l := by
  obtain ⟨l, a1, d1, e1, hl, hS, p1, q1⟩ := tier_ s hs 0 0 (by omega) (by omega)
  have go : ∀ (b : Bool) (a2 d2 : Int), 0 ≤ a2 → a2 ≤ 10000 → (b = true → 0 < l.length) → ∃ i f, Ev (fun k => spec_DrawSplitNote.j0 k l (l.length : Int) b s a2 d2) (l, i, f) := by
    intro b a2 d2 h0 h1 hb
    cases b with
    | true =>
      have h2 := hb rfl
      obtain ⟨v, a3, d3, e3, v0, _, v1, p3, q3⟩ := pick_ s hs a2 d2 (l.length : Int) h0 (by omega)
      have hv := v1 (by omega)
      obtain ⟨u, a4, d4, e4, _⟩ := pick_ s hs a3 d3 (wrap64 ((wrap64 (((rd_T58 l v).f1) - ((rd_T58 l v).f0))) + 1)) (by omega) (by omega)
      exact ⟨v, _, Ev.step (fun _ => spec_DrawSplitNote.j0.eq_2 ..) (Ev.pos rfl (Ev.have e3 (Ev.pos v0 (Ev.pos (by show v < (l.length : Int); omega) (Ev.have e4 (Ev.some rfl))))))⟩
    | false =>
      obtain ⟨v, a3, d3, e3, _, p3, q3⟩ := among_ s hs a2 d2 [0, (l.length : Int), (-1)] (by simp) h0 (by omega)
      obtain ⟨f, a4, d4, e4⟩ := frame_ s hs a3 d3 (by omega) (by omega)
      exact ⟨v, f, Ev.step (fun _ => spec_DrawSplitNote.j0.eq_2 ..) (Ev.neg (by decide) (Ev.have e3 (Ev.have e4 (Ev.some rfl))))⟩
  by_cases h2 : 0 < l.length
  · cases ht : tierB l with
    | true =>
      obtain ⟨b, a2, d2, e2, p2, q2⟩ := one_ s hs a1 d1 4 (by omega) (by omega)
      obtain ⟨i, f, er⟩ := go (!b) a2 d2 (by omega) (by omega) (fun _ => h2)
      exact ⟨l, i, f, Ev.bind e1 (Ev.pos (by show (l.length : Int) > 0; omega) (Ev.bind (tiGood_ l (hS.sized (by omega))) (Ev.pos ht (Ev.have e2 er)))), hl, hS⟩
    | false =>
      obtain ⟨i, f, er⟩ := go false a1 d1 (by omega) (by omega) (fun h => (nomatch h))
      exact ⟨l, i, f, Ev.bind e1 (Ev.pos (by show (l.length : Int) > 0; omega) (Ev.bind (tiGood_ l (hS.sized (by omega))) (Ev.neg (by rw [ht]; decide) er))), hl, hS⟩
  · obtain ⟨i, f, er⟩ := go false a1 d1 (by omega) (by omega) (fun h => (nomatch h))
    exact ⟨l, i, f, Ev.bind e1 (Ev.neg (by show ¬ (l.length : Int) > 0; omega) er), hl, hS⟩

/-! ### what the edits come to -/
theorem bytes_eq {a b : ByteArray} (h : a.toList = b.toList) : a = b := by
  rw [ByteArray.toList_eq, ByteArray.toList_eq] at h
  exact ByteArray.ext (Array.toList_inj.1 h)
theorem rd_at (l : List NI) (n : Nat) : rd_T58 l (n : Int) = atN l n := rfl
theorem at_get (l : List NI) (n : Nat) (h : n < l.length) : atN l n = l[n] := by
  unfold atN
  rw [List.getD_eq_getElem?_getD, List.getElem?_eq_getElem h]
  rfl
theorem cut_at (l : List NI) (n : Nat) (h : n < l.length) : l.take n ++ atN l n :: l.drop (n + 1) = l := by
  rw [at_get l n h, ← List.drop_eq_getElem_cons h, List.take_append_drop]
/-- A split note is joined again. -/
theorem split_join (l : List NI) (i m : Int) (h : splOk l i m = true) : joiR (spl l i.toNat m) i = (l, true) ∧ tierB (spl l i.toNat m) = true := by
  unfold splOk at h
  simp only [Bool.and_eq_true, decide_eq_true_eq] at h
  obtain ⟨⟨⟨h1, h2⟩, h3⟩, h4⟩ := h
  obtain ⟨n, rfl⟩ : ∃ n : Nat, i = (n : Int) := ⟨i.toNat, by omega⟩
  rw [Int.toNat_natCast] at h3 ⊢
  have hn : n < l.length := by omega
  have ht := MCSplitNote.spl_tier l n m h1 hn h3.1 h3.2 h4
  have hlen := MCSplitNote.spl_length l n m hn
  have e0 : rd_T58 (spl l n m) (n : Int) = (⟨(atN l n).f0, m, (atN l n).f2⟩ : NI) := by
    rw [rd_at, MCSplitNote.spl_at l n m hn n, if_neg (by omega), if_pos rfl]
  have e1 : rd_T58 (spl l n m) ((n : Int) + 1) = (⟨m, (atN l n).f1, (atN l n).f2⟩ : NI) := by
    have : ((n : Int) + 1) = ((n + 1 : Nat) : Int) := rfl
    rw [this, rd_at, MCSplitNote.spl_at l n m hn (n + 1), if_neg (by omega), if_neg (by omega), if_pos rfl]
  refine ⟨?_, ht⟩
  unfold joiR
  rw [if_pos ⟨ht, ⟨by omega, by rw [hlen, wrap_in (by omega) (by omega)]; omega⟩, by rw [e0, e1], by rw [e0, e1]⟩, e0, e1, Int.toNat_natCast]
  have htk : (l.take n).length = n := by rw [List.length_take]; omega
  have q1 : (spl l n m).take n = l.take n := by
    unfold spl
    rw [List.append_assoc, List.take_append_of_le_length (by omega), List.take_of_length_le (by omega)]
  have q2 : (spl l n m).drop (n + 2) = l.drop (n + 1) := by
    unfold spl
    rw [List.drop_append, List.drop_of_length_le (by rw [List.length_append, htk]; exact Nat.le_refl _), List.length_append, htk]
    show [] ++ (l.drop (n + 1)).drop (n + 2 - (n + 2)) = _
    rw [Nat.sub_self]; rfl
  rw [q1, q2]
  show (l.take n ++ atN l n :: l.drop (n + 1), true) = (l, true)
  rw [cut_at l n hn]
/-- A moved tier is moved back. -/
theorem move_back (l : List NI) (a : Int) (h1 : tierB l = true) (h2 : -99999 ≤ a ∧ a ≤ 99999) (h3 : tierB (mvL a l) = true) : mvR (mvL a l) (wrap64 (-a)) = (l, true) := by
  have hw : wrap64 (-a) = -a := wrap_in (by omega) (by omega)
  have hb : mvL (-a) (mvL a l) = l := by
    unfold mvL
    rw [List.map_map]
    refine (List.map_congr_left (fun x hx => ?_)).trans (List.map_id l)
    obtain ⟨j, hj, rfl⟩ := List.mem_iff_getElem.1 hx
    have hn := MCSplitNote.note_in (MCSplitNote.tier_at h1 hj).1
    rw [at_get l j hj] at hn
    show mv1 (-a) (mv1 a l[j]) = l[j]
    unfold mv1
    rw [wrap_in (show -9223372036854775808 ≤ l[j].f0 + a by omega) (by omega), wrap_in (show -9223372036854775808 ≤ l[j].f1 + a by omega) (by omega), show l[j].f0 + a + -a = l[j].f0 by omega, show l[j].f1 + a + -a = l[j].f1 by omega, wrap_in (show -9223372036854775808 ≤ l[j].f0 by omega) (by omega), wrap_in (show -9223372036854775808 ≤ l[j].f1 by omega) (by omega)]
  rw [hw]
  unfold mvR mvEnd
  rw [if_pos ⟨h3, by omega, by omega⟩, hb, if_pos h1]
/-- Joined notes are split again. -/
theorem join_split (l : List NI) (i : Int) (h : joiOk l i) : 0 ≤ i ∧ i < (l.length : Int) ∧ splR (l.take i.toNat ++ (⟨(rd_T58 l i).f0, (rd_T58 l (i + 1)).f1, (rd_T58 l i).f2⟩ : NI) :: l.drop (i.toNat + 2)) i (rd_T58 l i).f1 = (l, true) := by
  obtain ⟨h1, h2, h3, h4⟩ := h
  have hn40 := MCSplitNote.tier_length h1
  have hi : 0 ≤ i ∧ i + 1 < (l.length : Int) := by have := h2.2; unfold wrap64 at this; omega
  obtain ⟨n, rfl⟩ : ∃ n : Nat, i = (n : Int) := ⟨i.toNat, by omega⟩
  refine ⟨by omega, by omega, ?_⟩
  have ei : ((n : Int) + 1) = ((n + 1 : Nat) : Int) := rfl
  rw [ei] at h3 h4 ⊢
  rw [rd_at, rd_at] at h3 h4
  rw [rd_at, rd_at, Int.toNat_natCast]
  have t0 := MCSplitNote.tier_at h1 (show n < l.length by omega)
  have t1 := MCSplitNote.tier_at h1 (show n + 1 < l.length by omega)
  have b0 := MCSplitNote.note_in t0.1
  have b1 := MCSplitNote.note_in t1.1
  obtain ⟨q, hq⟩ : ∃ q, q = l.take n ++ (⟨(atN l n).f0, (atN l (n + 1)).f1, (atN l n).f2⟩ : NI) :: l.drop (n + 2) := ⟨_, rfl⟩
  rw [← hq]
  have htk : (l.take n).length = n := by rw [List.length_take]; omega
  have hql : q.length = l.length - 1 := by rw [hq, List.length_append, htk, List.length_cons, List.length_drop]; omega
  have hat : ∀ j, atN q j = if j < n then atN l j else if j = n then (⟨(atN l n).f0, (atN l (n + 1)).f1, (atN l n).f2⟩ : NI) else atN l (j + 1) := by
    intro j
    rw [hq]
    unfold atN
    rw [List.getD_eq_getElem?_getD]
    by_cases c : j < n
    · rw [if_pos c, List.getElem?_append_left (by omega), List.getElem?_take, if_pos c, ← List.getD_eq_getElem?_getD]
    · rw [if_neg c, List.getElem?_append_right (by omega), htk]
      by_cases c2 : j = n
      · rw [if_pos c2, c2, Nat.sub_self]; rfl
      · rw [if_neg c2, show j - n = (j - n - 1) + 1 by omega, List.getElem?_cons_succ, List.getElem?_drop, List.getD_eq_getElem?_getD, show n + 2 + (j - n - 1) = j + 1 by omega]
  have hqn : atN q n = (⟨(atN l n).f0, (atN l (n + 1)).f1, (atN l n).f2⟩ : NI) := by rw [hat n, if_neg (by omega), if_pos rfl]
  have hqt : tierB q = true := by
    refine MCSplitNote.tier_of (fun j hj => ?_) (by omega)
    rw [hat j, hat (j - 1)]
    by_cases c : j < n
    · rw [if_pos c, if_pos (show j - 1 < n by omega)]
      exact MCSplitNote.tier_at h1 (by omega)
    · rw [if_neg c]
      by_cases c2 : j = n
      · rw [if_pos c2]
        refine ⟨?_, ?_⟩
        · have u0 := t0.1
          have u1 := t1.1
          unfold noteB frameB at u0 u1 ⊢
          simp only [Bool.and_eq_true, decide_eq_true_eq] at u0 u1 ⊢
          exact ⟨⟨⟨u0.1.1.1, u1.1.1.2⟩, by omega⟩, u0.2⟩
        · by_cases c0 : j = 0
          · exact Or.inl c0
          · rw [if_pos (show j - 1 < n by omega)]
            have := t0.2
            rw [c2]
            exact this
      · rw [if_neg c2, if_neg (show ¬ j - 1 < n by omega)]
        have tj := MCSplitNote.tier_at h1 (show j + 1 < l.length by omega)
        refine ⟨tj.1, Or.inr ?_⟩
        have hle : (atN l j).f1 ≤ (atN l (j + 1)).f0 := by
          rcases tj.2 with h0 | h0
          · omega
          · exact h0
        by_cases c4 : j - 1 = n
        · rw [if_pos c4]
          have : j = n + 1 := by omega
          subst this
          exact hle
        · rw [if_neg c4, show j - 1 + 1 = j by omega]
          exact hle
  unfold splR
  have hok : splOk q (n : Int) (atN l n).f1 = true := by
    unfold splOk
    rw [hqt, Int.toNat_natCast, hqn, decide_eq_true (show 0 ≤ (n : Int) ∧ (n : Int) < (q.length : Int) by omega), decide_eq_true (show (atN l n).f0 < (atN l n).f1 ∧ (atN l n).f1 < (atN l (n + 1)).f1 by omega), decide_eq_true (show q.length < 40 by omega)]
    rfl
  rw [if_pos hok, Int.toNat_natCast]
  have hs : spl q n (atN l n).f1 = l := by
    unfold spl
    rw [hqn]
    have p1 : q.take n = l.take n := by rw [hq, List.take_append_of_le_length (by omega), List.take_of_length_le (by omega)]
    have p2 : q.drop (n + 1) = l.drop (n + 2) := by
      rw [hq, List.drop_append, List.drop_of_length_le (by omega), htk, show n + 1 - n = 1 by omega]
      rfl
    rw [p1, p2, List.append_assoc]
    have x0 : (⟨(atN l n).f0, (atN l n).f1, (atN l n).f2⟩ : NI) = atN l n := rfl
    have x1 : (⟨(atN l n).f1, (atN l (n + 1)).f1, (atN l n).f2⟩ : NI) = atN l (n + 1) := by
      rw [h3, bytes_eq h4]
    show l.take n ++ (⟨(atN l n).f0, (atN l n).f1, (atN l n).f2⟩ : NI) :: (⟨(atN l n).f1, (atN l (n + 1)).f1, (atN l n).f2⟩ : NI) :: l.drop (n + 2) = l
    rw [x0, x1]
    have y1 : atN l (n + 1) :: l.drop (n + 2) = l.drop (n + 1) := by
      rw [at_get l (n + 1) (by omega)]
      exact (List.drop_eq_getElem_cons (show n + 1 < l.length by omega)).symm
    rw [y1]
    exact cut_at l n (by omega)
  rw [hs]
/-- The note at a frame. -/
theorem note_at (l : List NI) (a : Int) (h : (noteAtR l a).2 = true) : 0 ≤ (noteAtR l a).1 ∧ (noteAtR l a).1 < (l.length : Int) ∧ (rd_T58 l (noteAtR l a).1).f0 ≤ a ∧ a < (rd_T58 l (noteAtR l a).1).f1 := by
  unfold noteAtR at h ⊢
  split at h
  rotate_left
  · exact absurd h (by decide)
  rename_i hc
  rw [if_pos hc]
  obtain ⟨h1, h2, h3⟩ := hc
  have hr := MAt0.idxOf_range (impl_noteAt.p a) l
  show 0 ≤ idxOf (impl_noteAt.p a) l ∧ idxOf (impl_noteAt.p a) l < (l.length : Int) ∧ (rd_T58 l (idxOf (impl_noteAt.p a) l)).f0 ≤ a ∧ a < (rd_T58 l (idxOf (impl_noteAt.p a) l)).f1
  have hp : ∃ n : Nat, idxOf (impl_noteAt.p a) l = (n : Int) ∧ n < l.length ∧ impl_noteAt.p a (atN l n) = true := by
    unfold idxOf at h3 ⊢
    cases hf : l.findIdx? (impl_noteAt.p a) with
    | none => rw [hf] at h3; exact absurd h3 (by decide)
    | some n =>
      obtain ⟨hn, hpn, _⟩ := List.findIdx?_eq_some_iff_getElem.1 hf
      exact ⟨n, rfl, hn, by rw [at_get l n hn]; exact hpn⟩
  obtain ⟨n, e, hn, hpn⟩ := hp
  rw [e]
  unfold impl_noteAt.p at hpn
  rw [decide_eq_true_eq] at hpn
  have hb := MCSplitNote.note_in (MCSplitNote.tier_at h1 hn).1
  rw [wrap_in (by omega) (by omega)] at hpn
  rw [rd_at]
  exact ⟨by omega, by omega, hpn.1, by omega⟩

theorem FnTierEdits : laws_FnTierEdits.Pure := by
  intro c m hc hm
  have hs0 : Bytes c := hc.1
  have hs1 : Bytes m := hm.1
  obtain ⟨l, i, a, e1, l1, S1⟩ := DrawSplitNote_ c hs0
  obtain ⟨u, b, e2, l2, S2⟩ := DrawMoveTier_ m hs1
  obtain ⟨v, j, e3, l3, S3⟩ := DrawJoinNotes_ m hs1
  obtain ⟨w, f, e4, l4, S4⟩ := DrawNoteAt_ m hs1
  have z1 := S1.sized (by omega)
  have z2 := S2.sized (by omega)
  have z3 := S3.sized (by omega)
  have z4 := S4.sized (by omega)
  have s1 := Split_s l z1 i a
  have i1 := Split_i l z1 i a
  have s2 := MoveTier_s u z2 (by omega) b
  have i2 := MoveTier_i u z2 (by omega) b
  have s3 := Join_s v z3 j
  have i3 := Join_i v z3 j
  have s4 := NoteAt_s w z4 f
  have i4 := NoteAt_i w z4 f
  have g1 := MCSplitNote.splR_length l i a
  have g2 := MCMoveTier.mvR_length u b
  have g3 := MCJoinNotes.joiR_length v j
  have q1 := qNotes_ (splR l i a).1 (by omega)
  have q2 := qNotes_ (mvR u b).1 (by omega)
  have q3 := qNotes_ (joiR v j).1 (by omega)
  have n4 := note_at w f
  -- the last part
  have F2 : Ev (fun k => laws_FnTierEdits.j2 k v j (joiR v j).1 (joiR v j).2 w f (noteAtR w f).2 (noteAtR w f).1) true := by
    have L : Ev (fun _ : Nat => if (noteAtR w f).2 = true then (if 0 ≤ (noteAtR w f).1 then (if (noteAtR w f).1 < (w.length : Int) then (if ((rd_T58 w (noteAtR w f).1).f0) ≤ f then (some (decide (f < ((rd_T58 w (noteAtR w f).1).f1)))) else (some false)) else (none)) else (none)) else (some true)) true := by
      refine Ev.ite (fun h => ?_) (fun _ => Ev.some rfl)
      obtain ⟨k1, k2, k3, k4⟩ := n4 h
      exact Ev.pos k1 (Ev.pos k2 (Ev.pos k3 (Ev.some (decide_eq_true k4))))
    refine Ev.step (fun _ => laws_FnTierEdits.j2.eq_2 ..) (Ev.ite (fun h => ?_) (fun _ => L))
    unfold joiR at h
    split at h
    rotate_left
    · exact absurd h (by decide)
    rename_i hok
    obtain ⟨k1, k2, k3⟩ := join_split v j hok
    have e : (joiR v j).1 = v.take j.toNat ++ (⟨(rd_T58 v j).f0, (rd_T58 v (j + 1)).f1, (rd_T58 v j).f2⟩ : NI) :: v.drop (j.toNat + 2) := by unfold joiR; rw [if_pos hok]
    have hsm := z3.2 _ (rd_mem v j k1 k2)
    have zj : Sized (joiR v j).1 := by
      refine ⟨by omega, fun x hx => ?_⟩
      rw [e] at hx
      rcases List.mem_append.1 hx with hx | hx
      · exact z3.2 x (List.mem_of_mem_take hx)
      · rcases List.mem_cons.1 hx with rfl | hx
        · exact hsm
        · exact z3.2 x (List.mem_of_mem_drop hx)
    have t := Split_i (joiR v j).1 zj j (rd_T58 v j).f1
    rw [← e] at k3
    rw [k3] at t
    exact Ev.pos k1 (Ev.pos k2 (Ev.bind t (Ev.pos rfl (Ev.bind (qNotes_ v (by omega)) (Ev.pos rfl L)))))
  have F1 : Ev (fun k => laws_FnTierEdits.j1 k u b (mvR u b).1 (mvR u b).2 v j (joiR v j).1 (joiR v j).2 w f (noteAtR w f).2 (noteAtR w f).1) true := by
    refine Ev.step (fun _ => laws_FnTierEdits.j1.eq_2 ..) (Ev.ite (fun h => ?_) (fun _ => F2))
    unfold mvR at h
    split at h
    rotate_left
    · exact absurd h (by decide)
    rename_i hok
    unfold mvEnd at h
    split at h
    rotate_left
    · exact absurd h (by decide)
    rename_i hok2
    have e : (mvR u b).1 = mvL b u := by unfold mvR mvEnd; rw [if_pos hok, if_pos hok2]
    have t := MoveTier_i (mvR u b).1 (by rw [e]; exact MCMoveTier.mvL_sized b u z2) (by omega) (wrap64 (-b))
    rw [e, move_back u b hok.1 hok.2 hok2] at t
    rw [e]
    exact Ev.bind t (Ev.pos rfl (Ev.bind (qNotes_ u (by omega)) (Ev.pos rfl F2)))
  have F0 : Ev (fun k => laws_FnTierEdits.j0 k l i (splR l i a).1 (splR l i a).2 u b (mvR u b).1 (mvR u b).2 v j (joiR v j).1 (joiR v j).2 w f (noteAtR w f).2 (noteAtR w f).1 false) true := by
    refine Ev.step (fun _ => laws_FnTierEdits.j0.eq_2 ..) (Ev.neg (by decide) (Ev.ite (fun h => ?_) (fun _ => F1)))
    unfold splR at h
    split at h
    rotate_left
    · exact absurd h (by decide)
    rename_i hok
    have e : (splR l i a).1 = spl l i.toNat a := by unfold splR; rw [if_pos hok]
    obtain ⟨k1, k2⟩ := split_join l i a hok
    have hb : i.toNat < l.length := by
      unfold splOk at hok
      simp only [Bool.and_eq_true, decide_eq_true_eq] at hok
      omega
    have h40 : l.length ≤ 40 := by
      unfold splOk at hok
      simp only [Bool.and_eq_true, decide_eq_true_eq] at hok
      omega
    have zs := MCSplitNote.spl_sized l z1 i.toNat a hb h40
    have t := Join_i _ zs i
    rw [k1] at t
    rw [e]
    exact Ev.bind t (Ev.pos rfl (Ev.bind (qNotes_ l (by omega)) (Ev.pos rfl (Ev.bind (Ev.eq (IsTier_ _ zs) k2) (Ev.pos rfl F1)))))
  unfold laws_FnTierEdits.f
  refine Ev.rounds (Ev.ite (fun _ => Ev.some rfl) (fun _ => ?_))
  refine Ev.bind e1 (Ev.bind i1 (Ev.bind s1 (Ev.bind e2 (Ev.bind i2 (Ev.bind s2 (Ev.bind e3 (Ev.bind i3 (Ev.bind s3 (Ev.bind e4 (Ev.bind i4 (Ev.bind s4 ?_)))))))))))
  refine Ev.neg (by simp) (Ev.bind q1 (Ev.pos rfl (Ev.neg (by simp) (Ev.bind q2 (Ev.pos rfl (Ev.neg (by simp) (Ev.bind q3 (Ev.pos rfl (Ev.neg (by simp) ?_)))))))))
  rw [show ((noteAtR w f).1 != (noteAtR w f).1) = false by simp]
  exact F0
end Go.Proofs.Ytgapcmmhbegdeaa.Pure
