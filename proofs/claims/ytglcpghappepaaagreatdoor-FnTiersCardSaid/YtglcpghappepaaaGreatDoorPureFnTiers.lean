/- FnTiers answers true for all bytes. No condition beyond what every row's reading gives. -/
import Derived.Test.YtglcpghappepaaaGreatDoorG0
import Derived.Test.YtglcpghappepaaaGreatDoorG20
import Derived.Test.YtglcpghappepaaaGreatDoorG22
import Derived.Test.YtglcpghappepaaaGreatDoorG23
import Derived.Test.YtglcpghappepaaaGreatDoorG26
import Derived.Test.YtglcpghappepaaaGreatDoorMAll
namespace Go.Proofs.YtglcpghappepaaaGreatDoor.Pure
open Go.RowKit Go.Proofs.YtglcpghappepaaaGreatDoor.G Go.Proofs.YtglcpghappepaaaGreatDoorW.PrintWords Go.Proofs.YtglcpghappepaaaGreatDoorW.PrintLast Go.Proofs.YtglcpghappepaaaGreatDoor.MPure Go.Proofs.YtglcpghappepaaaGreatDoor.MWord Go.Proofs.YtglcpghappepaaaGreatDoor.MNote Go.Proofs.YtglcpghappepaaaGreatDoor.MDraw Go.Proofs.YtglcpghappepaaaGreatDoor.MDrawS Go.Proofs.YtglcpghappepaaaGreatDoor.MQNotes Go.Proofs.YtglcpghappepaaaGreatDoor.MQLists2 Go.Proofs.YtglcpghappepaaaGreatDoor.MCut Go.Proofs.YtglcpghappepaaaGreatDoor.MGlossT Go.Proofs.YtglcpghappepaaaGreatDoor.MTP Go.Proofs.YtglcpghappepaaaGreatDoor.MTiers Go.Proofs.YtglcpghappepaaaGreatDoor.MTierT
open Go.Proofs.YtglcpghappepaaaGreatDoor.MTier (put put_perm put_length note_in tiIf_)
open Go.Proofs.YtglcpghappepaaaGreatDoor.MCNoteAt (noteAtR NoteAt_i NoteAt_s)
open Go.Proofs.YtglcpghappepaaaGreatDoor.MCAddNote (addR AddNote_s AddNote_i addR_length)
open Go.Proofs.YtglcpghappepaaaGreatDoor.MCCutTier (cutR CutTier_s CutTier_i cutR_length)

theorem FnTiers : laws_FnTiers.Pure := by
  intro c m hc hm
  obtain ⟨l, x, y, g, e1, hl, hS, hg⟩ := DrawAddNote_ c hc.1
  obtain ⟨u, a, b, e2, hu, hU⟩ := DrawCoveredFrames_ m hm.1
  obtain ⟨v, e3, hv, hV⟩ := DrawTierText_ m hm.1
  obtain ⟨s, e4, hs⟩ := DrawParseTier_ m hm.1
  have zl := hS.sized (by omega)
  have zu := hU.sized (by omega)
  have zv := hV.sized (by omega)
  have hg2 : (⟨x, y, g⟩ : NI).f2.size ≤ 140737488351232 := Nat.le_trans hg (by decide)
  have A1 := AddNote_i l zl ⟨x, y, g⟩ hg2
  have A2 := AddNote_s l zl ⟨x, y, g⟩ hg2
  have al := addR_length l ⟨x, y, g⟩
  have hqa := qNotes_ (addR l ⟨x, y, g⟩).1 (by omega)
  have K1 := CutTier_i u zu (by omega) a b
  have K2 := CutTier_s u zu (by omega) a b
  have kl := cutR_length u a b
  have hqk := qNotes_ (cutR u a b).1 (by omega)
  have T1 := TierText_i v zv
  have T2 := TierText_s v zv
  have hN := IsNote_ x y g (Nat.le_trans hg (by decide))
  have hN2 : Ev (fun k => yBH.f k x y g) (noteB x y g) := by
    unfold yBH.f
    exact Ev.bind (tiNote_ x y g (Nat.le_trans hg (by decide))) (Ev.some rfl)
  -- what is parsed
  obtain ⟨P, P1, P2, hP⟩ : ∃ P : List NI × Bool, Ev (fun k => yAC.f k s) P ∧ Ev (fun k => yAK.f k s) P ∧ P.1.length ≤ 41 := by
    by_cases hx : ∃ q, tierB q = true ∧ tierT q = s
    · obtain ⟨q, h1, h2⟩ := hx
      exact ⟨(q, true), MCParseTier.yBP (by omega) h1 h2, MCParseTier.yBQ (by omega) h1 h2, by have := tier_40 h1; show q.length ≤ 41; omega⟩
    · have hno : ∀ q, tierB q = true → tierT q ≠ s := fun q h1 h2 => hx ⟨q, h1, h2⟩
      exact ⟨([], false), MCParseTier.yBR (by omega) hno, MCParseTier.yBS (by omega) hno, Nat.zero_le _⟩
  have hqp := qNotes_ P.1 (by omega)
  -- the text is read back
  have J3 : Ev (fun k => laws_FnTiers.j3 k v (textR v).1 (textR v).2) true := by
    refine Ev.step (fun _ => laws_FnTiers.j3.eq_2 ..) ?_
    cases ht : tierB v with
    | false =>
      have e : textR v = (⟨#[]⟩, false) := by unfold textR; rw [if_neg (by rw [ht]; decide)]
      rw [e]
      exact Ev.neg (by decide) (Ev.some rfl)
    | true =>
      have hz := text_size ht
      have e : textR v = (tierT v, true) := by unfold textR; rw [if_pos ht]
      rw [e]
      exact Ev.pos rfl (Ev.bind (MCParseTier.yBP (by show (tierT v).size ≤ _; omega) ht rfl) (Ev.pos rfl (Ev.bind (qNotes_ v (by omega)) (Ev.some rfl))))
  have hT : ((textR v).2 != tierB v) = false := by
    unfold textR
    cases tierB v <;> rfl
  have iv := IsTier_ v zv
  -- what was added
  have go : ∀ (q : Bool) (cov : Int) (gaps : List (List Int)) (cut : List NI), Ev (fun k => laws_FnTiers.j1 k u a b q cov gaps cut v (textR v).1 (textR v).2) true → Ev (fun k => laws_FnTiers.j0 k l (addR l ⟨x, y, g⟩).1 (addR l ⟨x, y, g⟩).2 (addR l ⟨x, y, g⟩).1 u a b q cov gaps cut v (textR v).1 (textR v).2 false x y g) true := by
    intro q cov gaps cut h1
    refine Ev.step (fun _ => laws_FnTiers.j0.eq_2 ..) (Ev.neg (by decide) ?_)
    by_cases hok : (addR l ⟨x, y, g⟩).2 = true
    · refine Ev.pos hok ?_
      unfold addR at hok
      split at hok
      rotate_left
      · exact absurd hok (by decide)
      rename_i hln
      unfold MTier.tierOr at hok
      split at hok
      rotate_left
      · exact absurd hok (by decide)
      rename_i ht
      have er : (addR l ⟨x, y, g⟩).1 = put l ⟨x, y, g⟩ := by
        unfold addR MTier.tierOr
        rw [if_pos hln, if_pos ht]
      rw [er]
      have hpl : (put l ⟨x, y, g⟩).length = l.length + 1 := put_length l _
      have zp : Sized (put l ⟨x, y, g⟩) := by
        refine ⟨by omega, fun n hn => ?_⟩
        rcases List.mem_append.1 ((put_perm l _).mem_iff.1 hn) with h | h
        · exact zl.2 n h
        · rw [List.mem_singleton.1 h]; exact hg2
      have hmem : (⟨x, y, g⟩ : NI) ∈ put l ⟨x, y, g⟩ := (put_perm l _).mem_iff.2 (List.mem_append.2 (Or.inr (List.mem_singleton.2 rfl)))
      have hxy := note_in (f := x) (t := y) (g := g) hln.2
      obtain ⟨i, hi, n1, n2⟩ := at_note ht hmem (f := x) (Int.le_refl _) hxy.2.1
      have n3 := NoteAt_i _ zp x
      have n4 := NoteAt_s _ zp x
      rw [n1] at n3 n4
      have n5 : rd_T25 (put l ⟨x, y, g⟩) (i : Int) = ⟨x, y, g⟩ := n2
      refine Ev.bind n3 (Ev.bind n4 (Ev.pos rfl (Ev.pos rfl (Ev.pos rfl (Ev.pos (Int.natCast_nonneg _) (Ev.pos (by show (i : Int) < _; omega) (Ev.neg ?_ (Ev.pos ?_ (Ev.bind (Ev.eq (IsTier_ _ zp) ht) (Ev.pos rfl h1))))))))))
      · have n6 : rd_T25 (put l ⟨x, y, g⟩) (((i : Int), true) : Int × Bool).1 = ⟨x, y, g⟩ := n5
        rw [n6]
        simp
      · rw [wrap_in (by omega) (by omega), hpl]
        omega
    · exact Ev.neg hok h1
  unfold laws_FnTiers.f
  refine Ev.rounds (Ev.ite (fun _ => Ev.some rfl) (fun _ => ?_))
  by_cases hab : (tierB u && rangeB a b) = true
  · have h2 := hab
    rw [Bool.and_eq_true] at h2
    obtain ⟨tu, tr⟩ := h2
    obtain ⟨C2, C1⟩ := Covered_yes u zu tu a b tr
    obtain ⟨G2, G1⟩ := Gaps_yes u zu tu a b tr
    have ek : cutR u a b = (cutL a b u, true) := by
      unfold cutR
      rw [if_pos ⟨tu, tr⟩]
    rw [ek] at K1 K2 hqk
    have hcl := cutL_length a b u
    have hgl := gp_len b (cutL a b u) a
    have hq2 : ∀ q, q ∈ gp b a (cutL a b u) → q.length = 2 := fun q hq => by
      obtain ⟨p, r, e, _⟩ := gap_free tu tr hq
      rw [e]; rfl
    have hql := qLists_ (gp b a (cutL a b u)) (by omega) (fun z hz => by rw [hq2 z hz]; omega)
    have hb := range_in tr
    have hsum := gp_sum b _ a (tier_chain tu tr)
    have hcb := cov_bound tu tr
    have zk : Sized (cutL a b u) := ⟨by omega, fun n hn => by
      obtain ⟨x0, hx0, _, rfl⟩ := cut_mem hn
      exact zu.2 x0 hx0⟩
    have L0 : ∀ d i : Nat, i + d = (gp b a (cutL a b u)).length → ∀ fr : Int, 0 ≤ fr → fr + sm ((gp b a (cutL a b u)).drop i) wq = sm (gp b a (cutL a b u)) wq → Ev (fun k => laws_FnTiers.l0 k u a b (sm (cutL a b u) w2) (cutL a b u) v (textR v).1 (textR v).2 fr (gp b a (cutL a b u)) ((gp b a (cutL a b u)).length : Int) (i : Int)) true := by
      intro d
      induction d with
      | zero =>
        intro i hi fr hf0 hf
        rw [List.drop_eq_nil_of_le (by omega), sm_nil, Int.add_zero] at hf
        refine Ev.step (fun _ => laws_FnTiers.l0.eq_2 ..) (Ev.neg (by omega) (Ev.pos ?_ (Ev.bind (Ev.eq (IsTier_ _ zk) (tier_cut tu tr)) (Ev.pos rfl J3))))
        rw [wrap_in (by omega) (by omega), wrap_in (by omega) (by omega)]
        omega
      | succ d ih =>
        intro i hi fr hf0 hf
        have e : rd_L13 (gp b a (cutL a b u)) (i : Int) = (gp b a (cutL a b u))[i]'(by omega) := by
          show (gp b a (cutL a b u)).getD i [] = _
          rw [List.getD_eq_getElem?_getD, List.getElem?_eq_getElem (by omega)]
          rfl
        rw [List.drop_eq_getElem_cons (show i < (gp b a (cutL a b u)).length by omega), ← e, sm_cons] at hf
        obtain ⟨p, r, eq, p0, pr, r1, pn⟩ := gap_free tu tr (q := rd_L13 (gp b a (cutL a b u)) (i : Int)) (by rw [e]; exact List.getElem_mem _)
        have hr0 : 0 ≤ sm ((gp b a (cutL a b u)).drop (i + 1)) wq := sm_nonneg (fun q hq => by
          obtain ⟨p', r', rfl, _, h3, _⟩ := gap_free tu tr (List.mem_of_mem_drop hq)
          show 0 ≤ r' - p'
          omega)
        have hs0 : sm (gp b a (cutL a b u)) wq ≤ 100000 := by omega
        have hna := NoteAt_i u zu p
        rw [pn] at hna
        rw [eq] at hf
        have hwq : wq [p, r] = r - p := rfl
        rw [hwq] at hf
        have h := ih (i + 1) (by omega) (fr + (r - p)) (by omega) (by omega)
        have w1 : wrap64 (r - p) = r - p := wrap_in (by omega) (by omega)
        have w3 : wrap64 (fr + (r - p)) = fr + (r - p) := wrap_in (by omega) (by omega)
        rw [← wrap_succ (by omega), ← w3] at h
        rw [← w1] at h
        refine Ev.step (fun _ => laws_FnTiers.l0.eq_2 ..) (Ev.pos (by omega) (Ev.pos (by omega) (Ev.pos (by omega) ?_)))
        rw [eq]
        exact Ev.pos (by show (1 : Int) < 2; omega) (Ev.pos (by show (0 : Int) < 2; omega) (Ev.bind hna (Ev.neg (by decide) (Ev.neg (by show ¬ p ≥ r; omega) h))))
    have J1 : Ev (fun k => laws_FnTiers.j1 k u a b true (sm (cutL a b u) w2) (gp b a (cutL a b u)) (cutL a b u) v (textR v).1 (textR v).2) true :=
      Ev.step (fun _ => laws_FnTiers.j1.eq_2 ..) (Ev.pos rfl (L0 (gp b a (cutL a b u)).length 0 (by omega) 0 (Int.le_refl _) (by rw [List.drop_zero]; omega)))
    refine Ev.bind e1 (Ev.bind A1 (Ev.bind A2 (Ev.bind e2 (Ev.bind C1 (Ev.bind C2 (Ev.bind G1 (Ev.bind G2 (Ev.bind K1 (Ev.bind K2 (Ev.bind e3 (Ev.bind T1 (Ev.bind T2 (Ev.bind e4 (Ev.bind P1 (Ev.bind P2 ?_)))))))))))))))
    refine Ev.neg (by simp) (Ev.bind hqa (Ev.pos rfl (Ev.neg (by simp) (Ev.pos rfl (Ev.neg (by simp) (Ev.bind hql (Ev.pos rfl (Ev.neg (by simp) (Ev.bind hqk (Ev.pos rfl (Ev.neg (by simp) (Ev.pos rfl (Ev.neg (by simp) (Ev.bind hqp (Ev.pos rfl (Ev.neg (by simp) (Ev.neg (by simp) (Ev.bind iv (Ev.neg (by rw [hT]; decide) (Ev.bind hN (Ev.bind hN2 ?_)))))))))))))))))))))
    have e : (noteB x y g != noteB x y g) = false := by simp
    rw [e]
    exact go true _ _ _ J1
  · have hno := Bool.eq_false_iff.2 hab
    obtain ⟨C2, C1⟩ := Covered_no u zu a b hno
    obtain ⟨G2, G1⟩ := Gaps_no u zu a b hno
    have ek : cutR u a b = ([], false) := by
      unfold cutR
      rw [if_neg (fun h => hab (by rw [h.1, h.2]; rfl))]
    rw [ek] at K1 K2 hqk
    have hql := qLists_ [] (Nat.zero_le _) (fun z hz => nomatch hz)
    have J1 : Ev (fun k => laws_FnTiers.j1 k u a b false 0 [] [] v (textR v).1 (textR v).2) true :=
      Ev.step (fun _ => laws_FnTiers.j1.eq_2 ..) (Ev.neg (by decide) J3)
    refine Ev.bind e1 (Ev.bind A1 (Ev.bind A2 (Ev.bind e2 (Ev.bind C1 (Ev.bind C2 (Ev.bind G1 (Ev.bind G2 (Ev.bind K1 (Ev.bind K2 (Ev.bind e3 (Ev.bind T1 (Ev.bind T2 (Ev.bind e4 (Ev.bind P1 (Ev.bind P2 ?_)))))))))))))))
    refine Ev.neg (by simp) (Ev.bind hqa (Ev.pos rfl (Ev.neg (by simp) (Ev.pos rfl (Ev.neg (by simp) (Ev.bind hql (Ev.pos rfl (Ev.neg (by simp) (Ev.bind hqk (Ev.pos rfl (Ev.neg (by simp) (Ev.pos rfl (Ev.neg (by simp) (Ev.bind hqp (Ev.pos rfl (Ev.neg (by simp) (Ev.neg (by simp) (Ev.bind iv (Ev.neg (by rw [hT]; decide) (Ev.bind hN (Ev.bind hN2 ?_)))))))))))))))))))))
    have e : (noteB x y g != noteB x y g) = false := by simp
    rw [e]
    exact go false _ _ _ J1
end Go.Proofs.YtglcpghappepaaaGreatDoor.Pure
