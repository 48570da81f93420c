/- FnTierPairs answers true for all bytes. No condition beyond what every row's reading gives. -/
import Derived.Test.YtgapcmmhbegdeaaG0
import Derived.Test.YtgapcmmhbegdeaaG42
import Derived.Test.YtgapcmmhbegdeaaMAll
namespace Go.Proofs.Ytgapcmmhbegdeaa.Pure
open Go.RowKit Go.Proofs.Ytgapcmmhbegdeaa.G Go.Proofs.YtgapcmmhbegdeaaW.PrintWords Go.Proofs.YtgapcmmhbegdeaaW.PrintLast Go.Proofs.Ytgapcmmhbegdeaa.MPure Go.Proofs.Ytgapcmmhbegdeaa.MWord Go.Proofs.Ytgapcmmhbegdeaa.MNote Go.Proofs.Ytgapcmmhbegdeaa.MDraw Go.Proofs.Ytgapcmmhbegdeaa.MDrawC Go.Proofs.Ytgapcmmhbegdeaa.MDrawO Go.Proofs.Ytgapcmmhbegdeaa.MQNotes Go.Proofs.Ytgapcmmhbegdeaa.MQLists2 Go.Proofs.Ytgapcmmhbegdeaa.MGlossT Go.Proofs.Ytgapcmmhbegdeaa.MShare Go.Proofs.Ytgapcmmhbegdeaa.MTP
open Go.Proofs.Ytgapcmmhbegdeaa.MHas (hasB)
open Go.Proofs.Ytgapcmmhbegdeaa.MCNoteAt (noteAtR NoteAt_i NoteAt_s)
open Go.Proofs.Ytgapcmmhbegdeaa.MCMergeOver (Over_ self_)
open Go.Proofs.Ytgapcmmhbegdeaa.MCAgreedFrames (AgreedFrames_yes AgreedFrames_no)
open Go.Proofs.Ytgapcmmhbegdeaa.MCDisputedFrames (DisputedFrames_yes DisputedFrames_no)
open Go.Proofs.Ytgapcmmhbegdeaa.MCFirstDispute (FirstDispute_yes FirstDispute_no firstR)

theorem FnTierPairs : laws_FnTierPairs.Pure := by
  intro c m hc hm
  obtain ⟨a, b, e1, la, Sa, lb, Sb⟩ := DrawCommonNotes_ c hc.1
  obtain ⟨w, x, y, e2, lw, Sw, lx, Sx, ly, Sy⟩ := DrawMergeOver_ m hm.1
  have za := Sa.sized (by omega)
  have zb := Sb.sized (by omega)
  have zx := Sx.sized (by omega)
  obtain ⟨mr, mc, mq, ⟨m1, m2, m3, m4, m5⟩, es, ei⟩ := Over_ w x y (Sw.sized (by omega)) zx (Sy.sized (by omega))
  have hq1 := qNotes_ mr (by omega)
  have hq2 := qLists_ mc (by omega) (fun z hz => by rw [m3 z hz]; omega)
  have J4 : Ev (fun k => laws_FnTierPairs.j4 k x mr mq) true := by
    refine Ev.step (fun _ => laws_FnTierPairs.j4.eq_2 ..) ?_
    cases mq with
    | false => exact Ev.neg (by decide) (Ev.some rfl)
    | true =>
      obtain ⟨t1, t2⟩ := m5 rfl
      exact Ev.pos rfl (Ev.bind (self_ x zx t2) (Ev.bind (Ev.eq (IsTier_ mr m4) t1) (Ev.pos rfl (Ev.pos rfl (Ev.pos rfl (Ev.bind (qNotes_ x (by omega)) (Ev.some rfl)))))))
  have c1 := MCCommonNotes.par_i a b za zb
  have c2 := MCCommonNotes.par_s a b za zb
  have c3 := MCOnlyIn.par_i a b za zb
  have c4 := MCOnlyIn.par_s a b za zb
  have l1 := MCCommonNotes.parR_length a b
  have l2 := MCOnlyIn.parR_length a b
  have hq3 := qNotes_ (MCCommonNotes.parR a b).1 (by omega)
  have hq4 := qNotes_ (MCOnlyIn.parR a b).1 (by omega)
  unfold laws_FnTierPairs.f
  refine Ev.rounds (Ev.ite (fun _ => Ev.some rfl) (fun _ => ?_))
  by_cases hab : (tierB a && tierB b) = true
  · have h2 := hab
    rw [Bool.and_eq_true] at h2
    obtain ⟨ta, tb⟩ := h2
    have p1 : MCCommonNotes.parR a b = (cmn a b, true) := by unfold MCCommonNotes.parR; rw [if_pos hab]; rfl
    have p2 : MCOnlyIn.parR a b = (a.filter (fun n => hasB b n == false), true) := by unfold MCOnlyIn.parR; rw [if_pos hab]
    rw [p1] at c1 c2 hq3 l1
    rw [p2] at c3 c4 hq4
    obtain ⟨A1, A2⟩ := AgreedFrames_yes a b za zb ta tb
    obtain ⟨D1, D2⟩ := DisputedFrames_yes a b za zb ta tb
    obtain ⟨F1, F2⟩ := FirstDispute_yes a b za zb ta tb
    have J3 : Ev (fun k => laws_FnTierPairs.j3 k a b (firstR (share notQ a b)).1 (firstR (share notQ a b)).2 (firstR (share notQ a b)).1 x mr mq) true := by
      refine Ev.step (fun _ => laws_FnTierPairs.j3.eq_2 ..) ?_
      cases hs : share notQ a b with
      | nil => exact Ev.neg (by decide) J4
      | cons d s =>
        obtain ⟨i, k, hi, hk, n1, n2, hne⟩ := first_of ta tb (d := d) (by rw [hs]; exact List.mem_cons_self ..)
        have na := NoteAt_i a za d.f0
        have nb := NoteAt_i b zb d.f0
        have sa := NoteAt_s a za d.f0
        have sb := NoteAt_s b zb d.f0
        rw [n1] at na sa
        rw [n2] at nb sb
        exact Ev.pos rfl (Ev.bind na (Ev.bind nb (Ev.bind sa (Ev.bind sb (Ev.pos rfl (Ev.pos rfl (Ev.pos rfl (Ev.pos rfl (Ev.pos rfl (Ev.pos rfl (Ev.pos (Int.natCast_nonneg _) (Ev.pos (by show (i : Int) < _; omega) (Ev.pos (Int.natCast_nonneg _) (Ev.pos (by show (k : Int) < _; omega) (Ev.neg hne J4)))))))))))))))
    have hlen : (cmn a b).length ≤ 60 := by
      have : (cmn a b).length ≤ a.length := l1
      omega
    have hbd : sm (cmn a b) w2 ≤ 6000000 := by
      have := sm_bound 100000 (l := cmn a b) (f := w2) (fun n hn => by
        have := note_of ta (List.mem_filter.1 hn).1
        unfold w2
        omega)
      omega
    have hle := common_le ta tb
    have L0 : ∀ d i : Nat, i + d = (cmn a b).length → ∀ s : Int, 0 ≤ s → s + sm ((cmn a b).drop i) w2 = sm (cmn a b) w2 → Ev (fun k => laws_FnTierPairs.l0 k a b (fr (share yesQ a b)) (firstR (share notQ a b)).1 (firstR (share notQ a b)).2 (firstR (share notQ a b)).1 x mr mq s (cmn a b) ((cmn a b).length : Int) (i : Int)) true := by
      intro d
      induction d with
      | zero =>
        intro i hi s hs0 hs
        rw [List.drop_eq_nil_of_le (by omega), sm_nil] at hs
        exact Ev.step (fun _ => laws_FnTierPairs.l0.eq_2 ..) (Ev.neg (by omega) (Ev.neg (by omega) J3))
      | succ d ih =>
        intro i hi s hs0 hs
        have e : rd_T58 (cmn a b) (i : Int) = (cmn a b)[i]'(by omega) := by
          show (cmn a b).getD i z58 = _
          rw [List.getD_eq_getElem?_getD, List.getElem?_eq_getElem (by omega)]
          rfl
        rw [List.drop_eq_getElem_cons (show i < (cmn a b).length by omega), ← e, sm_cons] at hs
        have hmem : rd_T58 (cmn a b) (i : Int) ∈ cmn a b := by rw [e]; exact List.getElem_mem _
        have hb := note_of ta (List.mem_filter.1 hmem).1
        have hr : 0 ≤ sm ((cmn a b).drop (i + 1)) w2 := sm_nonneg (fun n hn => by
          have := note_of ta (List.mem_filter.1 (List.mem_of_mem_drop hn)).1
          unfold w2
          omega)
        have hw : w2 (rd_T58 (cmn a b) (i : Int)) = (rd_T58 (cmn a b) (i : Int)).f1 - (rd_T58 (cmn a b) (i : Int)).f0 := rfl
        have h := ih (i + 1) (by omega) (s + w2 (rd_T58 (cmn a b) (i : Int))) (by omega) (by omega)
        have w1 : wrap64 ((rd_T58 (cmn a b) (i : Int)).f1 - (rd_T58 (cmn a b) (i : Int)).f0) = w2 (rd_T58 (cmn a b) (i : Int)) := wrap_in (by omega) (by omega)
        have w3 : wrap64 (s + w2 (rd_T58 (cmn a b) (i : Int))) = s + w2 (rd_T58 (cmn a b) (i : Int)) := wrap_in (by omega) (by omega)
        rw [← wrap_succ (by omega), ← w3, ← w1] at h
        exact Ev.step (fun _ => laws_FnTierPairs.l0.eq_2 ..) (Ev.pos (by omega) (Ev.pos (by omega) (Ev.pos (by omega) h)))
    have hparts := parts_len a b
    have hcl : (cmn a b).length + (a.filter (fun n => hasB b n == false)).length = a.length := hparts
    have hwl : wrap64 (((cmn a b).length : Int) + ((a.filter (fun n => hasB b n == false)).length : Int)) = (a.length : Int) := by
      rw [wrap_in (by omega) (by omega)]
      omega
    have J0 : Ev (fun k => laws_FnTierPairs.j0 k a b true (cmn a b) (a.filter (fun n => hasB b n == false)) (fr (share yesQ a b)) (fr (share notQ a b)) (firstR (share notQ a b)).1 (firstR (share notQ a b)).2 (firstR (share notQ a b)).1 x mr mq false) true := by
      have j1 : ∀ q : Bool, q = false → Ev (fun k => laws_FnTierPairs.j1 k a b (cmn a b) (fr (share yesQ a b)) (firstR (share notQ a b)).1 (firstR (share notQ a b)).2 (firstR (share notQ a b)).1 x mr mq q) true := fun q hq => by
        subst hq
        exact Ev.step (fun _ => laws_FnTierPairs.j1.eq_2 ..) (Ev.neg (by decide) (L0 (cmn a b).length 0 (by omega) 0 (Int.le_refl _) (by rw [List.drop_zero]; omega)))
      exact Ev.step (fun _ => laws_FnTierPairs.j0.eq_2 ..) (Ev.neg (by decide) (Ev.pos rfl (Ev.bind (AgreedFrames_yes b a zb za tb ta).2 (Ev.bind (DisputedFrames_yes b a zb za tb ta).2 (Ev.pos hwl (Ev.pos rfl (Ev.pos (fr_comm yesQ ta tb) (Ev.pos rfl (j1 _ (by rw [fr_comm notQ ta tb]; simp))))))))))
    have hz := fr_zero notQ ta tb
    have h7 : ((firstR (share notQ a b)).2 != decide (fr (share notQ a b) > 0)) = false := by
      rw [hz]
      cases share notQ a b <;> rfl
    refine Ev.bind e1 (Ev.bind c1 (Ev.bind c2 (Ev.bind c3 (Ev.bind c4 (Ev.bind A2 (Ev.bind A1 (Ev.bind D2 (Ev.bind D1 (Ev.bind F2 (Ev.bind F1 (Ev.bind e2 (Ev.bind ei (Ev.bind es ?_)))))))))))))
    refine Ev.neg (by simp) (Ev.bind hq3 (Ev.pos rfl (Ev.neg (by simp) (Ev.bind hq4 (Ev.pos rfl (Ev.neg (by simp) (Ev.pos rfl (Ev.neg (by simp) (Ev.pos rfl (Ev.neg (by simp) (Ev.pos rfl (Ev.neg (by simp) (Ev.bind hq1 (Ev.pos rfl (Ev.bind hq2 (Ev.pos rfl (Ev.neg (by simp) (Ev.neg (by simp) (Ev.neg (by simp) (Ev.pos rfl ?_))))))))))))))))))))
    rw [h7]
    exact J0
  · have hno := Bool.eq_false_iff.2 hab
    have p1 : MCCommonNotes.parR a b = ([], false) := by unfold MCCommonNotes.parR; rw [if_neg hab]
    have p2 : MCOnlyIn.parR a b = ([], false) := by unfold MCOnlyIn.parR; rw [if_neg hab]
    rw [p1] at c1 c2 hq3
    rw [p2] at c3 c4 hq4
    obtain ⟨A1, A2⟩ := AgreedFrames_no a b za zb hno
    obtain ⟨D1, D2⟩ := DisputedFrames_no a b za zb hno
    obtain ⟨F1, F2⟩ := FirstDispute_no a b za zb hno
    refine Ev.bind e1 (Ev.bind c1 (Ev.bind c2 (Ev.bind c3 (Ev.bind c4 (Ev.bind A2 (Ev.bind A1 (Ev.bind D2 (Ev.bind D1 (Ev.bind F2 (Ev.bind F1 (Ev.bind e2 (Ev.bind ei (Ev.bind es ?_)))))))))))))
    refine Ev.neg (by simp) (Ev.bind hq3 (Ev.pos rfl (Ev.neg (by simp) (Ev.bind hq4 (Ev.pos rfl (Ev.neg (by simp) (Ev.pos rfl (Ev.neg (by simp) (Ev.pos rfl (Ev.neg (by simp) (Ev.pos rfl (Ev.neg (by simp) (Ev.bind hq1 (Ev.pos rfl (Ev.bind hq2 (Ev.pos rfl (Ev.neg (by simp) (Ev.neg (by simp) (Ev.neg (by simp) (Ev.neg (by decide) ?_))))))))))))))))))))
    exact Ev.step (fun _ => laws_FnTierPairs.j0.eq_2 ..) (Ev.neg (by decide) (Ev.neg (by decide) (Ev.step (fun _ => laws_FnTierPairs.j3.eq_2 ..) (Ev.neg (by decide) J4))))
end Go.Proofs.Ytgapcmmhbegdeaa.Pure
