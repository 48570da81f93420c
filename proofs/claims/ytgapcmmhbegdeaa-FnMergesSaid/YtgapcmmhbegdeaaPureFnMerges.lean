/- FnMerges answers true for all bytes. No condition beyond what every row's reading gives. -/
import Derived.Test.YtgapcmmhbegdeaaG0
import Derived.Test.YtgapcmmhbegdeaaG46
import Derived.Test.YtgapcmmhbegdeaaG49
import Derived.Test.YtgapcmmhbegdeaaG54
import Derived.Test.YtgapcmmhbegdeaaG57
import Derived.Test.YtgapcmmhbegdeaaG58
import Derived.Test.YtgapcmmhbegdeaaMAll
namespace Go.Proofs.Ytgapcmmhbegdeaa.Pure
open Go.RowKit Go.Proofs.Ytgapcmmhbegdeaa.G Go.Proofs.YtgapcmmhbegdeaaW.PrintWords Go.Proofs.YtgapcmmhbegdeaaW.PrintLast Go.Proofs.Ytgapcmmhbegdeaa.MPure Go.Proofs.Ytgapcmmhbegdeaa.MWord Go.Proofs.Ytgapcmmhbegdeaa.MNote Go.Proofs.Ytgapcmmhbegdeaa.MDraw Go.Proofs.Ytgapcmmhbegdeaa.MDrawT Go.Proofs.Ytgapcmmhbegdeaa.MDrawC Go.Proofs.Ytgapcmmhbegdeaa.MQNotes Go.Proofs.Ytgapcmmhbegdeaa.MQLists2 Go.Proofs.Ytgapcmmhbegdeaa.MSort Go.Proofs.Ytgapcmmhbegdeaa.MTier Go.Proofs.Ytgapcmmhbegdeaa.MConfL Go.Proofs.Ytgapcmmhbegdeaa.MJoin Go.Proofs.Ytgapcmmhbegdeaa.MMrg
open Go.Proofs.Ytgapcmmhbegdeaa.MHas (hasB)

/-! ### what the functions answer -/
def mrR (a b : List NI) : List NI × List (List Int) × Bool := if (tierB a && tierB b) = true then out3 (mrgP a b) (cps a b) else ([], [], false)
theorem Merge_s (a b : List NI) (ha : Sized a) (hb : Sized b) : Ev (fun k => spec_MergeTiers.f k a b) (mrR a b) := by
  unfold spec_MergeTiers.f mrR
  refine Ev.bind (MHas.meBoth_ a b ha hb) (Ev.ite (fun h => ?_) (fun h => Ev.some (by rw [if_neg h])))
  rw [if_pos h]
  rw [Bool.and_eq_true] at h
  exact (mergedC_ a b h.1 h.2 ha hb).1
theorem Merge_i (a b : List NI) (ha : Sized a) (hb : Sized b) : Ev (fun k => impl_MergeTiers.f k a b) (mrR a b) := by
  unfold impl_MergeTiers.f mrR
  refine Ev.bind (IsTier_ a ha) (Ev.ite (fun h => ?_) (fun h => Ev.some (by rw [if_neg (by simp [h])])))
  refine Ev.bind (IsTier_ b hb) (Ev.ite (fun h2 => ?_) (fun h2 => Ev.some (by rw [if_neg (by simp [h2])])))
  rw [if_pos (by rw [h, h2]; rfl)]
  exact Ev.bind (mergedC_ a b h h2 ha hb).2 (Ev.some rfl)
def coR (a b : List NI) : List (List Int) × Bool := if (tierB a && tierB b) = true then (cps a b, true) else ([], false)
theorem Conf_s (a b : List NI) (ha : Sized a) (hb : Sized b) : Ev (fun k => spec_ConflictsOf.f k a b) (coR a b) := by
  unfold spec_ConflictsOf.f coR
  refine Ev.bind (MHas.meBoth_ a b ha hb) (Ev.ite (fun h => ?_) (fun h => Ev.some (by rw [if_neg h])))
  rw [if_pos h]
  rw [Bool.and_eq_true] at h
  exact Ev.bind (cps_ a b (by have := tier_len h.1; omega) (by have := tier_len h.2; omega)).1 (Ev.some rfl)
theorem Conf_i (a b : List NI) (ha : Sized a) (hb : Sized b) : Ev (fun k => impl_ConflictsOf.f k a b) (coR a b) := by
  unfold impl_ConflictsOf.f coR
  refine Ev.bind (IsTier_ a ha) (Ev.ite (fun h => ?_) (fun h => Ev.some (by rw [if_neg (by simp [h])])))
  refine Ev.bind (IsTier_ b hb) (Ev.ite (fun h2 => ?_) (fun h2 => Ev.some (by rw [if_neg (by simp [h2])])))
  rw [if_pos (by rw [h, h2]; rfl)]
  exact Ev.bind (cps_ a b (by have := tier_len h; omega) (by have := tier_len h2; omega)).2 (Ev.some rfl)
def forR (a b : List NI) : List NI × Bool := if (tierB a && tierB b) = true then tierOr (puts a (fresh a b)) else ([], false)
theorem for_s (a b : List NI) (ha : Sized a) (hb : Sized b) : Ev (fun k => spec_MergeFor.f k a b) (forR a b) := by
  unfold spec_MergeFor.f forR
  refine Ev.bind (MHas.meBoth_ a b ha hb) (Ev.ite (fun h => ?_) (fun h => Ev.some (by rw [if_neg h])))
  rw [if_pos h]
  rw [Bool.and_eq_true] at h
  have h1 := tier_len h.1
  have h2 := tier_len h.2
  have hf := fresh_length a b
  have hz : Sized (a ++ fresh a b) := sized_append ha (sized_filter hb _) (by omega) (by omega)
  exact Ev.bind (meJoin_ a b (by omega) (by omega)) (Ev.bind (MTier.tiIf_ _ (sized_perm hz (puts_perm _ _))) (Ev.some rfl))
theorem for_i (a b : List NI) (ha : Sized a) (hb : Sized b) : Ev (fun k => impl_MergeFor.f k a b) (forR a b) := by
  unfold impl_MergeFor.f forR
  refine Ev.bind (IsTier_ a ha) (Ev.ite (fun h => ?_) (fun h => Ev.step (fun _ => impl_MergeFor.j0.eq_2 ..) (Ev.pos rfl (Ev.some (by simp [h])))))
  refine Ev.bind (IsTier_ b hb) (Ev.step (fun _ => impl_MergeFor.j0.eq_2 ..) (Ev.ite (fun h2 => Ev.some ?_) (fun h2 => ?_)))
  · rw [Bool.not_eq_true'] at h2
    rw [h, h2]; rfl
  · have h3 : tierB b = true := by simpa using h2
    rw [h, h3]
    have h1 := tier_len h
    have h4 := tier_len h3
    have hf := fresh_length a b
    have hz : Sized (a ++ fresh a b) := sized_append ha (sized_filter hb _) (by omega) (by omega)
    have hk : KB (a ++ fresh a b) := KB_append (tier_KB h) (KB_filter (tier_KB h3) _) (by omega)
    have hc : slices_Clone_Note.f a = some a := by
      unfold slices_Clone_Note.f
      rw [if_pos (by omega)]
    have hadd : impl_addedTo.f a b = some (fresh a b) := by rw [addedTo_ a b (by omega), ← fresh_all]
    exact Ev.have hc (Ev.have hadd (Ev.pos (by omega) (Ev.bind (sortedTier_ _ _ hk hz (puts_perm _ _) (puts_srt _ _ (tier_srt h))) (Ev.some rfl))))
def onR (l m : List NI) : List NI × Bool := if (tierB l && tierB m) = true then (l.filter (fun x => hasB m x == false), true) else ([], false)
theorem on_i (l m : List NI) (hl : Sized l) (hm : Sized m) : Ev (fun k => impl_OnlyIn.f k l m) (onR l m) := by
  unfold impl_OnlyIn.f onR
  refine Ev.bind (IsTier_ l hl) (Ev.ite (fun h => ?_) (fun h => Ev.some (by simp [h])))
  refine Ev.bind (IsTier_ m hm) (Ev.ite (fun h2 => ?_) (fun h2 => Ev.some (by simp [h2])))
  have h1 := tier_len h
  refine Ev.pos (by omega) (Ev.some ?_)
  rw [h, h2]
  have e : (fun x => !impl_OnlyIn.p m x) = (fun x => hasB m x == false) := funext fun x => by
    show (!(hasB m x)) = _
    cases hasB m x <;> rfl
  rw [e]
  rfl
/-- One note of a tier is a tier. -/
theorem tier_one {l : List NI} (h : tierB l = true) {x : NI} (hx : x ∈ l) : tierB [x] = true := by
  obtain ⟨i, hi, rfl⟩ := List.mem_iff_getElem.1 hx
  have h1 := (tier_at h hi).1
  have e : atN l i = l[i] := by
    unfold atN
    rw [List.getD_eq_getElem?_getD, List.getElem?_eq_getElem hi]
    rfl
  rw [e] at h1
  unfold tierB
  simp only [Bool.and_eq_true, decide_eq_true_eq, List.all_eq_true, List.mem_range]
  refine ⟨fun j hj => ?_, by show ((1 : Nat) : Int) ≤ 40; omega⟩
  obtain rfl : j = 0 := by have : j < 1 := hj; omega
  simp only [tierP, Bool.and_eq_true, Bool.or_eq_true, decide_eq_true_eq]
  exact ⟨h1, Or.inl trivial⟩
theorem on_one (l m : List NI) (x : NI) (h : tierB l = true) (hx : x ∈ l) (hm : tierB m = true) (b : Bool) (hh : hasB m x = !b) : (onR [x] m).2 = true ∧ ((decide (((onR [x] m).1.length : Int) > 0)) != b) = false := by
  unfold onR
  rw [if_pos (by rw [tier_one h hx, hm]; rfl)]
  refine ⟨rfl, ?_⟩
  cases b with
  | true =>
    have e : [x].filter (fun x => hasB m x == false) = [x] := by
      rw [List.filter_cons, hh]; rfl
    rw [e]; rfl
  | false =>
    have e : [x].filter (fun x => hasB m x == false) = [] := by
      rw [List.filter_cons, hh]; rfl
    rw [e]; rfl
theorem FnMerges : laws_FnMerges.Pure := by
  intro c m hc hm
  obtain ⟨a, b, e1, la, Sa, lb, Sb⟩ := DrawCommonNotes_ c hc.1
  have za := Sa.sized (by omega)
  have zb := Sb.sized (by omega)
  have e2 : Ev (fun k => spec_DrawMergeTiers.f k c) (a, b) := Ev.bind e1 (Ev.some rfl)
  -- sizes
  have hmz : (mrR a b).1.length ≤ 200 ∧ (∀ x, x ∈ (mrR a b).1 → x.f2.size ≤ 140737488351232) := by
    unfold mrR out3
    split
    · split
      · refine ⟨by have := mrg_length a b; show (mrgP a b).length ≤ 200; omega, fun x hx => ?_⟩
        rename_i h _
        rw [Bool.and_eq_true] at h
        rcases (mem_mrg a b (tier_calm h.2) x).1 hx with h2 | h2
        · exact za.2 x h2.1
        · exact zb.2 x h2.1
      · exact ⟨Nat.zero_le _, fun x hx => nomatch hx⟩
    · exact ⟨Nat.zero_le _, fun x hx => nomatch hx⟩
  have zm : Sized (mrR a b).1 := ⟨by omega, hmz.2⟩
  have hfz : (forR a b).1.length ≤ 200 ∧ (∀ x, x ∈ (forR a b).1 → x.f2.size ≤ 140737488351232) := by
    unfold forR tierOr
    split
    · split
      · refine ⟨by have := fresh_length a b; show (puts a (fresh a b)).length ≤ 200; rw [puts_length]; omega, fun x hx => ?_⟩
        rcases List.mem_append.1 ((puts_perm _ _).mem_iff.1 hx) with h2 | h2
        · exact za.2 x h2
        · exact zb.2 x (fresh_mem h2)
      · exact ⟨Nat.zero_le _, fun x hx => nomatch hx⟩
    · exact ⟨Nat.zero_le _, fun x hx => nomatch hx⟩
  have zf : Sized (forR a b).1 := ⟨by omega, hfz.2⟩
  have F6 : Ev (fun k => laws_FnMerges.j6 k a (forR a b).1 (forR a b).2) true := by
    refine Ev.step (fun _ => laws_FnMerges.j6.eq_2 ..) (Ev.ite (fun h => ?_) (fun _ => Ev.some rfl))
    unfold forR at h
    split at h
    rotate_left
    · exact absurd h (by decide)
    rename_i hab
    unfold tierOr at h
    split at h
    rotate_left
    · exact absurd h (by decide)
    rename_i ht
    have ef : (forR a b).1 = puts a (fresh a b) := by unfold forR tierOr; rw [if_pos hab, if_pos ht]
    rw [Bool.and_eq_true] at hab
    have t := on_i a (forR a b).1 za zf
    have eo : onR a (forR a b).1 = ([], true) := by
      unfold onR
      rw [ef, if_pos (by rw [hab.1, ht]; rfl)]
      have : a.filter (fun x => hasB (puts a (fresh a b)) x == false) = [] := by
        rw [List.filter_eq_nil_iff]
        intro x hx
        rw [(hasB_iff _ _).2 ((puts_perm _ _).mem_iff.2 (List.mem_append.2 (Or.inl hx)))]
        decide
      rw [this]
    rw [eo] at t
    exact Ev.bind t (Ev.pos rfl (Ev.neg (by simp) (Ev.bind (Ev.eq (IsTier_ _ zf) (by rw [ef]; exact ht)) (Ev.pos rfl (Ev.some rfl)))))
  have F0 : Ev (fun k => laws_FnMerges.j0 k a b (mrR a b).1 (mrR a b).2.2 (mrR a b).1 (mrR a b).2.1 (coR a b).1 (forR a b).1 (forR a b).2 false) true := by
    refine Ev.step (fun _ => laws_FnMerges.j0.eq_2 ..) (Ev.neg (by decide) (Ev.ite (fun h => ?_) (fun _ => F6)))
    unfold mrR at h
    split at h
    rotate_left
    · exact absurd h (by decide)
    rename_i hab
    unfold out3 at h
    split at h
    rotate_left
    · exact absurd h (by decide)
    rename_i ht
    have er : mrR a b = (mrgP a b, cps a b, true) := by unfold mrR out3; rw [if_pos hab, if_pos ht]
    have ec : coR a b = (cps a b, true) := by unfold coR; rw [if_pos hab]
    rw [er] at zm
    rw [er, ec]
    rw [Bool.and_eq_true] at hab
    obtain ⟨ta, tb⟩ := hab
    have ca := tier_calm ta
    have cb := tier_calm tb
    have la2 := tier_len ta
    have lb2 := tier_len tb
    have hcl := cps_length a b (by omega) (by omega)
    have hq := qLists_ (cps a b) (by omega) (fun x hx => by rw [cps_two a b x hx]; omega)
    -- the way back
    have eb : mrR b a = (mrgP a b, cps b a, true) := by
      unfold mrR out3
      rw [if_pos (by rw [ta, tb]; rfl), mrg_comm a b ta tb ht, if_pos ht]
    have tback := Merge_i b a zb za
    rw [eb] at tback
    have L2 : ∀ d i : Nat, i + d = b.length → Ev (fun k => laws_FnMerges.l2 k a b (mrgP a b) (mrgP a b) (cps a b) (forR a b).1 (forR a b).2 b (b.length : Int) (i : Int)) true := by
      intro d
      induction d with
      | zero =>
        intro i hi
        exact Ev.step (fun _ => laws_FnMerges.l2.eq_2 ..) (Ev.neg (by omega) (Ev.bind tback (Ev.pos rfl (Ev.bind (qNotes_ _ (by have := mrg_length a b; show (mrgP a b).length ≤ _; omega)) (Ev.pos rfl F6)))))
      | succ d ih =>
        intro i hi
        have hn := ih (i + 1) (by omega)
        rw [← wrap_succ (by omega)] at hn
        have hmem := rd_mem b (i : Int) (by omega) (by omega)
        have hl := lost_right a b i (by omega)
        have hh := has_right a b ca cb _ hmem
        have zo : Sized [(rd_T58 b (i : Int))] := ⟨by simp, fun x hx => by rw [List.mem_singleton.1 hx]; exact zb.2 _ hmem⟩
        have L3 : ∀ e j : Nat, j + e = (cps a b).length → ∀ lost : Bool, (lost || ((cps a b).drop j).any (fun q => q.getD 1 0 == (i : Int))) = clashB a (atN b i) → Ev (fun k => laws_FnMerges.l3 k a b (mrgP a b) (mrgP a b) (cps a b) (forR a b).1 (forR a b).2 (i : Int) lost b (b.length : Int) (i : Int) (cps a b) ((cps a b).length : Int) (j : Int) (rd_T58 b (i : Int)).f0 (rd_T58 b (i : Int)).f1 (rd_T58 b (i : Int)).f2) true := by
          intro e
          induction e with
          | zero =>
            intro j hj lost hlost
            rw [List.drop_eq_nil_of_le (by omega), List.any_nil, Bool.or_false] at hlost
            obtain ⟨k1, k2⟩ := on_one b (mrgP a b) _ tb hmem ht lost (by rw [hh, hlost]; rfl)
            exact Ev.step (fun _ => laws_FnMerges.l3.eq_2 ..) (Ev.neg (by omega) (Ev.bind (on_i _ _ zo zm) (Ev.pos k1 (Ev.neg (by rw [k2]; decide) hn))))
          | succ e ihe =>
            intro j hj lost hlost
            have hg : (cps a b).getD j [] ∈ cps a b := by
              rw [List.getD_eq_getElem?_getD, List.getElem?_eq_getElem (show j < (cps a b).length by omega)]
              exact List.getElem_mem _
            have h2 := cps_two a b _ hg
            have hdr : (cps a b).drop j = (cps a b).getD j [] :: (cps a b).drop (j + 1) := by
              rw [List.getD_eq_getElem?_getD, List.getElem?_eq_getElem (show j < (cps a b).length by omega)]
              exact List.drop_eq_getElem_cons (by omega)
            rw [hdr, List.any_cons] at hlost
            cases lost with
            | true =>
              have hn2 := ihe (j + 1) (by omega) true (by rw [Bool.true_or] at hlost ⊢; exact hlost)
              rw [← wrap_succ (by omega)] at hn2
              exact Ev.step (fun _ => laws_FnMerges.l3.eq_2 ..) (Ev.pos (by omega) (Ev.pos (by omega) (Ev.pos (by omega) (Ev.pos rfl hn2))))
            | false =>
              have hn2 := ihe (j + 1) (by omega) (((cps a b).getD j []).getD 1 0 == (i : Int)) (by rw [Bool.false_or] at hlost; exact hlost)
              rw [← wrap_succ (by omega)] at hn2
              exact Ev.step (fun _ => laws_FnMerges.l3.eq_2 ..) (Ev.pos (by omega) (Ev.pos (by omega) (Ev.pos (by omega) (Ev.neg (by decide) (Ev.pos (by show (1 : Int) < (((cps a b).getD j []).length : Int); omega) hn2)))))
        exact Ev.step (fun _ => laws_FnMerges.l2.eq_2 ..) (Ev.pos (by omega) (Ev.pos (by omega) (Ev.pos (by omega) (L3 (cps a b).length 0 (by omega) false (by rw [Bool.false_or, List.drop_zero]; exact hl)))))
    have L0 : ∀ d i : Nat, i + d = a.length → Ev (fun k => laws_FnMerges.l0 k a b (mrgP a b) (mrgP a b) (cps a b) (forR a b).1 (forR a b).2 a (a.length : Int) (i : Int)) true := by
      intro d
      induction d with
      | zero =>
        intro i hi
        exact Ev.step (fun _ => laws_FnMerges.l0.eq_2 ..) (Ev.neg (by omega) (L2 b.length 0 (by omega)))
      | succ d ih =>
        intro i hi
        have hn := ih (i + 1) (by omega)
        rw [← wrap_succ (by omega)] at hn
        have hmem := rd_mem a (i : Int) (by omega) (by omega)
        have hl := lost_left a b i (by omega)
        have hh := has_left a b ca cb _ hmem
        have zo : Sized [(rd_T58 a (i : Int))] := ⟨by simp, fun x hx => by rw [List.mem_singleton.1 hx]; exact za.2 _ hmem⟩
        have L1 : ∀ e j : Nat, j + e = (cps a b).length → ∀ lost : Bool, (lost || ((cps a b).drop j).any (fun q => q.getD 0 0 == (i : Int))) = clashB b (atN a i) → Ev (fun k => laws_FnMerges.l1 k a b (mrgP a b) (mrgP a b) (cps a b) (forR a b).1 (forR a b).2 (i : Int) lost a (a.length : Int) (i : Int) (cps a b) ((cps a b).length : Int) (j : Int) (rd_T58 a (i : Int)).f0 (rd_T58 a (i : Int)).f1 (rd_T58 a (i : Int)).f2) true := by
          intro e
          induction e with
          | zero =>
            intro j hj lost hlost
            rw [List.drop_eq_nil_of_le (by omega), List.any_nil, Bool.or_false] at hlost
            obtain ⟨k1, k2⟩ := on_one a (mrgP a b) _ ta hmem ht lost (by rw [hh, hlost]; rfl)
            exact Ev.step (fun _ => laws_FnMerges.l1.eq_2 ..) (Ev.neg (by omega) (Ev.bind (on_i _ _ zo zm) (Ev.pos k1 (Ev.neg (by rw [k2]; decide) hn))))
          | succ e ihe =>
            intro j hj lost hlost
            have hg : (cps a b).getD j [] ∈ cps a b := by
              rw [List.getD_eq_getElem?_getD, List.getElem?_eq_getElem (show j < (cps a b).length by omega)]
              exact List.getElem_mem _
            have h2 := cps_two a b _ hg
            have hdr : (cps a b).drop j = (cps a b).getD j [] :: (cps a b).drop (j + 1) := by
              rw [List.getD_eq_getElem?_getD, List.getElem?_eq_getElem (show j < (cps a b).length by omega)]
              exact List.drop_eq_getElem_cons (by omega)
            rw [hdr, List.any_cons] at hlost
            cases lost with
            | true =>
              have hn2 := ihe (j + 1) (by omega) true (by rw [Bool.true_or] at hlost ⊢; exact hlost)
              rw [← wrap_succ (by omega)] at hn2
              exact Ev.step (fun _ => laws_FnMerges.l1.eq_2 ..) (Ev.pos (by omega) (Ev.pos (by omega) (Ev.pos (by omega) (Ev.pos rfl hn2))))
            | false =>
              have hn2 := ihe (j + 1) (by omega) (((cps a b).getD j []).getD 0 0 == (i : Int)) (by rw [Bool.false_or] at hlost; exact hlost)
              rw [← wrap_succ (by omega)] at hn2
              exact Ev.step (fun _ => laws_FnMerges.l1.eq_2 ..) (Ev.pos (by omega) (Ev.pos (by omega) (Ev.pos (by omega) (Ev.neg (by decide) (Ev.pos (by show (0 : Int) < (((cps a b).getD j []).length : Int); omega) hn2)))))
        exact Ev.step (fun _ => laws_FnMerges.l0.eq_2 ..) (Ev.pos (by omega) (Ev.pos (by omega) (Ev.pos (by omega) (L1 (cps a b).length 0 (by omega) false (by rw [Bool.false_or, List.drop_zero]; exact hl)))))
    refine Ev.bind hq (Ev.pos rfl (Ev.bind (Ev.eq (IsTier_ _ zm) ht) ?_))
    exact Ev.step (fun _ => laws_FnMerges.j1.eq_2 ..) (Ev.neg (by decide) (L0 a.length 0 (by omega)))
  have hc3 : (mrR a b).2.1.length ≤ 140737488351232 ∧ (∀ x, x ∈ (mrR a b).2.1 → x.length ≤ 140737488351232) ∧ (coR a b).1.length ≤ 140737488351232 ∧ (∀ x, x ∈ (coR a b).1 → x.length ≤ 140737488351232) := by
    have two : ∀ x, x ∈ cps a b → x.length ≤ 140737488351232 := fun x hx => by rw [cps_two a b x hx]; omega
    by_cases hab : (tierB a && tierB b) = true
    · have h2 := hab
      rw [Bool.and_eq_true] at h2
      have hcl := cps_length a b (by have := tier_len h2.1; omega) (by have := tier_len h2.2; omega)
      unfold mrR coR out3
      rw [if_pos hab, if_pos hab]
      split
      · exact ⟨by show (cps a b).length ≤ _; omega, two, by show (cps a b).length ≤ _; omega, two⟩
      · exact ⟨Nat.zero_le _, fun x hx => (nomatch hx), by show (cps a b).length ≤ _; omega, two⟩
    · unfold mrR coR
      rw [if_neg hab, if_neg hab]
      exact ⟨Nat.zero_le _, fun x hx => (nomatch hx), Nat.zero_le _, fun x hx => (nomatch hx)⟩
  unfold laws_FnMerges.f
  refine Ev.rounds (Ev.ite (fun _ => Ev.some rfl) (fun _ => ?_))
  refine Ev.bind e2 (Ev.bind (Merge_i a b za zb) (Ev.bind (Merge_s a b za zb) (Ev.bind (Conf_i a b za zb) (Ev.bind (Conf_s a b za zb) (Ev.bind (for_i a b za zb) (Ev.bind (for_s a b za zb) ?_))))))
  refine Ev.neg (by simp) (Ev.bind (qNotes_ _ (by omega)) (Ev.pos rfl (Ev.bind (qLists_ _ hc3.1 hc3.2.1) (Ev.pos rfl (Ev.neg (by simp) (Ev.bind (qLists_ _ hc3.2.2.1 hc3.2.2.2) (Ev.pos rfl (Ev.neg (by simp) (Ev.bind (qNotes_ _ (by omega)) (Ev.pos rfl (Ev.ite (fun h => ?_) (fun _ => F0))))))))))))
  have e : (!(coR a b).2) = false := by
    unfold mrR at h
    split at h
    · rename_i hab
      unfold coR
      rw [if_pos hab]; rfl
    · exact absurd h (by decide)
  rw [e]
  exact F0
end Go.Proofs.Ytgapcmmhbegdeaa.Pure
