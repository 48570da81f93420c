/- MergeOver of the program returns what that of the reference returns, for all lists of notes, and in memory of its own; no condition beyond what every row's reading gives. -/
import Derived.Test.YtmllkdgdkagkkaaG0
import Derived.Test.YtmllkdgdkagkkaaG54
import Derived.Test.YtmllkdgdkagkkaaG60
import Derived.Test.YtmllkdgdkagkkaaG61
import Derived.Test.YtmllkdgdkagkkaaMAll
namespace Go.Proofs.Ytmllkdgdkagkkaa.Pure
open Go.RowKit Go.Proofs.Ytmllkdgdkagkkaa.G Go.Proofs.YtmllkdgdkagkkaaW.PrintWords Go.Proofs.YtmllkdgdkagkkaaW.PrintLast Go.Proofs.Ytmllkdgdkagkkaa.MPure Go.Proofs.Ytmllkdgdkagkkaa.MWord Go.Proofs.Ytmllkdgdkagkkaa.MNote Go.Proofs.Ytmllkdgdkagkkaa.MMarkN Go.Proofs.Ytmllkdgdkagkkaa.MMarkSS Go.Proofs.Ytmllkdgdkagkkaa.MSort Go.Proofs.Ytmllkdgdkagkkaa.MTier Go.Proofs.Ytmllkdgdkagkkaa.MJoin
open Go.Proofs.Ytmllkdgdkagkkaa.MHas (hasB meHas_)

theorem tier_len {l : List NI} (h : tierB l = true) : l.length ≤ 1000 := by
  unfold tierB at h
  simp only [Bool.and_eq_true, decide_eq_true_eq] at h
  omega
/-- What is kept of a tier. -/
def kept (base a b : List NI) : List NI := a.filter (fun n => !impl_MergeOver.p base b n)
theorem meKept_ (base a b : List NI) (h0 : base.length ≤ 140737488351232) (ha : a.length ≤ 4398046511104) (hb : b.length ≤ 140737488351232) : Ev (fun k => spec_meKept.f k base a b) (kept base a b) := by
  have key : ∀ d i : Nat, i + d = a.length → ∀ out : List NI, out.length ≤ i → Ev (fun k => spec_meKept.l0 k base b out a (a.length : Int) (i : Int)) (out ++ kept base (a.drop i) b) := by
    intro d
    induction d with
    | zero =>
      intro i hi out _
      rw [List.drop_eq_nil_of_le (by omega)]
      exact Ev.step (fun _ => spec_meKept.l0.eq_2 ..) (Ev.neg (by omega) (Ev.some (by simp [kept])))
    | succ d ih =>
      intro i hi out ho
      have e : rd_T63 a (i : Int) = a[i]'(by omega) := by
        show a.getD i z63 = _
        rw [List.getD_eq_getElem?_getD, List.getElem?_eq_getElem (by omega)]
        rfl
      rw [List.drop_eq_getElem_cons (show i < a.length by omega), ← e]
      have h1 := ih (i + 1) (by omega) out (by omega)
      have h2 := ih (i + 1) (by omega) (out ++ [rd_T63 a (i : Int)]) (by rw [List.length_append]; simp; omega)
      rw [← wrap_succ (by omega)] at h1 h2
      rw [List.append_assoc, List.singleton_append] at h2
      have k1 : impl_MergeOver.p base b (rd_T63 a (i : Int)) = true → kept base (rd_T63 a (i : Int) :: a.drop (i + 1)) b = kept base (a.drop (i + 1)) b := fun h => by
        unfold kept
        rw [List.filter_cons, if_neg (by rw [h]; simp)]
      have k2 : impl_MergeOver.p base b (rd_T63 a (i : Int)) = false → kept base (rd_T63 a (i : Int) :: a.drop (i + 1)) b = rd_T63 a (i : Int) :: kept base (a.drop (i + 1)) b := fun h => by
        unfold kept
        rw [List.filter_cons, if_pos (by rw [h]; rfl)]
      have hp : impl_MergeOver.p base b (rd_T63 a (i : Int)) = (hasB base (rd_T63 a (i : Int)) && !hasB b (rd_T63 a (i : Int))) := rfl
      refine Ev.step (fun _ => spec_meKept.l0.eq_2 ..) (Ev.pos (by omega) (Ev.pos (by omega) (Ev.pos (by omega) (Ev.bind (meHas_ base h0 _) (Ev.ite (fun he => Ev.bind (meHas_ b hb _) (Ev.ite (fun hf => Ev.pos (by omega) ?_) (fun hf => ?_))) (fun he => Ev.pos (by omega) ?_))))))
      · rw [k2 (by rw [hp, he, hf]; rfl)]
        exact h2
      · rw [k1 (by rw [hp, he, Bool.eq_false_iff.2 hf]; rfl)]
        exact h1
      · rw [k2 (by rw [hp, Bool.eq_false_iff.2 he]; rfl)]
        exact h2
  have h := key a.length 0 (by omega) [] (Nat.zero_le _)
  rw [List.nil_append, List.drop_zero] at h
  exact h
theorem kept_length (base a b : List NI) : (kept base a b).length ≤ a.length := List.length_filter_le _ _
theorem Over_ (base a b : List NI) (h0 : Sized base) (ha : Sized a) (hb : Sized b) : ∃ (r : List NI) (c : List (List Int)) (q : Bool), r.length ≤ 2000 ∧ c.length ≤ 1000000 ∧ (∀ z, z ∈ c → z.length = 2) ∧ Ev (fun k => spec_MergeOver.f k base a b) (r, c, q) ∧ Ev (fun k => impl_MergeOver.f k base a b) (r, c, q) := by
  unfold spec_MergeOver.f impl_MergeOver.f
  have t0 := tiGood_ base h0
  have t1 := MHas.meBoth_ a b ha hb
  have i0 := IsTier_ base h0
  have i1 := IsTier_ a ha
  have i2 := IsTier_ b hb
  cases e0 : tierB base with
  | false =>
    rw [e0] at t0 i0
    exact ⟨[], [], false, Nat.zero_le _, Nat.zero_le _, (fun z h => nomatch h), Ev.bind t0 (Ev.neg (by simp) (Ev.step (fun _ => spec_MergeOver.j0.eq_2 ..) (Ev.pos rfl (Ev.some rfl)))), Ev.bind i0 (Ev.neg (by simp) (Ev.some rfl))⟩
  | true =>
    rw [e0] at t0 i0
    cases e1 : tierB a with
    | false =>
      rw [e1] at t1 i1
      exact ⟨[], [], false, Nat.zero_le _, Nat.zero_le _, (fun z h => nomatch h), Ev.bind t0 (Ev.pos rfl (Ev.bind t1 (Ev.step (fun _ => spec_MergeOver.j0.eq_2 ..) (Ev.pos (by simp) (Ev.some rfl))))), Ev.bind i0 (Ev.pos rfl (Ev.bind i1 (Ev.neg (by simp) (Ev.some rfl))))⟩
    | true =>
      rw [e1] at t1 i1
      cases e2 : tierB b with
      | false =>
        rw [e2] at t1 i2
        exact ⟨[], [], false, Nat.zero_le _, Nat.zero_le _, (fun z h => nomatch h), Ev.bind t0 (Ev.pos rfl (Ev.bind t1 (Ev.step (fun _ => spec_MergeOver.j0.eq_2 ..) (Ev.pos (by simp) (Ev.some rfl))))), Ev.bind i0 (Ev.pos rfl (Ev.bind i1 (Ev.pos rfl (Ev.bind i2 (Ev.neg (by simp) (Ev.some rfl))))))⟩
      | true =>
        rw [e2] at t1 i2
        have n1 := tier_len e1
        have n2 := tier_len e2
        have l1 := kept_length base a b
        have l2 := kept_length base b a
        obtain ⟨r, c, q, r1, c1, c2, r2, r3⟩ := merged_ (kept base a b) (kept base b a) (srt_filter (tier_srt e1) _) (calm_filter (tier_calm e2) _) (KB_filter (tier_KB e1) _) (KB_filter (tier_KB e2) _) (sized_filter ha _) (sized_filter hb _) (by omega) (by omega)
        have b0 := h0.1
        have m1 := meKept_ base a b (by omega) (by omega) (by omega)
        have m2 := meKept_ base b a (by omega) (by omega) (by omega)
        exact ⟨r, c, q, r1, c1, c2, Ev.bind t0 (Ev.pos rfl (Ev.bind t1 (Ev.step (fun _ => spec_MergeOver.j0.eq_2 ..) (Ev.neg (by simp) (Ev.bind m1 (Ev.bind m2 r2)))))), Ev.bind i0 (Ev.pos rfl (Ev.bind i1 (Ev.pos rfl (Ev.bind i2 (Ev.pos rfl (Ev.pos (by omega) r3))))))⟩
theorem FnExactMergeOver : laws_FnExactMergeOver.Pure := by
  intro l m o hl hm ho
  obtain ⟨z0, ⟨K0, hz0⟩, _, _⟩ := szNoteS_ l hl 1048576 (by omega) (by omega)
  by_cases hneg : z0 < 0
  · exact ⟨K0, z0, hz0 _ (Nat.le_refl _), fun h => absurd h (by omega)⟩
  obtain ⟨z1, ⟨K1, hz1⟩, _, _⟩ := szNoteS_ m hm z0 (by omega) (by omega)
  by_cases hneg1 : z1 < 0
  · exact ⟨K0 + K1, z0, hz0 _ (by omega), fun _ => ⟨z1, hz1 _ (by omega), fun h => absurd h (by omega)⟩⟩
  obtain ⟨z2, ⟨K2, hz2⟩, _, _⟩ := szNoteS_ o ho z1 (by omega) (by omega)
  obtain ⟨K3, ht0⟩ := toNoteS_ l hl.2
  obtain ⟨K4, ht1⟩ := toNoteS_ m hm.2
  obtain ⟨K5, ht2⟩ := toNoteS_ o ho.2
  have hs0 := Given.sized hl
  have hs1 := Given.sized hm
  have hs2 := Given.sized ho
  have hl2 : (l.map conv).length ≤ 4398046511104 := by rw [List.length_map]; have := hl.2; omega
  have hm2 : (m.map conv).length ≤ 4398046511104 := by rw [List.length_map]; have := hm.2; omega
  have ho2 : (o.map conv).length ≤ 4398046511104 := by rw [List.length_map]; have := ho.2; omega
  obtain ⟨r, c, q, hr2, c1, c2, ⟨K6, g3⟩, ⟨K7, g4⟩⟩ := Over_ _ _ _ hs0 hs1 hs2
  have htot := tot_two c c2
  obtain ⟨K8, he⟩ := eqNoteS_ r (by omega)
  obtain ⟨K9, hx⟩ := eqNoteS_ _ hs0.1
  obtain ⟨K10, hy⟩ := eqNoteS_ _ hs1.1
  obtain ⟨K11, hw⟩ := eqNoteS_ _ hs2.1
  obtain ⟨K12, hmx⟩ := markNoteS_ (l.map conv) (by omega) 1 (by omega) (by omega)
  obtain ⟨K13, hmy⟩ := markNoteS_ (m.map conv) (by omega) (1 + 3 * ((l.map conv).length : Int)) (by omega) (by omega)
  obtain ⟨K14, hmw⟩ := markNoteS_ (o.map conv) (by omega) (1 + 3 * ((l.map conv).length : Int) + 3 * ((m.map conv).length : Int)) (by omega) (by omega)
  obtain ⟨K15, hmr⟩ := markNoteS_ r (by omega) 1 (by omega) (by omega)
  obtain ⟨K16, hh⟩ := heldNoteS_ r.length (by omega) 1 (by omega) (by omega)
  obtain ⟨K17, hc1⟩ := eqIntSS_ c (by omega) (by omega)
  obtain ⟨K18, hc2⟩ := markSS_ c (1 + 3 * (r.length : Int)) (by omega) (by omega)
  obtain ⟨K19, hc3⟩ := heldSS_ c (1 + 3 * (r.length : Int)) (by omega) (by omega) (by omega)
  refine ⟨K0 + K1 + K2 + K3 + K4 + K5 + K6 + K7 + K8 + K9 + K10 + K11 + K12 + K13 + K14 + K15 + K16 + K17 + K18 + K19, z0, hz0 _ (by omega), fun _ => ⟨z1, hz1 _ (by omega), fun _ => ⟨z2, hz2 _ (by omega), fun _ => ?_⟩⟩⟩
  exact ⟨_, _, _, r, c, q, _, _, _, _, _, _, _, _, _, _, ht0 _ (by omega), ht1 _ (by omega), ht2 _ (by omega), g3 _ (by omega), g4 _ (by omega), he _ (by omega), hc1 _ (by omega), hx _ (by omega), hy _ (by omega), hw _ (by omega), hmx _ (by omega), hmy _ (by omega), hmw _ (by omega), by omega, hmr _ (by omega), hc2 _ (by omega), hh _ (by omega), by omega, hc3 _ (by omega), by omega⟩
end Go.Proofs.Ytmllkdgdkagkkaa.Pure
