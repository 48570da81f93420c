/- FnAgreement answers true for all bytes. No condition beyond what every row's reading gives. -/
import Derived.Test.YtgapcmmhbegdeaaG0
import Derived.Test.YtgapcmmhbegdeaaG12
import Derived.Test.YtgapcmmhbegdeaaG17
import Derived.Test.YtgapcmmhbegdeaaG18
import Derived.Test.YtgapcmmhbegdeaaG20
import Derived.Test.YtgapcmmhbegdeaaG21
import Derived.Test.YtgapcmmhbegdeaaG22
import Derived.Test.YtgapcmmhbegdeaaG95
import Derived.Test.YtgapcmmhbegdeaaMAll
namespace Go.Proofs.Ytgapcmmhbegdeaa.Pure
open Go.RowKit Go.Proofs.Ytgapcmmhbegdeaa.G Go.Proofs.YtgapcmmhbegdeaaW.PrintWords Go.Proofs.YtgapcmmhbegdeaaW.PrintLast Go.Proofs.Ytgapcmmhbegdeaa.MPure Go.Proofs.Ytgapcmmhbegdeaa.MWord Go.Proofs.Ytgapcmmhbegdeaa.MNote Go.Proofs.Ytgapcmmhbegdeaa.MDraw Go.Proofs.Ytgapcmmhbegdeaa.MDrawT Go.Proofs.Ytgapcmmhbegdeaa.MDrawW Go.Proofs.Ytgapcmmhbegdeaa.MWin Go.Proofs.Ytgapcmmhbegdeaa.MGloss Go.Proofs.Ytgapcmmhbegdeaa.MGl Go.Proofs.Ytgapcmmhbegdeaa.MSame
open Go.Proofs.Ytgapcmmhbegdeaa.MSpans (DI Fine tot spAt)

/-! ### the draws -/
theorem DrawSameFrames_ (s : List Int) (hs : Bytes s) : ∃ x y a b, Ev (fun k => spec_DrawSameFrames.f k s) (x, y, a, b) ∧ x.length ≤ 60 ∧ Short x ∧ y.length ≤ 60 ∧ Short y := by
  obtain ⟨x, y, a1, d1, e1, hx, hSx, hy, hSy, p1, q1⟩ := twoTiers_ s hs 0 0 (by omega) (by omega)
  obtain ⟨u, v, a2, d2, e2, -, -⟩ := window_ s hs a1 d1 (by omega) (by omega)
  exact ⟨x, y, u, v, Ev.bind e1 (Ev.have e2 (Ev.some rfl)), hx, hSx, hy, hSy⟩
theorem DrawGlossAt_ (s : List Int) (hs : Bytes s) : ∃ x f, Ev (fun k => spec_DrawGlossAt.f k s) (x, f) ∧ x.length ≤ 60 ∧ Short x := by
  obtain ⟨x, a1, d1, e1, hx, hSx, p1, q1⟩ := tier_ s hs 0 0 (by omega) (by omega)
  have go : ∀ (b : Bool) (a2 d2 : Int), 0 ≤ a2 → a2 ≤ 1000000 → ((b = true) → (x.length : Int) > 0) → ∃ f, Ev (fun k => spec_DrawGlossAt.j0 k x b s a2 d2) (x, f) := by
    intro b a2 d2 h0 h1 hb
    cases b with
    | true =>
      have hp := hb rfl
      obtain ⟨v3, a3, d3, e3, g0, -, g1, p3, q3⟩ := pick_ s hs a2 d2 (x.length : Int) h0 (by omega)
      obtain ⟨v4, a4, d4, e4, -, -, -⟩ := among_ s hs a3 d3 [(rd_T58 x v3).f0, (rd_T58 x v3).f1, wrap64 (((rd_T58 x v3).f0) + 1)] (by simp) (by omega) (by omega)
      exact ⟨v4, Ev.step (fun _ => spec_DrawGlossAt.j0.eq_2 ..) (Ev.pos rfl (Ev.have e3 (Ev.pos g0 (Ev.pos (g1 (by omega)) (Ev.have e4 (Ev.some rfl))))))⟩
    | false =>
      obtain ⟨v3, a3, d3, e3, -, p3, q3⟩ := among_ s hs a2 d2 [7, (-1), 100000] (by simp) (by omega) (by omega)
      obtain ⟨v4, a4, d4, e4, -, -, -⟩ := among_ s hs a3 d3 [0, 5, 20, 99999, v3] (by simp) (by omega) (by omega)
      exact ⟨v4, Ev.step (fun _ => spec_DrawGlossAt.j0.eq_2 ..) (Ev.neg (by decide) (Ev.have e3 (Ev.have e4 (Ev.some rfl))))⟩
  by_cases hp : (x.length : Int) > 0
  · obtain ⟨b, a2, d2, e2, p2, q2⟩ := one_ s hs a1 d1 2 (by omega) (by omega)
    obtain ⟨f, ef⟩ := go b a2 d2 (by omega) (by omega) (fun _ => hp)
    exact ⟨x, f, Ev.bind e1 (Ev.pos hp (Ev.have e2 ef)), hx, hSx⟩
  · obtain ⟨f, ef⟩ := go false a1 d1 (by omega) (by omega) (nomatch ·)
    exact ⟨x, f, Ev.bind e1 (Ev.neg hp ef), hx, hSx⟩

/-! ### what the functions answer -/
def askF (x y : List NI) (a b : Int) : Bool := tierB x && tierB y && windowB a b
def sfR (x y : List NI) (a b : Int) : Int × Bool := if askF x y a b = true then (sameN x y (b - a).toNat a, true) else (0, false)
theorem SameFrames_i (x y : List NI) (hx : Sized x) (hy : Sized y) (a b : Int) : Ev (fun k => impl_SameFrames.f k x y a b) (sfR x y a b) := by
  unfold impl_SameFrames.f sfR askF
  refine Ev.bind (IsTier_ x hx) (Ev.ite (fun h1 => ?_) (fun h1 => Ev.some (by rw [if_neg (by simp [h1])])))
  refine Ev.bind (IsTier_ y hy) (Ev.ite (fun h2 => ?_) (fun h2 => Ev.some (by rw [if_neg (by simp [h2])])))
  refine Ev.have (isWindow_ a b) (Ev.ite (fun h3 => ?_) (fun h3 => Ev.some (by rw [if_neg (by simp [h3])])))
  exact Ev.bind (Same_ x y hx hy h1 h2 a b h3).2 (Ev.some (by rw [if_pos (by simp [h1, h2, h3])]))
theorem SameFrames_s (x y : List NI) (hx : Sized x) (hy : Sized y) (a b : Int) : Ev (fun k => spec_SameFrames.f k x y a b) (sfR x y a b) := by
  unfold spec_SameFrames.f sfR
  refine Ev.bind (agAsked_ x y hx hy a b) (Ev.ite (fun h => ?_) (fun h => Ev.some (by rw [if_neg (show ¬ askF x y a b = true from h)])))
  have h2 := h
  simp only [Bool.and_eq_true] at h2
  exact Ev.bind (Same_ x y hx hy h2.1.1 h2.1.2 a b h2.2).1 (Ev.some (by rw [if_pos (show askF x y a b = true from h)]))
theorem sameN_comm (x y : List NI) : ∀ (d : Nat) (a : Int), sameN x y d a = sameN y x d a
  | 0, _ => rfl
  | d + 1, a => by
    have e1 : sameN x y (d + 1) a = (if (glossB x a).toList = (glossB y a).toList then 1 else 0) + sameN x y d (a + 1) := rfl
    have e2 : sameN y x (d + 1) a = (if (glossB y a).toList = (glossB x a).toList then 1 else 0) + sameN y x d (a + 1) := rfl
    rw [e1, e2, sameN_comm x y d]
    by_cases h : (glossB x a).toList = (glossB y a).toList
    · rw [if_pos h, if_pos h.symm]
    · rw [if_neg h, if_neg (fun e => h e.symm)]
theorem frames_s (x : List NI) (hx : Sized x) (b : Int) (hb : b ≤ 99999) : ∀ (d : Nat) (a : Int) (s : List ByteArray), a + d = b → 0 ≤ a → s.length + d ≤ 1000 → Ev (fun k => spec_FrameGlosses.l0 k x b s a) (s ++ gl x d a, true) := by
  intro d
  induction d with
  | zero =>
    intro a s hd ha hs
    exact Ev.step (fun _ => spec_FrameGlosses.l0.eq_2 ..) (Ev.neg (by omega) (Ev.some (by simp [gl])))
  | succ d ih =>
    intro a s hd ha hs
    have hw := wrap_step (x := a) (by omega) (by omega)
    have h2 := ih (a + 1) (s ++ [glossB x a]) (by omega) (by omega) (by simp; omega)
    rw [List.append_assoc, List.singleton_append] at h2
    refine Ev.step (fun _ => spec_FrameGlosses.l0.eq_2 ..) (Ev.pos (by omega) (Ev.bind (agGloss_ x hx a) (Ev.pos (by omega) ?_)))
    rw [hw]
    exact h2
theorem Frames_both (x : List NI) (hx : Sized x) (a b : Int) (h1 : tierB x = true) (h2 : windowB a b = true) : Ev (fun k => spec_FrameGlosses.f k x a b) (gl x (b - a).toNat a, true) ∧ Ev (fun k => impl_FrameGlosses.f k x a b) (gl x (b - a).toNat a, true) := by
  have hw := windowB_in h2
  have g1 := frames_s x hx b (by omega) (b - a).toNat a [] (by omega) (by omega) (by simp; omega)
  have g2 := frame_loop x h1 b (by omega) (b - a).toNat a [] (by omega) (by omega) (by simp; omega)
  rw [List.nil_append] at g1 g2
  unfold spec_FrameGlosses.f impl_FrameGlosses.f
  exact ⟨Ev.bind (Ev.eq (tiGood_ x hx) h1) (Ev.pos rfl (Ev.have ((agWindow_ a b).trans (congrArg some h2)) (Ev.step (fun _ => spec_FrameGlosses.j0.eq_2 ..) (Ev.neg (by decide) g1)))),
    Ev.bind (Ev.eq (IsTier_ x hx) h1) (Ev.pos rfl (Ev.have ((isWindow_ a b).trans (congrArg some h2)) (Ev.pos rfl (Ev.bind g2 (Ev.some rfl)))))⟩
theorem gl_at (x : List NI) : ∀ (d : Nat) (a : Int) (i : Nat), i < d → (gl x d a).getD i ByteArray.empty = glossB x (a + i)
  | 0, _, _, h => by omega
  | d + 1, a, 0, _ => by
    show glossB x a = glossB x (a + (0 : Nat))
    rw [show a + ((0 : Nat) : Int) = a by omega]
  | d + 1, a, i + 1, h => by
    show (gl x d (a + 1)).getD i ByteArray.empty = _
    rw [gl_at x d (a + 1) i (by omega), show a + 1 + (i : Int) = a + ((i + 1 : Nat) : Int) by omega]
theorem pSameSpans_ (l : List DI) (hl : l.length ≤ 140737488351232) : Ev (fun k => laws_pSameSpans.f k l l) true := by
  unfold laws_pSameSpans.f
  refine Ev.pos rfl ?_
  have h := loop_all0 (L := fun k i => laws_pSameSpans.l0 k l l (l.length : Int) i) l.length (fun _ => true) true (Ev.step (fun _ => laws_pSameSpans.l0.eq_2 ..) (Ev.neg (by omega) (Ev.some rfl)))
    (fun i hi _ r ih => by
      rw [← wrap_succ (by omega)] at ih
      exact Ev.step (fun _ => laws_pSameSpans.l0.eq_2 ..) (Ev.pos (by omega) (Ev.pos (by omega) (Ev.pos (by omega) (Ev.pos (by omega) (Ev.neg (by simp) ih))))))
    (fun _ _ h => by cases h)
  exact Ev.eq h (by simp)
theorem pSameTexts_ (l : List ByteArray) (hl : l.length ≤ 140737488351232) : Ev (fun k => laws_pSameTexts.f k l l) true := by
  unfold laws_pSameTexts.f
  refine Ev.pos rfl ?_
  have h := loop_all0 (L := fun k i => laws_pSameTexts.l0 k l l (l.length : Int) i) l.length (fun _ => true) true (Ev.step (fun _ => laws_pSameTexts.l0.eq_2 ..) (Ev.neg (by omega) (Ev.some rfl)))
    (fun i hi _ r ih => by
      rw [← wrap_succ (by omega)] at ih
      exact Ev.step (fun _ => laws_pSameTexts.l0.eq_2 ..) (Ev.pos (by omega) (Ev.pos (by omega) (Ev.pos (by omega) (Ev.pos (by omega) (Ev.pos rfl ih))))))
    (fun _ _ h => by cases h)
  exact Ev.eq h (by simp)
theorem tot_nonneg (l : List DI) (b : Int) (h : Fine l b) : ∀ i : Nat, 0 ≤ tot (l.drop i) := by
  have aux : ∀ (n i : Nat), l.length - i = n → 0 ≤ tot (l.drop i) := by
    intro n
    induction n with
    | zero =>
      intro i hi
      rw [List.drop_of_length_le (by omega)]
      exact Int.le_refl _
    | succ n ih =>
      intro i hi
      have hd : l.drop i = spAt l i :: l.drop (i + 1) := by
        rw [List.drop_eq_getElem_cons (show i < l.length by omega)]
        congr 1
        show _ = l.getD i z96
        rw [List.getD_eq_getElem?_getD, List.getElem?_eq_getElem (show i < l.length by omega)]
        rfl
      have h2 := ih (i + 1) (by omega)
      obtain ⟨-, h3, -, -⟩ := h i (by omega)
      rw [hd]
      show 0 ≤ ((spAt l i).f1 - (spAt l i).f0) + tot (l.drop (i + 1))
      omega
  exact fun i => aux _ i rfl
theorem frame_in {a b : Int} (h : windowB a b = true) {f : Int} (h0 : a ≤ f) (h1 : f < b) : MNote.frameB f = true := by
  have hw := windowB_in h
  unfold MNote.frameB
  simp
  omega
theorem FnAgreement : laws_FnAgreement.Pure := by
  intro c m hc hm
  obtain ⟨x, y, a, b, e1, lx, Sx, ly, Sy⟩ := DrawSameFrames_ c hc.1
  have zx := Sx.sized (by omega)
  have zy := Sy.sized (by omega)
  obtain ⟨u, f, e2, lu, Su⟩ := DrawGlossAt_ m hm.1
  have zu := Su.sized (by omega)
  have gs := MCGlossAt.GlossAt_s u zu f
  have gi := MCGlossAt.GlossAt_i u zu f
  obtain ⟨⟨sp, ok1⟩, hsl, d1, d2, d3, d4⟩ := MSpans.Disagreed_both x y zx zy a b
  obtain ⟨⟨bv, ok2⟩, b1, b2, b3⟩ := MAgrB.Agree_both x y zx zy a b
  obtain ⟨⟨c1, c2, c3, five⟩, f1, f2, f3⟩ := MConfG.Conf_both x y zx zy a b
  have sh := SameFrames_s x y zx zy a b
  have si := SameFrames_i x y zx zy a b
  -- the end: a gloss at a frame
  have tail : ∀ {r : Bool}, r = true → Ev (fun k => (spec_DrawGlossAt.f k m).bind fun bt162 => ((impl_GlossAt.f k bt162.1 bt162.2).bind fun bt166 => ((spec_GlossAt.f k bt162.1 bt162.2).bind fun bt168 => (if (bt166.2 == bt168.2) = true then (some (bt166.1.toList == bt168.1.toList)) else (some false))))) r := fun h => by
    subst h
    exact Ev.bind e2 (Ev.bind gi (Ev.bind gs (Ev.pos (by simp) (Ev.some (by simp)))))
  -- the glosses of all frames
  have F3 : ∀ (h1 : tierB x = true) (h2 : windowB a b = true), Ev (fun k => laws_FnAgreement.j2 k m x a b false) true := by
    intro h1 h2
    have hw := windowB_in h2
    obtain ⟨g1, g2⟩ := Frames_both x zx a b h1 h2
    have hl := gl_length x (b - a).toNat a
    refine Ev.step (fun _ => laws_FnAgreement.j2.eq_2 ..) (Ev.neg (by decide) (Ev.bind g2 (Ev.bind g1 (Ev.pos rfl (Ev.pos rfl (Ev.bind (pSameTexts_ _ (by rw [hl]; omega)) (Ev.pos rfl ?_)))))))
    have hb : (((gl x (b - a).toNat a).length : Int) != wrap64 (b - a)) = false := by
      rw [hl, wrap_in (by omega) (by omega)]
      simp
      omega
    show Ev (fun k => laws_FnAgreement.j3 k m x a (gl x (b - a).toNat a) (((gl x (b - a).toNat a).length : Int) != wrap64 (b - a))) true
    rw [hb]
    refine Ev.step (fun _ => laws_FnAgreement.j3.eq_2 ..) (Ev.neg (by decide) ?_)
    have loop : ∀ (n i : Nat), i + n = (b - a).toNat → Ev (fun k => laws_FnAgreement.l1 k m x a (gl x (b - a).toNat a) ((gl x (b - a).toNat a).length : Int) (i : Int)) true := by
      intro n
      induction n with
      | zero =>
        intro i hi
        exact Ev.step (fun _ => laws_FnAgreement.l1.eq_2 ..) (Ev.neg (by omega) (tail rfl))
      | succ n ih =>
        intro i hi
        have hg : rdOf ByteArray.empty (gl x (b - a).toNat a) (i : Int) = glossB x (a + i) := gl_at x (b - a).toNat a i (by omega)
        have hf := frame_in h2 (f := a + i) (by omega) (by omega)
        have hG : MCGlossAt.glossAtR x (a + i) = (glossB x (a + i), true) := by
          unfold MCGlossAt.glossAtR
          rw [if_pos ⟨h1, hf⟩]
        have gi2 := MCGlossAt.GlossAt_i x zx (a + i)
        rw [hG] at gi2
        have hw2 : wrap64 (a + (i : Int)) = a + i := wrap_in (by omega) (by omega)
        have hn := ih (i + 1) (by omega)
        rw [← wrap_succ (by omega)] at hn
        refine Ev.step (fun _ => laws_FnAgreement.l1.eq_2 ..) (Ev.pos (by omega) (Ev.pos (by omega) (Ev.pos (by omega) ?_)))
        rw [hw2]
        exact Ev.bind gi2 (Ev.pos rfl (Ev.pos (by rw [hg]) hn))
    exact loop (b - a).toNat 0 (by omega)
  -- the spans
  have F2 : ∀ (h : askF x y a b = true), Ev (fun k => laws_FnAgreement.l0 k m x y a b (sameN x y (b - a).toNat a) sp bv five c1 c2 c3 (sameN x y (b - a).toNat a) sp (sp.length : Int) 0) true := by
    intro h
    have h2 := h
    unfold askF at h2
    simp only [Bool.and_eq_true] at h2
    obtain ⟨⟨tx, ty⟩, tw⟩ := h2
    have hw := windowB_in tw
    obtain ⟨hF, hT⟩ := d4 h
    replace hF : Fine sp b := hF
    replace hT : tot sp + sameN x y (b - a).toNat a = ((b - a).toNat : Int) := hT
    have hsl2 : sp.length ≤ 200 := hsl
    have hS := sameN_bounds x y (b - a).toNat a
    rw [if_pos (show (tierB x && tierB y && windowB a b) = true from h)] at b3
    obtain ⟨b4, b5, b6, b7⟩ := b3
    have yx := SameFrames_i y x zy zx a b
    have xx := MAgrB.Agree_both x x zx zx a b
    obtain ⟨⟨v, ok3⟩, -, x2, x3⟩ := xx
    rw [if_pos (show (tierB x && tierB x && windowB a b) = true by rw [tx, tw]; rfl)] at x3
    obtain ⟨x4, -, -, x7⟩ := x3
    have hv : v = 100 := x7 (MAgrB.same_all x x _ a (fun _ _ _ => rfl))
    have hok : ok3 = true := x4
    subst hv
    subst hok
    have hyx : sfR y x a b = (sameN x y (b - a).toNat a, true) := by
      unfold sfR askF
      rw [if_pos (by rw [tx, ty, tw]; rfl), sameN_comm y x]
    rw [hyx] at yx
    generalize hSS : sameN x y (b - a).toNat a = S at *
    have last : ∀ z : Int, z = wrap64 (b - a) → Ev (fun k => (impl_SameFrames.f k y x a b).bind fun bt138 => ((impl_AgreementBeyond.f k x x a b).bind fun bt140 => (if z = (wrap64 (b - a)) then (if bt138.2 = true then (if bt138.1 = S then (if bt140.2 = true then (if bt140.1 = 100 then (if bv > 100 then (laws_FnAgreement.j2 k m x a b true) else (if bv = 100 then (if S = (wrap64 (b - a)) then (if five = true then (if c3 < 1 then (laws_FnAgreement.j2 k m x a b true) else (laws_FnAgreement.j2 k m x a b (c1.toList == c2.toList))) else (laws_FnAgreement.j2 k m x a b false)) else (laws_FnAgreement.j2 k m x a b true)) else (if five = true then (if c3 < 1 then (laws_FnAgreement.j2 k m x a b true) else (laws_FnAgreement.j2 k m x a b (c1.toList == c2.toList))) else (laws_FnAgreement.j2 k m x a b false)))) else (laws_FnAgreement.j2 k m x a b true)) else (laws_FnAgreement.j2 k m x a b true)) else (laws_FnAgreement.j2 k m x a b true)) else (laws_FnAgreement.j2 k m x a b true)) else (laws_FnAgreement.j2 k m x a b true)))) true := by
      intro z hz
      have hlast : Ev (fun k => if five = true then (if c3 < 1 then (laws_FnAgreement.j2 k m x a b true) else (laws_FnAgreement.j2 k m x a b (c1.toList == c2.toList))) else (laws_FnAgreement.j2 k m x a b false)) true := by
        refine Ev.ite (fun h5 => ?_) (fun _ => F3 tx tw)
        obtain ⟨-, f4, f5⟩ := f3 h5
        have hne : (c1.toList == c2.toList) = false := by simpa using f5
        rw [hne]
        exact Ev.neg (Int.not_lt.2 f4) (F3 tx tw)
      refine Ev.bind yx (Ev.bind x2 (Ev.pos hz (Ev.pos rfl (Ev.pos rfl (Ev.pos rfl (Ev.pos rfl (Ev.neg (Int.not_lt.2 b5) (Ev.ite (fun h6 => ?_) (fun _ => hlast)))))))))
      have h7 := b6 h6
      exact Ev.pos (by rw [wrap_in (by omega) (by omega)]; omega) hlast
    have loop : ∀ (n i : Nat) (z : Int), i + n = sp.length → z + tot (sp.drop i) = (b - a) → 0 ≤ z → Ev (fun k => laws_FnAgreement.l0 k m x y a b S sp bv five c1 c2 c3 z sp (sp.length : Int) (i : Int)) true := by
      intro n
      induction n with
      | zero =>
        intro i z hi hz h0
        rw [List.drop_of_length_le (by omega)] at hz
        have hz2 : z + 0 = b - a := hz
        exact Ev.step (fun _ => laws_FnAgreement.l0.eq_2 ..) (Ev.neg (by omega) (last z (by rw [wrap_in (by omega) (by omega)]; omega)))
      | succ n ih =>
        intro i z hi hz h0
        obtain ⟨q1, q2, q3, q4⟩ := hF i (by omega)
        have hd : sp.drop i = spAt sp i :: sp.drop (i + 1) := by
          rw [List.drop_eq_getElem_cons (show i < sp.length by omega)]
          congr 1
          show _ = sp.getD i z96
          rw [List.getD_eq_getElem?_getD, List.getElem?_eq_getElem (show i < sp.length by omega)]
          rfl
        rw [hd] at hz
        have hz2 : z + (((spAt sp i).f1 - (spAt sp i).f0) + tot (sp.drop (i + 1))) = b - a := hz
        have hn := ih (i + 1) (z + ((spAt sp i).f1 - (spAt sp i).f0)) (by omega) (by omega) (by omega)
        have htn : 0 ≤ tot (sp.drop (i + 1)) := tot_nonneg sp b hF (i + 1)
        have hw1 : wrap64 (z + wrap64 ((rd_T96 sp (i : Int)).f1 - (rd_T96 sp (i : Int)).f0)) = z + ((spAt sp i).f1 - (spAt sp i).f0) := by
          show wrap64 (z + wrap64 ((spAt sp i).f1 - (spAt sp i).f0)) = _
          rw [wrap_in (n := (spAt sp i).f1 - (spAt sp i).f0) (by omega) (by omega), wrap_in (by omega) (by omega)]
        rw [← wrap_succ (by omega), ← hw1] at hn
        refine Ev.step (fun _ => laws_FnAgreement.l0.eq_2 ..) (Ev.pos (by omega) (Ev.pos (by omega) (Ev.pos (by omega) (Ev.ite (fun hp => ?_) (fun _ => hn)))))
        have hp1 : wrap64 ((i : Int) - 1) = ((i - 1 : Nat) : Int) := by rw [wrap_in (by omega) (by omega)]; omega
        rw [hp1]
        refine Ev.pos (by omega) (Ev.pos (by omega) (Ev.neg ?_ hn))
        have h8 := q4 (by omega)
        exact Int.not_le.2 h8
    exact loop sp.length 0 S (by omega) (by rw [List.drop_zero]; omega) hS.1
  have F1 : Ev (fun k => laws_FnAgreement.j0 k m x y a b (sfR x y a b).2 (sfR x y a b).1 sp bv five c1 c2 c3 false) true := by
    refine Ev.step (fun _ => laws_FnAgreement.j0.eq_2 ..) (Ev.neg (by decide) (Ev.ite (fun h => ?_) (fun _ => tail rfl)))
    have hask : askF x y a b = true := by
      unfold sfR at h
      split at h
      · assumption
      · exact absurd h (by decide)
    have e : (sfR x y a b).1 = sameN x y (b - a).toNat a := by unfold sfR; rw [if_pos hask]
    rw [e]
    exact F2 hask
  -- the beginning
  have ho1 : ok1 = askF x y a b := d3
  have ho2 : ok2 = askF x y a b := by
    cases hk : askF x y a b with
    | true => rw [if_pos (show (tierB x && tierB y && windowB a b) = true from hk)] at b3; exact b3.1
    | false => rw [if_neg (show ¬ (tierB x && tierB y && windowB a b) = true from fun h => by rw [show (tierB x && tierB y && windowB a b) = false from hk] at h; cases h)] at b3; exact congrArg Prod.snd b3
  have hs2 : (sfR x y a b).2 = askF x y a b := by
    unfold sfR
    cases askF x y a b <;> rfl
  have F0 : Ev (fun k => laws_FnAgreement.j0 k m x y a b (sfR x y a b).2 (sfR x y a b).1 sp bv five c1 c2 c3 (!(sfR x y a b).2)) true ∨ five = false := by
    cases h5 : five with
    | false => exact .inr rfl
    | true =>
      have hask : askF x y a b = true := (f3 h5).1
      rw [h5] at F1
      rw [hs2, hask]
      rw [hs2, hask] at F1
      exact .inl F1
  unfold laws_FnAgreement.f laws_big.f
  refine Ev.rounds ?_
  by_cases hb : (c.length : Int) > 1048576
  · exact Ev.have (by rw [if_pos hb]) (Ev.pos rfl (Ev.some rfl))
  refine Ev.have (by rw [if_neg hb]) (Ev.ite (fun _ => Ev.some rfl) (fun _ => ?_))
  refine Ev.bind e1 (Ev.bind si (Ev.bind sh (Ev.bind d2 (Ev.bind d1 (Ev.bind b2 (Ev.bind b1 (Ev.bind f2 (Ev.bind f1 ?_))))))))
  refine Ev.neg (by simp) (Ev.pos rfl (Ev.neg (by simp) (Ev.bind (pSameSpans_ sp (by have : sp.length ≤ 200 := hsl; omega)) (Ev.pos rfl (Ev.neg (by simp) (Ev.pos rfl (Ev.neg (by simp) (Ev.pos rfl (Ev.pos rfl (Ev.pos rfl (Ev.neg ?_ (Ev.neg ?_ (Ev.ite (fun h => ?_) (fun _ => F1))))))))))))))
  · show ¬ (ok1 != (sfR x y a b).2) = true
    rw [ho1, hs2]
    simp
  · show ¬ (ok2 != (sfR x y a b).2) = true
    rw [ho2, hs2]
    simp
  · rcases F0 with F0 | F0
    · exact F0
    · subst F0
      exact absurd (show false = true from h) (by decide)
end Go.Proofs.Ytgapcmmhbegdeaa.Pure
