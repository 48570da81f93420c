/- FnAnnotators answers true for all bytes. No condition beyond what every row's reading gives. -/
import Derived.Test.YtgapcmmhbegdeaaG0
import Derived.Test.YtgapcmmhbegdeaaG15
import Derived.Test.YtgapcmmhbegdeaaG16
import Derived.Test.YtgapcmmhbegdeaaG18
import Derived.Test.YtgapcmmhbegdeaaG20
import Derived.Test.YtgapcmmhbegdeaaG22
import Derived.Test.YtgapcmmhbegdeaaG23
import Derived.Test.YtgapcmmhbegdeaaG24
import Derived.Test.YtgapcmmhbegdeaaMAll
namespace Go.Proofs.Ytgapcmmhbegdeaa.Pure
open Go.RowKit Go.Proofs.Ytgapcmmhbegdeaa.G Go.Proofs.YtgapcmmhbegdeaaW.PrintWords Go.Proofs.YtgapcmmhbegdeaaW.PrintLast Go.Proofs.Ytgapcmmhbegdeaa.MPure Go.Proofs.Ytgapcmmhbegdeaa.MWord Go.Proofs.Ytgapcmmhbegdeaa.MNote Go.Proofs.Ytgapcmmhbegdeaa.MDraw Go.Proofs.Ytgapcmmhbegdeaa.MDrawT Go.Proofs.Ytgapcmmhbegdeaa.MDrawW Go.Proofs.Ytgapcmmhbegdeaa.MQLists Go.Proofs.Ytgapcmmhbegdeaa.MPairs Go.Proofs.Ytgapcmmhbegdeaa.MWin Go.Proofs.Ytgapcmmhbegdeaa.MSame Go.Proofs.Ytgapcmmhbegdeaa.MNoteSS Go.Proofs.Ytgapcmmhbegdeaa.MGloss
open Go.Proofs.Ytgapcmmhbegdeaa.MMatch (askB)
open Go.Proofs.Ytgapcmmhbegdeaa.MMajor (Major_both majB glS Glo cnt_cons)
open Go.Proofs.Ytgapcmmhbegdeaa.MBest (rowSum bestOf bestR Best_s Best_i)

/-! ### the draws -/
theorem DrawMatchedNotes_ (s : List Int) (hs : Bytes s) : ∃ x y f, Ev (fun k => yAq.f k s) (x, y, f) ∧ x.length ≤ 60 ∧ Short x ∧ y.length ≤ 60 ∧ Short y := by
  obtain ⟨x, y, a1, d1, e1, hx, hSx, hy, hSy, p1, q1⟩ := twoTiers_ s hs 0 0 (by omega) (by omega)
  obtain ⟨v2, a2, d2, e2, -, p2, q2⟩ := among_ s hs a1 d1 [3, (-1), 101] (by simp) (by omega) (by omega)
  obtain ⟨v3, a3, d3, e3, -, p3, q3⟩ := among_ s hs a2 d2 [0, 1, 2, 5, 100, v2] (by simp) (by omega) (by omega)
  exact ⟨x, y, v3, Ev.bind e1 (Ev.have e2 (Ev.have e3 (Ev.some rfl))), hx, hSx, hy, hSy⟩
def ShortSS (T : List (List NI)) : Prop := ∀ q, q ∈ T → q.length ≤ 60 ∧ Short q
theorem major_loop (s : List Int) (hs : Bytes s) : ∀ (n : Nat) (T : List (List NI)) (m : Int) (x y : List NI) (a d : Int), T.length + n = m.toNat → m ≤ 6 → ShortSS T → x.length ≤ 60 → Short x → y.length ≤ 60 → Short y → 0 ≤ a → a + 3000 * n ≤ 100000 → ∃ R f t, Ev (fun k => yAE.l0 k T m x y s a d) (R, f, t) ∧ R.length ≤ 6 ∧ ShortSS R := by
  intro n
  induction n with
  | zero =>
    intro T m x y a d hT hm hS hx hSx hy hSy h0 h1
    obtain ⟨f, t, a', d', e, -, -⟩ := window_ s hs a d h0 (by omega)
    exact ⟨T, f, t, Ev.step (fun _ => yAE.l0.eq_2 ..) (Ev.neg (by omega) (Ev.have e (Ev.some rfl))), by omega, hS⟩
  | succ n ih =>
    intro T m x y a d hT hm hS hx hSx hy hSy h0 h1
    obtain ⟨b, a1, d1, e1, p1, q1⟩ := one_ s hs a d 3 h0 (by omega)
    have hS2 : ShortSS (T ++ [[] ++ x]) := fun q hq => by
      rcases List.mem_append.1 hq with hq | hq
      · exact hS q hq
      · rw [List.mem_singleton.1 hq]; exact ⟨hx, hSx⟩
    have hl2 : (T ++ [[] ++ x]).length + n = m.toNat := by rw [List.length_append]; show T.length + 1 + n = _; omega
    have lead : ∀ {r}, Ev (fun k => if b = true then ((yAF.f k s a1 d1).bind fun bt141 => (yAE.l0 k (T ++ [[] ++ x]) m y bt141.1 s bt141.2.1 bt141.2.2)) else (yAE.l0 k (T ++ [[] ++ x]) m y y s a1 d1)) r → Ev (fun k => yAE.l0 k T m x y s a d) r := fun h => Ev.step (fun _ => yAE.l0.eq_2 ..) (Ev.pos (by omega) (Ev.have rfl (Ev.pos (by show ([] : List NI).length + x.length < _; simp; omega) (Ev.pos (by omega) (Ev.have rfl (Ev.have e1 h))))))
    cases b with
    | true =>
      obtain ⟨z, a2, d2, e2, hz, hSz, p2, q2⟩ := tier_ s hs a1 d1 (by omega) (by omega)
      obtain ⟨R, f, t, er, hr, hSr⟩ := ih (T ++ [[] ++ x]) m y z a2 d2 hl2 hm hS2 hy hSy hz hSz (by omega) (by omega)
      exact ⟨R, f, t, lead (Ev.pos rfl (Ev.bind e2 er)), hr, hSr⟩
    | false =>
      obtain ⟨R, f, t, er, hr, hSr⟩ := ih (T ++ [[] ++ x]) m y y a1 d1 hl2 hm hS2 hy hSy hy hSy (by omega) (by omega)
      exact ⟨R, f, t, lead (Ev.neg (by decide) er), hr, hSr⟩
theorem DrawMajorityTier_ (s : List Int) (hs : Bytes s) : ∃ T f t, Ev (fun k => yAE.f k s) (T, f, t) ∧ T.length ≤ 6 ∧ ShortSS T := by
  obtain ⟨v1, a1, d1, e1, m1, p1, q1⟩ := among_ s hs 0 0 [1, 2, 3, 3, 5] (by simp) (by omega) (by omega)
  obtain ⟨b, a2, d2, e2, p2, q2⟩ := one_ s hs a1 d1 12 (by omega) (by omega)
  have go : ∀ (m a4 d4 : Int), 0 ≤ m → m ≤ 6 → 0 ≤ a4 → a4 ≤ 20 → ∃ R f t, Ev (fun k => yAE.j0 k [] m s a4 d4) (R, f, t) ∧ R.length ≤ 6 ∧ ShortSS R := by
    intro m a4 d4 h0 h1 h2 h3
    obtain ⟨x, y, a5, d5, e5, hx, hSx, hy, hSy, p5, q5⟩ := twoTiers_ s hs a4 d4 h2 (by omega)
    obtain ⟨R, f, t, er, hr, hSr⟩ := major_loop s hs m.toNat [] m x y a5 d5 (by simp) h1 (fun q hq => nomatch hq) hx hSx hy hSy (by omega) (by omega)
    exact ⟨R, f, t, Ev.step (fun _ => yAE.j0.eq_2 ..) (Ev.bind e5 er), hr, hSr⟩
  unfold yAE.f
  have hv1 : 0 ≤ v1 ∧ v1 ≤ 6 := by
    simp only [List.mem_cons, List.not_mem_nil, or_false] at m1
    omega
  cases b with
  | true =>
    obtain ⟨v3, a3, d3, e3, m3, p3, q3⟩ := among_ s hs a2 d2 [0, 6] (by simp) (by omega) (by omega)
    have hv3 : 0 ≤ v3 ∧ v3 ≤ 6 := by
      simp only [List.mem_cons, List.not_mem_nil, or_false] at m3
      omega
    obtain ⟨R, f, t, er, hr, hSr⟩ := go v3 a3 d3 hv3.1 hv3.2 (by omega) (by omega)
    exact ⟨R, f, t, Ev.have e1 (Ev.have e2 (Ev.pos rfl (Ev.have e3 er))), hr, hSr⟩
  | false =>
    obtain ⟨R, f, t, er, hr, hSr⟩ := go v1 a2 d2 hv1.1 hv1.2 (by omega) (by omega)
    exact ⟨R, f, t, Ev.have e1 (Ev.have e2 (Ev.neg (show ¬ false = true by decide) er)), hr, hSr⟩

/-! ### comparisons -/
theorem pSameNotes_ (l : List NI) (hl : l.length ≤ 140737488351232) : Ev (fun k => yAW.f k l l) true := by
  unfold yAW.f
  refine Ev.pos rfl ?_
  have h := loop_all0 (L := fun k i => yAW.l0 k l l (l.length : Int) i) l.length (fun _ => true) true (Ev.step (fun _ => yAW.l0.eq_2 ..) (Ev.neg (by omega) (Ev.some rfl)))
    (fun i hi _ r ih => by
      rw [← wrap_succ (by omega)] at ih
      exact Ev.step (fun _ => yAW.l0.eq_2 ..) (Ev.pos (by omega) (Ev.pos (by omega) (Ev.pos (by omega) (Ev.pos (by omega) (Ev.neg (by simp) ih))))))
    (fun _ _ h => by cases h)
  exact Ev.eq h (by simp)
theorem pAbs_ (a b s : Int) (h : mx (wrap64 (a - b)) (wrap64 (b - a)) ≤ s) : ∃ v, yAz.f (wrap64 (a - b)) = some v ∧ ¬ v > s := by
  unfold yAz.f
  have h2 : wrap64 (a - b) ≤ s ∧ wrap64 (b - a) ≤ s := by
    revert h
    unfold mx
    split <;> intro h <;> constructor <;> omega
  split
  · refine ⟨_, rfl, ?_⟩
    have e : wrap64 (-(wrap64 (a - b))) = wrap64 (b - a) := by unfold wrap64; omega
    rw [e]
    omega
  · exact ⟨_, rfl, by omega⟩
/-! ### frames -/
def sfR (x y : List NI) (a b : Int) : Int × Bool := if (tierB x && tierB y && windowB a b) = true then (sameN x y (b - a).toNat a, true) else (0, false)
theorem SameFrames_i (x y : List NI) (hx : Sized x) (hy : Sized y) (a b : Int) : Ev (fun k => yAu.f k x y a b) (sfR x y a b) := by
  unfold yAu.f sfR
  refine Ev.bind (IsTier_ x hx) (Ev.ite (fun h1 => ?_) (fun h1 => Ev.some (by rw [if_neg (by simp [h1])])))
  refine Ev.bind (IsTier_ y hy) (Ev.ite (fun h2 => ?_) (fun h2 => Ev.some (by rw [if_neg (by simp [h2])])))
  refine Ev.have (isWindow_ a b) (Ev.ite (fun h3 => ?_) (fun h3 => Ev.some (by rw [if_neg (by simp [h3])])))
  exact Ev.bind (Same_ x y hx hy h1 h2 a b h3).2 (Ev.some (by rw [if_pos (by simp [h1, h2, h3])]))
theorem same_all (x y : List NI) : ∀ (d : Nat) (a : Int), (∀ f, a ≤ f → f < a + d → glossB x f = glossB y f) → sameN x y d a = (d : Int)
  | 0, _, _ => rfl
  | d + 1, a, h => by
    have e : sameN x y (d + 1) a = (if (glossB x a).toList = (glossB y a).toList then 1 else 0) + sameN x y d (a + 1) := rfl
    rw [e, if_pos (by rw [h a (Int.le_refl _) (by omega)]), same_all x y d (a + 1) (fun f h0 h1 => h f (by omega) (by omega))]
    omega
/-- The majority of one tier. -/
theorem maj_one (x : List NI) (f : Int) : majB (glS [x] f) = glossB x f := by
  refine MMajor.maj_is (List.mem_singleton.2 rfl) ?_
  show 2 * MMap.cnt [glossB x f] (glossB x f) > 1
  rw [cnt_cons, if_pos rfl]
  have := MMajor.cnt_nonneg [] (glossB x f)
  omega

/-! ### the best annotator -/
def rs (T : List (List NI)) (d : Nat) (a : Int) (i : Nat) : Int := rowSum (T.getD i []) (i : Int) d a T 0
theorem best_spec (T : List (List NI)) (d : Nat) (a : Int) : ∀ (n i : Nat) (b m : Int), i + n = T.length →
    m ≤ (bestOf T d a (T.drop i) (i : Int) b m).2 ∧ (∀ j, i ≤ j → j < T.length → rs T d a j ≤ (bestOf T d a (T.drop i) (i : Int) b m).2) ∧
    (((bestOf T d a (T.drop i) (i : Int) b m).1 = b ∧ (bestOf T d a (T.drop i) (i : Int) b m).2 = m) ∨ ∃ j : Nat, i ≤ j ∧ j < T.length ∧ (bestOf T d a (T.drop i) (i : Int) b m).1 = (j : Int) ∧ (bestOf T d a (T.drop i) (i : Int) b m).2 = rs T d a j ∧ m < rs T d a j ∧ ∀ k, i ≤ k → k < j → rs T d a k < rs T d a j) := by
  intro n
  induction n with
  | zero =>
    intro i b m hi
    rw [List.drop_eq_nil_of_le (by omega)]
    exact ⟨Int.le_refl _, fun j h1 h2 => by omega, Or.inl ⟨rfl, rfl⟩⟩
  | succ n ih =>
    intro i b m hi
    rw [drop_get T i (by omega)]
    have hc : ((i : Int) + 1) = ((i + 1 : Nat) : Int) := rfl
    by_cases h : rs T d a i > m
    · have e : bestOf T d a (T.getD i [] :: T.drop (i + 1)) i b m = bestOf T d a (T.drop (i + 1)) ((i + 1 : Nat) : Int) i (rs T d a i) := if_pos h
      rw [e]
      obtain ⟨g1, g2, g3⟩ := ih (i + 1) i (rs T d a i) (by omega)
      refine ⟨by omega, fun j h1 h2 => ?_, Or.inr ?_⟩
      · by_cases ej : j = i
        · subst ej; exact g1
        · exact g2 j (by omega) h2
      · rcases g3 with ⟨k1, k2⟩ | ⟨j, k1, k2, k3, k4, k5, k6⟩
        · exact ⟨i, Nat.le_refl _, by omega, k1, k2, h, fun k h1 h2 => by omega⟩
        · refine ⟨j, by omega, k2, k3, k4, by omega, fun k h1 h2 => ?_⟩
          by_cases ek : k = i
          · subst ek; exact k5
          · exact k6 k (by omega) h2
    · have e : bestOf T d a (T.getD i [] :: T.drop (i + 1)) i b m = bestOf T d a (T.drop (i + 1)) ((i + 1 : Nat) : Int) b m := if_neg h
      rw [e]
      obtain ⟨g1, g2, g3⟩ := ih (i + 1) b m (by omega)
      refine ⟨g1, fun j h1 h2 => ?_, ?_⟩
      · by_cases ej : j = i
        · subst ej; omega
        · exact g2 j (by omega) h2
      · rcases g3 with k | ⟨j, k1, k2, k3, k4, k5, k6⟩
        · exact Or.inl k
        · refine Or.inr ⟨j, by omega, k2, k3, k4, k5, fun k h1 h2 => ?_⟩
          by_cases ek : k = i
          · subst ek; omega
          · exact k6 k (by omega) h2
theorem row_nonneg (x : List NI) (i : Int) (d : Nat) (a : Int) : ∀ (l : List (List NI)) (j : Int), 0 ≤ rowSum x i d a l j ∧ rowSum x i d a l j ≤ (l.length : Int) * d
  | [], _ => by simp [rowSum]
  | y :: l, j => by
    have h := row_nonneg x i d a l (j + 1)
    have hb := sameN_bounds x y d a
    have e : rowSum x i d a (y :: l) j = (if j = i then 0 else sameN x y d a) + rowSum x i d a l (j + 1) := rfl
    rw [e, List.length_cons]
    have e2 : (((l.length + 1 : Nat) : Int)) * d = (l.length : Int) * d + d := by
      rw [Int.natCast_add, Int.add_mul, Int.natCast_one, Int.one_mul]
    rw [e2]
    split <;> omega
theorem FnAnnotators : laws_FnAnnotators.Pure := by
  intro c m hc hm
  obtain ⟨x, y, sh, e1, lx, Sx, ly, Sy⟩ := DrawMatchedNotes_ c hc.1
  obtain ⟨T, f, t, e2, lT, ST⟩ := DrawMajorityTier_ m hm.1
  have zx := Sx.sized (by omega)
  have zy := Sy.sized (by omega)
  have zT : SizedSS T := ⟨by omega, fun q hq => (ST q hq).2.sized (by have := (ST q hq).1; omega)⟩
  -- the tiers
  obtain ⟨⟨mt, mq⟩, hr, M1, M2, M3, M4⟩ := Major_both T zT f t
  replace hr : mt.length ≤ 200 := hr
  have B1 := Best_s T zT f t
  have B2 := Best_i T zT f t
  have L : tiersB T = true → windowB f t = true → ∀ d i : Nat, i + d = T.length → Ev (fun k => laws_FnAnnotators.l1 k T f t (bestR T f t).1 (bestR T f t).2.1 T (T.length : Int) (i : Int)) true := by
    intro hT hW
    obtain ⟨t1, t2, t3⟩ := tiersB_in hT
    have hw := windowB_in hW
    have eR : bestR T f t = ((bestOf T (t - f).toNat f T 0 0 (-1)).1, (bestOf T (t - f).toNat f T 0 0 (-1)).2, true) := by unfold bestR; rw [if_pos (by rw [hT, hW]; rfl)]
    have hsp := best_spec T (t - f).toNat f T.length 0 0 (-1) (by omega)
    rw [List.drop_zero] at hsp
    have hb1 : (bestR T f t).1 = (bestOf T (t - f).toNat f T ((0 : Nat) : Int) 0 (-1)).1 := by rw [eR]; rfl
    have hb2 : (bestR T f t).2.1 = (bestOf T (t - f).toNat f T ((0 : Nat) : Int) 0 (-1)).2 := by rw [eR]; rfl
    rw [← hb1, ← hb2] at hsp
    obtain ⟨g1, g2, g3⟩ := hsp
    have hrs : ∀ i, 0 ≤ rs T (t - f).toNat f i := fun i => (row_nonneg _ _ _ _ T 0).1
    have g4 : ∃ j : Nat, j < T.length ∧ (bestR T f t).1 = (j : Int) ∧ (bestR T f t).2.1 = rs T (t - f).toNat f j ∧ ∀ k, k < j → rs T (t - f).toNat f k < rs T (t - f).toNat f j := by
      rcases g3 with ⟨k1, k2⟩ | ⟨j, k1, k2, k3, k4, k5, k6⟩
      · have := g2 0 (by omega) (by omega)
        have := hrs 0
        omega
      · exact ⟨j, k2, k3, k4, fun k h => k6 k (by omega) h⟩
    obtain ⟨B, k1, k2, k3, k4⟩ := g4
    rw [k2, k3]
    rw [k3] at g2
    intro d
    induction d with
    | zero =>
      intro i hi
      exact Ev.step (fun _ => laws_FnAnnotators.l1.eq_2 ..) (Ev.neg (by omega) (Ev.some rfl))
    | succ d ih =>
      intro i hi
      have hx := get_mem T i (by omega)
      have hn := ih (i + 1) (by omega)
      rw [← wrap_succ (by omega)] at hn
      have L2 : ∀ (n j : Nat) (own : Int), j + n = T.length → 0 ≤ own → own + 200 * n ≤ 100000 → own + rowSum (T.getD i []) (i : Int) (t - f).toNat f (T.drop j) (j : Int) = rs T (t - f).toNat f i → Ev (fun k => laws_FnAnnotators.l2 k T f t (B : Int) (rs T (t - f).toNat f B) (i : Int) (T.getD i []) own T (T.length : Int) (i : Int) T (T.length : Int) (j : Int)) true := by
        intro n
        induction n with
        | zero =>
          intro j own hj h0 h1 ho
          rw [List.drop_eq_nil_of_le (by omega)] at ho
          have ho2 : own = rs T (t - f).toNat f i := by rw [← ho]; show own = own + 0; omega
          have hle := g2 i (by omega) (by omega)
          refine Ev.step (fun _ => laws_FnAnnotators.l2.eq_2 ..) (Ev.neg (by omega) (Ev.neg (by omega) (Ev.ite (fun e => ?_) (fun e => Ev.ite (fun e3 => Ev.neg ?_ hn) (fun _ => hn)))))
          · obtain rfl : i = B := by omega
            exact Ev.pos ho2 (Ev.neg (by omega) hn)
          · have := k4 i (by omega)
            omega
        | succ n ihn =>
          intro j own hj h0 h1 ho
          have hmj := get_mem T j (by omega)
          rw [drop_get T j (by omega)] at ho
          have er : rowSum (T.getD i []) (i : Int) (t - f).toNat f (T.getD j [] :: T.drop (j + 1)) (j : Int) = (if (j : Int) = (i : Int) then 0 else sameN (T.getD i []) (T.getD j []) (t - f).toNat f) + rowSum (T.getD i []) (i : Int) (t - f).toNat f (T.drop (j + 1)) ((j : Int) + 1) := rfl
          rw [er] at ho
          have hb := sameN_bounds (T.getD i []) (T.getD j []) (t - f).toNat f
          by_cases he : (j : Int) = (i : Int)
          · rw [if_pos he, Int.zero_add] at ho
            have h2 := ihn (j + 1) own (by omega) h0 (by omega) ho
            rw [← wrap_succ (by omega)] at h2
            exact Ev.step (fun _ => laws_FnAnnotators.l2.eq_2 ..) (Ev.pos (by omega) (Ev.pos (by omega) (Ev.pos (by omega) (Ev.pos he h2))))
          · rw [if_neg he, ← Int.add_assoc] at ho
            have h2 := ihn (j + 1) (own + sameN (T.getD i []) (T.getD j []) (t - f).toNat f) (by omega) (by omega) (by omega) ho
            rw [← wrap_succ (by omega)] at h2
            have hs := SameFrames_i (T.getD i []) (T.getD j []) (zT.2 _ hx) (zT.2 _ hmj) f t
            have es : sfR (T.getD i []) (T.getD j []) f t = (sameN (T.getD i []) (T.getD j []) (t - f).toNat f, true) := by unfold sfR; rw [if_pos (by rw [t3 _ hx, t3 _ hmj, hW]; rfl)]
            rw [es] at hs
            refine Ev.step (fun _ => laws_FnAnnotators.l2.eq_2 ..) (Ev.pos (by omega) (Ev.pos (by omega) (Ev.pos (by omega) (Ev.neg he (Ev.bind hs (Ev.pos rfl ?_))))))
            rw [wrap_in (show -9223372036854775808 ≤ own + sameN (T.getD i []) (T.getD j []) (t - f).toNat f by omega) (by omega)]
            exact h2
      refine Ev.step (fun _ => laws_FnAnnotators.l1.eq_2 ..) (Ev.pos (by omega) (Ev.pos (by omega) (Ev.pos (by omega) ?_)))
      refine L2 T.length 0 0 (by omega) (Int.le_refl _) (by omega) ?_
      rw [List.drop_zero, Int.zero_add]
      rfl
  have F6 : Ev (fun k => laws_FnAnnotators.j6 k T f t (bestR T f t).2.2 (bestR T f t).1 (bestR T f t).2.1) true := by
    refine Ev.step (fun _ => laws_FnAnnotators.j6.eq_2 ..) (Ev.ite (fun h => ?_) (fun _ => Ev.some rfl))
    unfold bestR at h
    split at h
    rotate_left
    · exact absurd h (by decide)
    rename_i hok
    rw [Bool.and_eq_true] at hok
    exact L hok.1 hok.2 T.length 0 (by omega)
  have F4 : Ev (fun k => laws_FnAnnotators.j4 k T f t mt mq (bestR T f t).2.2 (bestR T f t).1 (bestR T f t).2.1 false) true := by
    refine Ev.step (fun _ => laws_FnAnnotators.j4.eq_2 ..) (Ev.neg (by decide) (Ev.ite (fun h => ?_) (fun _ => ?_)))
    · obtain ⟨⟨h1, h2⟩, h3, h4⟩ := M3 h
      refine Ev.step (fun _ => laws_FnAnnotators.j5.eq_2 ..) (Ev.ite (fun hl => ?_) (fun _ => F6))
      have hl1 : (T.length : Int) = 1 := by simpa using hl
      obtain ⟨x0, rfl⟩ : ∃ x0, T = [x0] := by
        cases T with
        | nil => simp at hl1
        | cons a l => cases l with
          | nil => exact ⟨a, rfl⟩
          | cons b l => rw [List.length_cons, List.length_cons] at hl1; omega
      have hw := windowB_in h4
      have hx0 := (tiersB_in h3).2.2 x0 (List.mem_singleton.2 rfl)
      have hz : Sized mt := ⟨by omega, M4⟩
      have hs := SameFrames_i mt x0 hz (zT.2 x0 (List.mem_singleton.2 rfl)) f t
      have hsame : sameN mt x0 (t - f).toNat f = ((t - f).toNat : Int) := same_all mt x0 _ f (fun g g0 g1 => by
        rw [h2.2 g g0 (by omega)]
        exact maj_one x0 g)
      have es : sfR mt x0 f t = (((t - f).toNat : Int), true) := by unfold sfR; rw [if_pos (by rw [h1, hx0, h4]; rfl), hsame]
      rw [es] at hs
      refine Ev.pos (by show (0 : Int) < ((1 : Nat) : Int); omega) (Ev.bind hs (Ev.pos rfl (Ev.pos ?_ F6)))
      show ((t - f).toNat : Int) = wrap64 (t - f)
      rw [wrap_in (by omega) (by omega)]
      omega
    · exact Ev.step (fun _ => laws_FnAnnotators.j5.eq_2 ..) (Ev.neg (by decide) F6)
  have F3 : Ev (fun k => laws_FnAnnotators.j3 k m) true := by
    refine Ev.step (fun _ => laws_FnAnnotators.j3.eq_2 ..) (Ev.bind e2 (Ev.bind M2 (Ev.bind M1 (Ev.bind B2 (Ev.bind B1 ?_)))))
    refine Ev.neg (by simp) (Ev.bind (pSameNotes_ mt (by omega)) (Ev.pos rfl (Ev.neg (by simp) (Ev.pos rfl (Ev.pos rfl (Ev.ite (fun h => ?_) (fun _ => F4)))))))
    obtain ⟨_, h3, h4⟩ := M3 h
    have e : (!(bestR T f t).2.2) = false := by unfold bestR; rw [if_pos (by rw [h3, h4]; rfl)]; rfl
    rw [e]
    exact F4
  -- the pairs
  obtain ⟨r, dn, hG, g3, g4⟩ := MatchedG_ x y zx zy (by omega) (by omega) sh
  have gs := MatchedNotesG_ x y zx zy sh r g3
  have as_ := Agree_s x y zx zy sh r g3
  have ai := Agree_i x y sh r g4
  have hrl := hG.le
  have F0 : Ev (fun k => laws_FnAnnotators.j0 k m x y sh (if askB x y sh = true then (r, true) else ([], false)).2 (if askB x y sh = true then (r, true) else ([], false)).1 (agV x y sh (r.length : Int)).1 false) true := by
    refine Ev.step (fun _ => laws_FnAnnotators.j0.eq_2 ..) (Ev.neg (by decide) ?_)
    by_cases ha : askB x y sh = true
    · rw [if_pos ha]
      obtain ⟨v1, v2⟩ := agV_range x y sh r.length ha hrl hG.le_y
      have ⟨t1, t2, t3, t4⟩ := ask_in ha
      refine Ev.pos rfl (Ev.neg (by omega) ?_)
      rw [decide_eq_false (show ¬ (agV x y sh (r.length : Int)).1 > 100 by omega)]
      refine Ev.step (fun _ => laws_FnAnnotators.j1.eq_2 ..) (Ev.neg (by decide) ?_)
      have LL : ∀ d i : Nat, i + d = r.length → Ev (fun k => laws_FnAnnotators.l0 k m x y sh r r (r.length : Int) (i : Int)) true := by
        intro d
        induction d with
        | zero =>
          intro i hi
          exact Ev.step (fun _ => laws_FnAnnotators.l0.eq_2 ..) (Ev.neg (by omega) (Ev.bind (Self_ x zx t1) (Ev.pos rfl (Ev.pos rfl F3))))
        | succ d ih =>
          intro i hi
          have hn := ih (i + 1) (by omega)
          rw [← wrap_succ (by omega)] at hn
          obtain ⟨a, b, ep, h1, h2, h3, hf⟩ := hG.pairs _ (fst_mem r i (by omega))
          have ep2 : rd_L15 r (i : Int) = [(a : Int), (b : Int)] := ep
          obtain ⟨f1, f2, f3⟩ := hf
          obtain ⟨w1, ew1, hw1⟩ := pAbs_ _ _ _ f2
          obtain ⟨w2, ew2, hw2⟩ := pAbs_ _ _ _ f3
          refine Ev.step (fun _ => laws_FnAnnotators.l0.eq_2 ..) (Ev.pos (by omega) (Ev.pos (by omega) (Ev.pos (by omega) ?_)))
          rw [ep2]
          show Ev (fun k => if 0 < (([(a : Int), (b : Int)] : List Int).length : Int) then (if 0 ≤ (a : Int) then (if (a : Int) < (x.length : Int) then (if 1 < (([(a : Int), (b : Int)] : List Int).length : Int) then (if 0 ≤ (b : Int) then (if (b : Int) < (y.length : Int) then (if (atN x a).f2.toList = (atN y b).f2.toList then ((yAz.f (wrap64 ((atN x a).f0 - (atN y b).f0))).bind fun t131 => (if t131 > sh then (some false) else ((yAz.f (wrap64 ((atN x a).f1 - (atN y b).f1))).bind fun t132 => (if t132 > sh then (some false) else (if (i : Int) > 0 then (if 0 ≤ (wrap64 ((i : Int) - 1)) then (if (wrap64 ((i : Int) - 1)) < (r.length : Int) then (if 0 < ((rd_L15 r (wrap64 ((i : Int) - 1))).length : Int) then (if (rd (rd_L15 r (wrap64 ((i : Int) - 1))) 0) ≥ (a : Int) then (some false) else (laws_FnAnnotators.l0 k m x y sh r r (r.length : Int) (wrap64 ((i : Int) + 1)))) else (none)) else (none)) else (none)) else (laws_FnAnnotators.l0 k m x y sh r r (r.length : Int) (wrap64 ((i : Int) + 1)))))))) else (some false)) else (none)) else (none)) else (none)) else (none)) else (none)) else (none)) true
          refine Ev.pos (by simp) (Ev.pos (by omega) (Ev.pos (by omega) (Ev.pos (by simp) (Ev.pos (by omega) (Ev.pos (by omega) (Ev.pos f1 (Ev.have ew1 (Ev.neg hw1 (Ev.have ew2 (Ev.neg hw2 (Ev.ite (fun hi0 => ?_) (fun _ => hn))))))))))))
          rw [wrap_pred (show 0 < i by omega) (by omega)]
          obtain ⟨a', b', ep', _⟩ := hG.pairs _ (fst_mem r (i - 1) (by omega))
          have hrise := hG.rise (i - 1) (by omega)
          rw [show i - 1 + 1 = i by omega] at hrise
          unfold fst at hrise
          rw [ep, ep'] at hrise
          have ep3 : rd_L15 r ((i - 1 : Nat) : Int) = [(a' : Int), (b' : Int)] := ep'
          rw [ep3]
          have hlt : (a' : Int) < (a : Int) := hrise
          exact Ev.pos (by omega) (Ev.pos (by omega) (Ev.pos (by simp) (Ev.neg (by show ¬ (a' : Int) ≥ (a : Int); omega) hn)))
      exact LL r.length 0 (by omega)
    · rw [if_neg ha]
      exact Ev.neg (by decide) F3
  unfold laws_FnAnnotators.f yA7.f
  refine Ev.rounds ?_
  by_cases hb : (c.length : Int) > 1048576
  · exact Ev.have (by rw [if_pos hb]) (Ev.pos rfl (Ev.some rfl))
  refine Ev.have (by rw [if_neg hb]) (Ev.ite (fun _ => Ev.some rfl) (fun _ => ?_))
  refine Ev.bind e1 (Ev.bind g4 (Ev.bind gs (Ev.bind ai (Ev.bind as_ ?_))))
  have hrr : ∀ q, q ∈ (if askB x y sh = true then (r, true) else (([] : List (List Int)), false)).1 → q.length ≤ 140737488351232 := by
    intro q hq
    by_cases ha : askB x y sh = true
    · rw [if_pos ha] at hq
      obtain ⟨a, b, rfl, _⟩ := hG.pairs q hq
      simp
    · rw [if_neg ha] at hq
      exact nomatch hq
  have hrl2 : (if askB x y sh = true then (r, true) else (([] : List (List Int)), false)).1.length ≤ 140737488351232 := by
    by_cases ha : askB x y sh = true
    · rw [if_pos ha]; show r.length ≤ _; omega
    · rw [if_neg ha]; exact Nat.zero_le _
  refine Ev.neg (by simp) (Ev.bind (sameLists_ _ hrl2 hrr) (Ev.pos rfl (Ev.neg (by simp) (Ev.pos rfl ?_))))
  have e : ((agV x y sh (r.length : Int)).2 != (if askB x y sh = true then (r, true) else (([] : List (List Int)), false)).2) = false := by
    unfold agV
    by_cases ha : askB x y sh = true
    · rw [if_pos ha, if_pos ha]; rfl
    · rw [if_neg ha, if_neg ha]; rfl
  rw [e]
  exact F0
end Go.Proofs.Ytgapcmmhbegdeaa.Pure
