/- AgreementBeyond of the program returns what that of the reference returns, for all lists of notes and all frames; no condition beyond what every row's reading gives. -/
import Derived.Test.YtmllkdgdkagkkaaG30
import Derived.Test.YtmllkdgdkagkkaaG62
import Derived.Test.YtmllkdgdkagkkaaMAll
import Derived.Test.YtmllkdgdkagkkaaMBase
namespace Go.Proofs.Ytmllkdgdkagkkaa.Pure
open Go.RowKit Go.Proofs.Ytmllkdgdkagkkaa.G Go.Proofs.YtmllkdgdkagkkaaW.PrintWords Go.Proofs.YtmllkdgdkagkkaaW.PrintLast Go.Proofs.Ytmllkdgdkagkkaa.MPure Go.Proofs.Ytmllkdgdkagkkaa.MWord Go.Proofs.Ytmllkdgdkagkkaa.MNote Go.Proofs.Ytmllkdgdkagkkaa.MCut Go.Proofs.Ytmllkdgdkagkkaa.MWin Go.Proofs.Ytmllkdgdkagkkaa.MAt0 Go.Proofs.Ytmllkdgdkagkkaa.MGloss
open Go.Proofs.Ytmllkdgdkagkkaa.MMap (cnt)

/-- The glosses at d frames from a on. -/
def gl (x : List NI) : Nat → Int → List ByteArray
  | 0, _ => []
  | d + 1, a => glossB x a :: gl x d (a + 1)
theorem gl_length (x : List NI) : ∀ (d : Nat) (a : Int), (gl x d a).length = d
  | 0, _ => rfl
  | d + 1, a => by show (gl x d (a + 1)).length + 1 = d + 1; rw [gl_length x d]
theorem cnt_cons (t : ByteArray) (l : List ByteArray) (s : ByteArray) : cnt (t :: l) s = (if t.toList = s.toList then 1 else 0) + cnt l s := by
  unfold cnt
  rw [List.filter_cons]
  by_cases h : t.toList = s.toList
  · rw [if_pos (by simp [h]), if_pos h, List.length_cons]; omega
  · rw [if_neg (by simp [h]), if_neg h]; omega
/-- For each text of the first list, how often it stands in the second one. -/
def pairs (gb : List ByteArray) : List ByteArray → Int
  | [] => 0
  | s :: ga => cnt gb s + pairs gb ga
theorem pairs_cons (t : ByteArray) (gb : List ByteArray) : ∀ ga : List ByteArray, pairs (t :: gb) ga = cnt ga t + pairs gb ga
  | [] => rfl
  | s :: ga => by
    have ih := pairs_cons t gb ga
    show cnt (t :: gb) s + pairs (t :: gb) ga = cnt (s :: ga) t + (cnt gb s + pairs gb ga)
    rw [cnt_cons, cnt_cons, ih]
    by_cases h : t.toList = s.toList
    · rw [if_pos h, if_pos h.symm]; omega
    · rw [if_neg h, if_neg (fun e => h e.symm)]; omega
/-- Both ways of counting. -/
theorem pairs_comm : ∀ (ga gb : List ByteArray), pairs gb ga = pairs ga gb
  | [], gb => by
    induction gb with
    | nil => rfl
    | cons t gb ih => rw [pairs_cons, ih]; rfl
  | s :: ga, gb => by rw [pairs_cons, ← pairs_comm ga gb]; rfl
theorem cnt_bounds (l : List ByteArray) (s : ByteArray) : 0 ≤ cnt l s ∧ cnt l s ≤ (l.length : Int) := MMap.cnt_le l s
theorem pairs_bounds (gb : List ByteArray) : ∀ ga : List ByteArray, 0 ≤ pairs gb ga ∧ pairs gb ga ≤ ((ga.length * gb.length : Nat) : Int)
  | [] => by simp [pairs]
  | s :: ga => by
    have h := pairs_bounds gb ga
    have h2 := cnt_bounds gb s
    rw [List.length_cons, Nat.succ_mul]
    show 0 ≤ cnt gb s + pairs gb ga ∧ cnt gb s + pairs gb ga ≤ _
    omega
theorem sum_ (ga : List ByteArray) : ∀ (gb : List ByteArray) (e : Int), 0 ≤ e → e + ((gb.length * ga.length : Nat) : Int) ≤ 1000000 → impl_AgreementBeyond.sum ga gb e = e + pairs ga gb
  | [], e, _, _ => by show e = e + 0; omega
  | t :: gb, e, h0, h1 => by
    have h2 := cnt_bounds ga t
    rw [List.length_cons, Nat.succ_mul] at h1
    show impl_AgreementBeyond.sum ga gb (wrap64 (e + cnt ga t)) = e + (cnt ga t + pairs ga gb)
    rw [wrap_in (by omega) (by omega), sum_ ga gb _ (by omega) (by omega)]
    omega
theorem gl_sizes (x : List NI) (hx : Sized x) : ∀ (d : Nat) (a : Int), (gl x d a).all (fun s => decide (s.size ≤ 140737488355328)) = true
  | 0, _ => rfl
  | d + 1, a => by
    show (decide ((glossB x a).size ≤ 140737488355328) && (gl x d (a + 1)).all _) = true
    rw [gl_sizes x hx d, Bool.and_true, decide_eq_true_eq]
    unfold glossB
    split
    · rename_i h
      have hr := idxOf_range (inB a) x
      have hm : atN x (idxOf (inB a) x).toNat ∈ x := atN_mem (by omega)
      have := hx.2 _ hm
      omega
    · exact Nat.zero_le _
/-- The rounds at which both have the same gloss. -/
def sameN (x y : List NI) : Nat → Int → Int
  | 0, _ => 0
  | d + 1, a => (if (glossB x a).toList = (glossB y a).toList then 1 else 0) + sameN x y d (a + 1)
theorem sameN_bounds (x y : List NI) : ∀ (d : Nat) (a : Int), 0 ≤ sameN x y d a ∧ sameN x y d a ≤ (d : Int)
  | 0, _ => by simp [sameN]
  | d + 1, a => by
    have h := sameN_bounds x y d (a + 1)
    have e : sameN x y (d + 1) a = (if (glossB x a).toList = (glossB y a).toList then 1 else 0) + sameN x y d (a + 1) := rfl
    rw [e]
    split <;> omega
theorem same_loops (x y : List NI) (hx : Sized x) (hy : Sized y) (tx : tierB x = true) (ty : tierB y = true) (b : Int) (hb : b ≤ 99999) : ∀ (d : Nat) (a s : Int), a + d = b → 0 ≤ a → 0 ≤ s → s + d ≤ 1000 → Ev (fun k => spec_agSame.l0 k x y b s a) (s + sameN x y d a) ∧ Ev (fun k => impl_sameFrames.l0 k x y b s a) (s + sameN x y d a) := by
  intro d
  induction d with
  | zero =>
    intro a s hd ha h0 h1
    exact ⟨Ev.step (fun _ => spec_agSame.l0.eq_2 ..) (Ev.neg (by omega) (Ev.some (by simp [sameN]))), Ev.step (fun _ => impl_sameFrames.l0.eq_2 ..) (Ev.neg (by omega) (Ev.some (by simp [sameN])))⟩
  | succ d ih =>
    intro a s hd ha h0 h1
    have hw := wrap_step (x := a) (by omega) (by omega)
    have hs : wrap64 (s + 1) = s + 1 := wrap_in (by omega) (by omega)
    have es : sameN x y (d + 1) a = (if (glossB x a).toList = (glossB y a).toList then 1 else 0) + sameN x y d (a + 1) := rfl
    by_cases he : (glossB x a).toList = (glossB y a).toList
    · obtain ⟨g1, g2⟩ := ih (a + 1) (s + 1) (by omega) (by omega) (by omega) (by omega)
      rw [es, if_pos he, ← Int.add_assoc]
      refine ⟨Ev.step (fun _ => spec_agSame.l0.eq_2 ..) (Ev.pos (by omega) (Ev.bind (agGloss_ x hx a) (Ev.bind (agGloss_ y hy a) (Ev.pos he ?_)))), Ev.step (fun _ => impl_sameFrames.l0.eq_2 ..) (Ev.pos (by omega) (Ev.have (glossAt_ x tx a) (Ev.have (glossAt_ y ty a) (Ev.pos he ?_))))⟩
      · rw [hw, hs]; exact g1
      · rw [hw, hs]; exact g2
    · obtain ⟨g1, g2⟩ := ih (a + 1) s (by omega) (by omega) h0 (by omega)
      rw [es, if_neg he, Int.zero_add]
      refine ⟨Ev.step (fun _ => spec_agSame.l0.eq_2 ..) (Ev.pos (by omega) (Ev.bind (agGloss_ x hx a) (Ev.bind (agGloss_ y hy a) (Ev.neg he ?_)))), Ev.step (fun _ => impl_sameFrames.l0.eq_2 ..) (Ev.pos (by omega) (Ev.have (glossAt_ x tx a) (Ev.have (glossAt_ y ty a) (Ev.neg he ?_))))⟩
      · rw [hw]; exact g1
      · rw [hw]; exact g2
theorem frame_loop (x : List NI) (tx : tierB x = true) (b : Int) (hb : b ≤ 99999) : ∀ (d : Nat) (a : Int) (s : List ByteArray), a + d = b → 0 ≤ a → s.length + d ≤ 1000 → Ev (fun k => impl_frameGlosses.l0 k x b s a) (s ++ gl x d a) := by
  intro d
  induction d with
  | zero =>
    intro a s hd ha hs
    exact Ev.step (fun _ => impl_frameGlosses.l0.eq_2 ..) (Ev.neg (by omega) (Ev.some (by simp [gl])))
  | succ d ih =>
    intro a s hd ha hs
    have hw := wrap_step (x := a) (by omega) (by omega)
    have h2 := ih (a + 1) (s ++ [glossB x a]) (by omega) (by omega) (by simp; omega)
    rw [List.append_assoc, List.singleton_append] at h2
    refine Ev.step (fun _ => impl_frameGlosses.l0.eq_2 ..) (Ev.pos (by omega) (Ev.have (glossAt_ x tx a) (Ev.pos (by omega) ?_)))
    rw [hw]
    exact h2
theorem wr {z : Int} (h0 : -3000000000 ≤ z) (h1 : z ≤ 3000000000) : wrap64 z = z := wrap_in (by omega) (by omega)
theorem up_ (m n : Nat) (hm : 0 < m) (hn : 0 < n) : (m + n - 1) / n = if m % n = 0 then m / n else m / n + 1 := by
  have hdm := Nat.div_add_mod m n
  have hlt := Nat.mod_lt m hn
  split
  · rename_i hz
    have e : m + n - 1 = n * (m / n) + (n - 1) := by omega
    rw [e, Nat.mul_add_div hn, Nat.div_eq_of_lt (show n - 1 < n by omega)]
    rfl
  · rename_i hz
    have hs : n * (m / n + 1) = n * (m / n) + n := Nat.mul_succ _ _
    have e : m + n - 1 = n * (m / n + 1) + (m % n - 1) := by omega
    rw [e, Nat.mul_add_div hn, Nat.div_eq_of_lt (show m % n - 1 < n by omega)]
/-- The quotient, rounded down. -/
theorem down_neg (m n : Nat) (hm : 0 < m) (hn : 0 < n) (h1 : m ≤ 1000000000) (h2 : n ≤ 1000000000) : ∃ q : Int, spec_agDown.f (-(m : Int)) (n : Int) = some q ∧ impl_floorDiv.f (-(m : Int)) (n : Int) = some q := by
  have hu := up_ m n hm hn
  have hle : m / n ≤ m := Nat.div_le_self m n
  have f1 : Int.tdiv (-(m : Int)) (n : Int) = -((m / n : Nat) : Int) := by rw [Int.neg_tdiv]; rfl
  have f2 : Int.tmod (-(m : Int)) (n : Int) = -((m % n : Nat) : Int) := by rw [Int.neg_tmod]; rfl
  have e4 : Int.tdiv ((m + n - 1 : Nat) : Int) (n : Int) = (((m + n - 1) / n : Nat) : Int) := rfl
  unfold spec_agDown.f impl_floorDiv.f
  rw [if_pos (by omega), if_neg (by omega), if_neg (by omega), f1, f2, Int.neg_neg, wr (z := (m : Int)) (by omega) (by omega), wr (z := (m : Int) + (n : Int)) (by omega) (by omega), show (m : Int) + (n : Int) - 1 = ((m + n - 1 : Nat) : Int) by omega, wr (z := ((m + n - 1 : Nat) : Int)) (by omega) (by omega), e4, hu]
  generalize m / n = P at hle
  generalize m % n = R
  by_cases hz : R = 0
  · rw [if_pos hz, if_neg (show ¬ -((R : Nat) : Int) < 0 by omega), wr (z := ((P : Nat) : Int)) (by omega) (by omega)]
    exact ⟨_, rfl, rfl⟩
  · rw [if_neg hz, if_pos (show -((R : Nat) : Int) < 0 by omega), wr (z := ((P + 1 : Nat) : Int)) (by omega) (by omega), wr (z := -((P : Nat) : Int)) (by omega) (by omega)]
    exact ⟨_, rfl, by rw [show -((P : Nat) : Int) - 1 = -((P + 1 : Nat) : Int) by omega]⟩
theorem down_ (a b : Int) (h0 : 0 < b) (h1 : -1000000000 ≤ a) (h3 : b ≤ 1000000000) : ∃ q : Int, spec_agDown.f a b = some q ∧ impl_floorDiv.f a b = some q := by
  obtain ⟨n, rfl⟩ : ∃ n : Nat, b = (n : Int) := ⟨b.toNat, by omega⟩
  by_cases ha : a < 0
  · obtain ⟨m, rfl⟩ : ∃ m : Nat, a = -(m : Int) := ⟨(-a).toNat, by omega⟩
    exact down_neg m n (by omega) (by omega) (by omega) (by omega)
  · have h : ¬ Int.tmod a (n : Int) < 0 := Int.not_lt.2 (Int.tmod_nonneg (n : Int) (show 0 ≤ a by omega))
    unfold spec_agDown.f impl_floorDiv.f
    rw [if_neg ha, if_neg (show ¬ (n : Int) = 0 by omega), if_neg (show ¬ (n : Int) = 0 by omega), if_neg h]
    exact ⟨_, rfl, rfl⟩
theorem sq_le {d : Nat} (h : d ≤ 200) : (0 : Int) + ((d * d : Nat) : Int) ≤ 900000 := by
  have h2 : d * d ≤ 200 * 200 := Nat.mul_le_mul h h
  omega
/-- What both make of the counts. -/
theorem tail_ (x y : List NI) (a b : Int) (d : Nat) (E S : Int) (hd : d ≤ 200) (hS : 0 ≤ S ∧ S ≤ (d : Int)) (hE : 0 ≤ E ∧ E ≤ ((d * d : Nat) : Int)) (hs : Ev (fun k => spec_agSame.f k x y a b) S) :
    ∃ r : Int × Bool, Ev (fun k => if wrap64 ((d : Int) * (d : Int)) = E then some (100, true) else (spec_agSame.f k x y a b).bind fun t104 => (spec_agDown.f (wrap64 (100 * (wrap64 ((wrap64 ((d : Int) * t104)) - E)))) (wrap64 ((wrap64 ((d : Int) * (d : Int))) - E))).bind fun t105 => some (t105, true)) r ∧
      (if wrap64 ((d : Int) * (d : Int)) = E then some (100, true) else (impl_floorDiv.f (wrap64 (100 * (wrap64 ((wrap64 ((d : Int) * S)) - E)))) (wrap64 ((wrap64 ((d : Int) * (d : Int))) - E))).bind fun q => some (q, true)) = some r := by
  have hdd : d * d ≤ 200 * 200 := Nat.mul_le_mul hd hd
  have h1 : (d : Int) * S ≤ 200 * 200 := Int.mul_le_mul (by omega) (by omega) (by omega) (by omega)
  have h2 : 0 ≤ (d : Int) * S := Int.mul_nonneg (by omega) (by omega)
  rw [← Int.natCast_mul]
  generalize hds : (d : Int) * S = DS at h1 h2
  generalize d * d = D at hdd hE
  rw [wr (z := ((D : Nat) : Int)) (by omega) (by omega), wr (z := DS) (by omega) (by omega), wr (z := DS - E) (by omega) (by omega), wr (z := 100 * (DS - E)) (by omega) (by omega), wr (z := ((D : Nat) : Int) - E) (by omega) (by omega)]
  by_cases hq : ((D : Nat) : Int) = E
  · exact ⟨(100, true), Ev.pos hq (Ev.some rfl), by rw [if_pos hq]⟩
  · obtain ⟨q, q1, q2⟩ := down_ (100 * (DS - E)) (((D : Nat) : Int) - E) (by omega) (by omega) (by omega)
    refine ⟨(q, true), Ev.neg hq (Ev.bind hs ?_), by rw [if_neg hq, q2]; rfl⟩
    rw [hds, wr (z := DS) (by omega) (by omega), wr (z := DS - E) (by omega) (by omega), wr (z := 100 * (DS - E)) (by omega) (by omega), q1]
    exact Ev.some rfl
theorem Agree_both (x y : List NI) (hx : Sized x) (hy : Sized y) (a b : Int) : ∃ r : Int × Bool, Ev (fun k => spec_AgreementBeyond.f k x y a b) r ∧ Ev (fun k => impl_AgreementBeyond.f k x y a b) r := by
  unfold spec_AgreementBeyond.f impl_AgreementBeyond.f
  have hs := agAsked_ x y hx hy a b
  cases h1 : tierB x with
  | false => exact ⟨(0, false), Ev.bind (Ev.eq (r := false) hs (by simp [h1])) (Ev.neg (by decide) (Ev.some rfl)), Ev.bind (Ev.eq (IsTier_ x hx) h1) (Ev.neg (by decide) (Ev.some rfl))⟩
  | true =>
    cases h2 : tierB y with
    | false => exact ⟨(0, false), Ev.bind (Ev.eq (r := false) hs (by simp [h2])) (Ev.neg (by decide) (Ev.some rfl)), Ev.bind (Ev.eq (IsTier_ x hx) h1) (Ev.pos rfl (Ev.bind (Ev.eq (IsTier_ y hy) h2) (Ev.neg (by decide) (Ev.some rfl))))⟩
    | true =>
      cases h3 : windowB a b with
      | false => exact ⟨(0, false), Ev.bind (Ev.eq (r := false) hs (by simp [h3])) (Ev.neg (by decide) (Ev.some rfl)), Ev.bind (Ev.eq (IsTier_ x hx) h1) (Ev.pos rfl (Ev.bind (Ev.eq (IsTier_ y hy) h2) (Ev.pos rfl (Ev.have ((isWindow_ a b).trans (congrArg some h3)) (Ev.neg (by decide) (Ev.some rfl))))))⟩
      | true =>
        have hw := windowB_in h3
        obtain ⟨d, hd⟩ : ∃ d : Nat, b - a = (d : Int) := ⟨(b - a).toNat, by omega⟩
        have hd200 : d ≤ 200 := by omega
        obtain ⟨s1, s2⟩ := same_loops x y hx hy h1 h2 b (by omega) d a 0 (by omega) (by omega) (by omega) (by omega)
        have hsb := sameN_bounds x y d a
        rw [Int.zero_add] at s1 s2
        generalize sameN x y d a = S at s1 s2 hsb
        have g1 := frame_loop x h1 b (by omega) d a [] (by omega) (by omega) (by simp; omega)
        have g2 := frame_loop y h2 b (by omega) d a [] (by omega) (by omega) (by simp; omega)
        rw [List.nil_append] at g1 g2
        have l1 := gl_length x d a
        have l2 := gl_length y d a
        have z1 := gl_sizes x hx d a
        have z2 := gl_sizes y hy d a
        have hdd : d * d ≤ 40000 := Nat.mul_le_mul hd200 hd200
        have hpb := pairs_bounds (gl y d a) (gl x d a)
        rw [l1, l2] at hpb
        have hsum := sum_ (gl x d a) (gl y d a) 0 (Int.le_refl _) (by rw [l1, l2]; omega)
        rw [Int.zero_add, ← pairs_comm (gl x d a) (gl y d a)] at hsum
        have hn : wrap64 (b - a) = (d : Int) := by rw [wrap_in (by omega) (by omega)]; exact hd
        have hnn : wrap64 ((d : Int) * (d : Int)) = ((d * d : Nat) : Int) := by
          rw [← Int.natCast_mul, wrap_in (by omega) (by omega)]
        obtain ⟨r, t1, t2⟩ := tail_ x y a b d (pairs (gl y d a) (gl x d a)) S hd200 hsb hpb s1
        replace t2 : impl_AgreementBeyond.g (d : Int) S (gl x d a) (gl y d a) = some r := by
          unfold impl_AgreementBeyond.g
          rw [if_pos (by rw [z1, z2, decide_eq_true (show (gl x d a).length ≤ 1000 by omega), decide_eq_true (show (gl y d a).length ≤ 1000 by omega)]; rfl), hsum]
          exact t2
        -- the reference's loops
        have inner : ∀ (xa : Int) (e2 : Nat) (ya e : Int), ya + e2 = b → 0 ≤ ya → 0 ≤ e → e + e2 ≤ 1000000 → Ev (fun k => spec_AgreementBeyond.l0 k x y a b (d : Int) (e + cnt (gl y e2 ya) (glossB x xa)) (wrap64 (xa + 1))) r → Ev (fun k => spec_AgreementBeyond.l1 k x y a b (d : Int) e xa ya) r := by
          intro xa e2
          induction e2 with
          | zero =>
            intro ya e hy1 hy2 he1 he2 hr
            refine Ev.step (fun _ => spec_AgreementBeyond.l1.eq_2 ..) (Ev.neg (by omega) ?_)
            have : e + cnt (gl y 0 ya) (glossB x xa) = e := by show e + 0 = e; omega
            rw [this] at hr
            exact hr
          | succ e2 ih =>
            intro ya e hy1 hy2 he1 he2 hr
            have hw2 := wrap_step (x := ya) (by omega) (by omega)
            have hc : cnt (gl y (e2 + 1) ya) (glossB x xa) = (if (glossB y ya).toList = (glossB x xa).toList then 1 else 0) + cnt (gl y e2 (ya + 1)) (glossB x xa) := cnt_cons _ _ _
            rw [hc] at hr
            refine Ev.step (fun _ => spec_AgreementBeyond.l1.eq_2 ..) (Ev.pos (by omega) (Ev.bind (agGloss_ x hx xa) (Ev.bind (agGloss_ y hy ya) (Ev.ite (fun hg => ?_) (fun hg => ?_)))))
            · rw [if_pos hg.symm, ← Int.add_assoc] at hr
              rw [hw2, wrap_in (show -9223372036854775808 ≤ e + 1 by omega) (by omega)]
              exact ih (ya + 1) (e + 1) (by omega) (by omega) (by omega) (by omega) hr
            · rw [if_neg (fun h => hg h.symm), Int.zero_add] at hr
              rw [hw2]
              exact ih (ya + 1) e (by omega) (by omega) he1 (by omega) hr
        have outer : ∀ (e1 : Nat) (xa e : Int), xa + e1 = b → 0 ≤ xa → 0 ≤ e → e + ((e1 * d : Nat) : Int) ≤ 900000 → e + pairs (gl y d a) (gl x e1 xa) = pairs (gl y d a) (gl x d a) → Ev (fun k => spec_AgreementBeyond.l0 k x y a b (d : Int) e xa) r := by
          intro e1
          induction e1 with
          | zero =>
            intro xa e hx1 hx2 he1 he2 hp
            have : e = pairs (gl y d a) (gl x d a) := by rw [← hp]; show e = e + 0; omega
            subst this
            exact Ev.step (fun _ => spec_AgreementBeyond.l0.eq_2 ..) (Ev.neg (by omega) t1)
          | succ e1 ih =>
            intro xa e hx1 hx2 he1 he2 hp
            have hw2 := wrap_step (x := xa) (by omega) (by omega)
            have hcb := cnt_bounds (gl y d a) (glossB x xa)
            rw [l2] at hcb
            rw [Nat.succ_mul] at he2
            have hp2 : e + (cnt (gl y d a) (glossB x xa) + pairs (gl y d a) (gl x e1 (xa + 1))) = pairs (gl y d a) (gl x d a) := hp
            refine Ev.step (fun _ => spec_AgreementBeyond.l0.eq_2 ..) (Ev.pos (by omega) (inner xa d a e (by omega) (by omega) he1 (by omega) ?_))
            rw [hw2]
            exact ih (xa + 1) _ (by omega) (by omega) (by omega) (by omega) (by rw [← hp2]; omega)
        have hout := outer d a 0 (by omega) (by omega) (Int.le_refl _) (sq_le hd200) (Int.zero_add _)
        refine ⟨r, Ev.bind (Ev.eq (r := true) hs (by simp [h1, h2, h3])) (Ev.pos rfl ?_), Ev.bind (Ev.eq (IsTier_ x hx) h1) (Ev.pos rfl (Ev.bind (Ev.eq (IsTier_ y hy) h2) (Ev.pos rfl (Ev.have ((isWindow_ a b).trans (congrArg some h3)) (Ev.pos rfl (Ev.bind s2 (Ev.bind g1 (Ev.bind g2 ?_))))))))⟩
        · rw [hn]; exact hout
        · rw [hn, t2]; exact Ev.some rfl
theorem FnExactAgreementBeyond : laws_FnExactAgreementBeyond.Pure := by
  intro l m a b hl hm _ _
  obtain ⟨z0, ⟨K0, hz0⟩, _, _⟩ := szNoteS_ l hl 1048576 (by omega) (by omega)
  by_cases hneg : z0 < 0
  · exact ⟨K0, z0, hz0 _ (Nat.le_refl _), fun h => absurd h (by omega)⟩
  obtain ⟨z1, ⟨K1, hz1⟩, _, _⟩ := szNoteS_ m hm z0 (by omega) (by omega)
  obtain ⟨K2, ht0⟩ := toNoteS_ l hl.2
  obtain ⟨K3, ht1⟩ := toNoteS_ m hm.2
  have hs0 := Given.sized hl
  have hs1 := Given.sized hm
  obtain ⟨⟨r, q⟩, ⟨K4, g3⟩, ⟨K5, g4⟩⟩ := Agree_both _ _ hs0 hs1 a b
  obtain ⟨K7, hx⟩ := eqNoteS_ _ hs0.1
  obtain ⟨K8, hy⟩ := eqNoteS_ _ hs1.1
  refine ⟨K0 + K1 + K2 + K3 + K4 + K5 + K7 + K8, z0, hz0 _ (by omega), fun _ => ⟨z1, hz1 _ (by omega), fun _ => ?_⟩⟩
  exact ⟨_, _, r, q, ht0 _ (by omega), ht1 _ (by omega), g3 _ (by omega), g4 _ (by omega), hx _ (by omega), hy _ (by omega)⟩
end Go.Proofs.Ytmllkdgdkagkkaa.Pure
