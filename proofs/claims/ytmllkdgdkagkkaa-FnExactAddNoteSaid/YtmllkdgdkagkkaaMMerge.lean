/- Two sorted rows that lie side by side become one, as the library's stable sort does it. -/
import Derived.Test.YtmllkdgdkagkkaaG0
import Derived.Test.YtmllkdgdkagkkaaG57
import Derived.Test.YtmllkdgdkagkkaaG58
import Derived.Test.YtmllkdgdkagkkaaMSort
namespace Go.Proofs.Ytmllkdgdkagkkaa.MMerge
open Go.RowKit Go.Proofs.Ytmllkdgdkagkkaa.G Go.Proofs.YtmllkdgdkagkkaaW.PrintWords Go.Proofs.YtmllkdgdkagkkaaW.PrintLast Go.Proofs.Ytmllkdgdkagkkaa.MPure Go.Proofs.Ytmllkdgdkagkkaa.MNote Go.Proofs.Ytmllkdgdkagkkaa.MSort

/-- What the turn leaves: both halves sorted in their two parts, nothing on the left greater than anything on the right. -/
theorem halves (x y : List NI) (a m b mid s e s0 r0 : Nat) (hmid : (a + b) / 2 = mid) (h1 : a < m) (h2 : m < b) (hS1 : Srt x a m) (hS2 : Srt x m b)
    (hcase : m ≤ mid ∧ s0 = a ∧ r0 = m ∨ mid < m ∧ s0 = mid + m - b ∧ r0 = mid) (g1 : s0 ≤ s) (g2 : s ≤ r0) (he : mid + m - s = e)
    (g3 : s0 < s → ky x (s - 1) ≤ ky x e) (g4 : s < r0 → ky x (e - 1) < ky x s)
    (y1 : y.length = x.length) (y2 : y.Perm x) (y3 : ∀ t, t < e - m → atN y (s + t) = atN x (m + t)) (y4 : ∀ t, t < m - s → atN y (mid + t) = atN x (s + t)) (y5 : ∀ t, t < s ∨ e ≤ t → atN y t = atN x t) :
    Srt y a s ∧ Srt y s mid ∧ Srt y mid e ∧ Srt y e b ∧ (∀ p q, a ≤ p → p < mid → mid ≤ q → q < b → ky y p ≤ ky y q) ∧ W x y a b := by
  have k1 : a ≤ s := by omega
  have k2 : s ≤ m := by omega
  have k3 : s ≤ mid := by omega
  have k4 : m ≤ e := by omega
  have k5 : mid ≤ e := by omega
  have k6 : e ≤ b := by omega
  have k7 : mid = s + (e - m) := by omega
  have k8 : e = mid + (m - s) := by omega
  have p1 : ∀ t, s ≤ t → t < mid → ky y t = ky x (m + (t - s)) := by
    intro t t1 t2
    have := y3 (t - s) (by omega)
    unfold ky
    rw [show s + (t - s) = t by omega] at this
    rw [this]
  have p2 : ∀ t, mid ≤ t → t < e → ky y t = ky x (s + (t - mid)) := by
    intro t t1 t2
    have := y4 (t - mid) (by omega)
    unfold ky
    rw [show mid + (t - mid) = t by omega] at this
    rw [this]
  have p3 : ∀ t, t < s ∨ e ≤ t → ky y t = ky x t := by
    intro t ht
    unfold ky
    rw [y5 t ht]
  refine ⟨?_, ?_, ?_, ?_, ?_, ?_⟩
  · intro p q z1 z2 z3
    rw [p3 p (Or.inl (by omega)), p3 q (Or.inl z3)]
    exact hS1 p q z1 z2 (by omega)
  · intro p q z1 z2 z3
    rw [p1 p z1 (by omega), p1 q (by omega) z3]
    exact hS2 _ _ (by omega) (by omega) (by omega)
  · intro p q z1 z2 z3
    rw [p2 p z1 (by omega), p2 q (by omega) z3]
    exact hS1 _ _ (by omega) (by omega) (by omega)
  · intro p q z1 z2 z3
    rw [p3 p (Or.inr z1), p3 q (Or.inr (by omega))]
    exact hS2 p q (by omega) z2 z3
  · intro p q z1 z2 z3 z4
    by_cases cp : p < s
    · rw [p3 p (Or.inl cp)]
      by_cases cq : q < e
      · rw [p2 q z3 cq]; exact hS1 _ _ z1 (by omega) (by omega)
      · rw [p3 q (Or.inr (by omega))]
        have w1 : ky x p ≤ ky x (s - 1) := by
          by_cases e0 : p = s - 1
          · rw [e0]; exact Int.le_refl _
          · exact hS1 _ _ z1 (by omega) (by omega)
        have w2 := g3 (by omega)
        have w3 : ky x e ≤ ky x q := by
          by_cases e0 : q = e
          · rw [e0]; exact Int.le_refl _
          · exact hS2 _ _ (by omega) (by omega) z4
        exact Int.le_trans w1 (Int.le_trans w2 w3)
    · rw [p1 p (by omega) z2]
      by_cases cq : q < e
      · rw [p2 q z3 cq]
        have w1 : ky x (m + (p - s)) ≤ ky x (e - 1) := by
          by_cases e0 : m + (p - s) = e - 1
          · rw [e0]; exact Int.le_refl _
          · exact hS2 _ _ (by omega) (by omega) (by omega)
        have w2 := g4 (by omega)
        have w3 : ky x s ≤ ky x (s + (q - mid)) := by
          by_cases e0 : q = mid
          · rw [e0, Nat.sub_self]; exact Int.le_refl _
          · exact hS1 _ _ (by omega) (by omega) (by omega)
        exact Int.le_trans w1 (Int.le_trans (Int.le_of_lt w2) w3)
      · rw [p3 q (Or.inr (by omega))]
        exact hS2 _ _ (by omega) (by omega) z4
  · refine ⟨y1, y2, fun t ht => y5 t (by omega), fun t t1 t2 => ?_⟩
    by_cases cp : t < s ∨ e ≤ t
    · exact ⟨t, t1, t2, y5 t cp⟩
    · by_cases cm : t < mid
      · have := y3 (t - s) (by omega)
        rw [show s + (t - s) = t by omega] at this
        exact ⟨m + (t - s), by omega, by omega, this⟩
      · have := y4 (t - mid) (by omega)
        rw [show mid + (t - mid) = t by omega] at this
        exact ⟨s + (t - mid), by omega, by omega, this⟩

def Merges (N : Nat) : Prop := ∀ a m b : Nat, b - a ≤ N → a < m → m < b → ∀ x : List NI, b ≤ x.length → KB x → Srt x a m → Srt x m b →
    ∃ r, Ev (fun k => slices_symMergeCmpFunc_Note.f k x (a : Int) (m : Int) (b : Int)) r ∧ W x r a b ∧ Srt r a b
theorem right {N : Nat} (ih : Merges N) (y : List NI) (mid e b : Nat) (hN : b - mid ≤ N) (h1 : mid ≤ e) (h2 : e ≤ b) (hb : b ≤ y.length) (hk : KB y) (S3 : Srt y mid e) (S4 : Srt y e b) :
    ∃ r, Ev (fun k => if (mid : Int) < (e : Int) then (if (e : Int) < (b : Int) then ((slices_symMergeCmpFunc_Note.f k y (mid : Int) (e : Int) (b : Int)).bind fun t120 => some t120) else some y) else some y) r ∧ W y r mid b ∧ Srt r mid b := by
  by_cases d1 : mid < e
  · by_cases d2 : e < b
    · obtain ⟨r, r1, r2, r3⟩ := ih mid e b hN d1 d2 y hb hk S3 S4
      exact ⟨r, Ev.pos (by omega) (Ev.pos (by omega) (Ev.bind r1 (Ev.some rfl))), r2, r3⟩
    · exact ⟨y, Ev.pos (by omega) (Ev.neg (by omega) (Ev.some rfl)), W.refl _ _ _, fun p q w1 w2 w3 => S3 p q w1 w2 (by omega)⟩
  · exact ⟨y, Ev.neg (by omega) (Ev.some rfl), W.refl _ _ _, fun p q w1 w2 w3 => S4 p q (by omega) w2 w3⟩
theorem both (x y y' r : List NI) (a mid b : Nat) (h1 : a ≤ mid) (h2 : mid ≤ b) (hWy : W x y a b) (cross : ∀ p q, a ≤ p → p < mid → mid ≤ q → q < b → ky y p ≤ ky y q) (w1 : W y y' a mid) (w2 : Srt y' a mid) (w3 : W y' r mid b) (w4 : Srt r mid b) : W x r a b ∧ Srt r a b := by
  refine ⟨hWy.trans ((w1.widen (Nat.le_refl _) h2).trans (w3.widen h1 (Nat.le_refl _))), fun p q z1 z2 z3 => ?_⟩
  by_cases cq : q < mid
  · unfold ky
    rw [w3.2.2.1 p (Or.inl (by omega)), w3.2.2.1 q (Or.inl cq)]
    exact w2 p q z1 z2 cq
  · by_cases cp : p < mid
    · obtain ⟨p', u1, u2, u3⟩ := w1.2.2.2 p z1 cp
      obtain ⟨q', v1, v2, v3⟩ := w3.2.2.2 q (by omega) z3
      unfold ky
      rw [w3.2.2.1 p (Or.inl cp), u3, v3, w1.2.2.1 q' (Or.inr v1)]
      exact cross p' q' u1 u2 v1 v2
    · exact w4 p q (by omega) z2 z3
theorem rest {N : Nat} (ih : Merges N) (x y : List NI) (a mid s e b : Nat) (hN1 : mid - a ≤ N) (hN2 : b - mid ≤ N) (k1 : a ≤ s) (k3 : s ≤ mid) (k5 : mid ≤ e) (k6 : e ≤ b) (k0 : a ≤ mid) (hb : b ≤ y.length) (hky : KB y)
    (S1 : Srt y a s) (S2 : Srt y s mid) (S3 : Srt y mid e) (S4 : Srt y e b) (cross : ∀ p q, a ≤ p → p < mid → mid ≤ q → q < b → ky y p ≤ ky y q) (hWy : W x y a b) :
    ∃ r, Ev (fun k => slices_symMergeCmpFunc_Note.j7 k y (a : Int) (b : Int) (mid : Int) (s : Int) (e : Int)) r ∧ W x r a b ∧ Srt r a b := by
  by_cases d : a < s ∧ s < mid
  · obtain ⟨y', u1, u2, u3⟩ := ih a s mid hN1 d.1 d.2 y (by omega) hky S1 S2
    obtain ⟨r, v1, v2, v3⟩ := right ih y' mid e b hN2 k5 k6 (by rw [u2.1]; exact hb) (hky.perm u2.2.1) (S3.same (fun i i1 i2 => u2.2.2.1 i (Or.inr i1))) (S4.same (fun i i1 i2 => u2.2.2.1 i (Or.inr (by omega))))
    exact ⟨r, Ev.step (fun _ => slices_symMergeCmpFunc_Note.j7.eq_2 ..) (Ev.pos (by omega) (Ev.step (fun _ => slices_symMergeCmpFunc_Note.j8.eq_2 ..) (Ev.pos (decide_eq_true (by omega)) (Ev.bind u1 v1)))), both x y y' r a mid b k0 (by omega) hWy cross u2 u3 v2 v3⟩
  · have hS : Srt y a mid := fun p q z1 z2 z3 => by
      by_cases e0 : s = a
      · exact S2 p q (by omega) z2 z3
      · exact S1 p q z1 z2 (by omega)
    obtain ⟨r, v1, v2, v3⟩ := right ih y mid e b hN2 k5 k6 hb hky S3 S4
    refine ⟨r, Ev.step (fun _ => slices_symMergeCmpFunc_Note.j7.eq_2 ..) (Ev.ite (fun d1 => ?_) (fun d1 => ?_)), both x y y r a mid b k0 (by omega) hWy cross (W.refl _ _ _) hS v2 v3⟩
    · refine Ev.step (fun _ => slices_symMergeCmpFunc_Note.j8.eq_2 ..) (Ev.neg ?_ v1)
      simp only [decide_eq_true_eq]
      omega
    · exact Ev.step (fun _ => slices_symMergeCmpFunc_Note.j8.eq_2 ..) (Ev.neg (by simp) v1)
theorem fin {N : Nat} (ih : Merges N) (x : List NI) (a m b mid s0 r0 s e : Nat) (hN1 : mid - a ≤ N) (hN2 : b - mid ≤ N) (hmid : (a + b) / 2 = mid) (h1 : a < m) (h2 : m < b) (hb : b ≤ x.length) (hk : KB x) (hS1 : Srt x a m) (hS2 : Srt x m b)
    (hcase : m ≤ mid ∧ s0 = a ∧ r0 = m ∨ mid < m ∧ s0 = mid + m - b ∧ r0 = mid) (g1 : s0 ≤ s) (g2 : s ≤ r0) (he0 : s + e = mid + m) (g3 : ∀ c p, c + p + 1 = mid + m → s0 ≤ c → c < s → ky x c ≤ ky x p) (g4 : ∀ c p, c + p + 1 = mid + m → s ≤ c → c < r0 → ky x p < ky x c) (q : Bool) (hq : q = true ↔ s < m ∧ m < e) :
    ∃ r, Ev (fun k => slices_symMergeCmpFunc_Note.j6 k x (a : Int) (m : Int) (b : Int) (mid : Int) (s : Int) (e : Int) q) r ∧ W x r a b ∧ Srt r a b := by
  have he : mid + m - s = e := by omega
  have k1 : a ≤ s := by omega
  have k2 : s ≤ m := by omega
  have k3 : s ≤ mid := by omega
  have k4 : m ≤ e := by omega
  have k5 : mid ≤ e := by omega
  have k6 : e ≤ b := by omega
  have k0 : a ≤ mid := by omega
  have f3 : s0 < s → ky x (s - 1) ≤ ky x e := fun h => g3 (s - 1) e (by omega) (by omega) (by omega)
  have f4 : s < r0 → ky x (e - 1) < ky x s := fun h => g4 s (e - 1) (by omega) (Nat.le_refl _) h
  have go : ∀ y : List NI, y.length = x.length → y.Perm x → (∀ t, t < e - m → atN y (s + t) = atN x (m + t)) → (∀ t, t < m - s → atN y (mid + t) = atN x (s + t)) → (∀ t, t < s ∨ e ≤ t → atN y t = atN x t) →
      ∃ r, Ev (fun k => slices_symMergeCmpFunc_Note.j7 k y (a : Int) (b : Int) (mid : Int) (s : Int) (e : Int)) r ∧ W x r a b ∧ Srt r a b := by
    intro y y1 y2 y3 y4 y5
    obtain ⟨w1, w2, w3, w4, w5, w6⟩ := halves x y a m b mid s e s0 r0 hmid h1 h2 hS1 hS2 hcase g1 g2 he f3 f4 y1 y2 y3 y4 y5
    exact rest ih x y a mid s e b hN1 hN2 k1 k3 k5 k6 k0 (by rw [y1]; exact hb) (hk.perm y2) w1 w2 w3 w4 w5 w6
  clear hcase
  cases q with
  | true =>
    obtain ⟨d1, d2⟩ := hq.1 rfl
    obtain ⟨y, u1, u2, u3, u4, u5, u6⟩ := rotate x s m e d1 d2 (by omega) hk.2
    rw [show s + (e - m) = mid by omega] at u5
    obtain ⟨r, v1, v2⟩ := go y u2 u3 u4 u5 u6
    exact ⟨r, Ev.step (fun _ => slices_symMergeCmpFunc_Note.j6.eq_2 ..) (Ev.pos rfl (Ev.bind u1 v1)), v2⟩
  | false =>
    have d : ¬ (s < m ∧ m < e) := fun h => by have := hq.2 h; cases this
    obtain ⟨r, v1, v2⟩ := go x rfl (List.Perm.refl _) (fun t ht => by rw [show s = m by omega]) (fun t ht => by rw [show s = mid by omega]) (fun t _ => rfl)
    exact ⟨r, Ev.step (fun _ => slices_symMergeCmpFunc_Note.j6.eq_2 ..) (Ev.neg (by simp) v1), v2⟩
theorem search {N : Nat} (ih : Merges N) (x : List NI) (a m b mid s0 r0 pp : Nat) (hpp : pp + 1 = mid + m) (hN1 : mid - a ≤ N) (hN2 : b - mid ≤ N) (hmid : (a + b) / 2 = mid) (h1 : a < m) (h2 : m < b) (hb : b ≤ x.length) (hk : KB x) (hS1 : Srt x a m) (hS2 : Srt x m b)
    (hcase : m ≤ mid ∧ s0 = a ∧ r0 = m ∨ mid < m ∧ s0 = mid + m - b ∧ r0 = mid) : ∀ M st rr : Nat, rr - st ≤ M → s0 ≤ st → st ≤ rr → rr ≤ r0 → (∀ c p, c + p + 1 = mid + m → s0 ≤ c → c < st → ky x c ≤ ky x p) → (∀ c p, c + p + 1 = mid + m → rr ≤ c → c < r0 → ky x p < ky x c) →
    ∃ r, Ev (fun k => slices_symMergeCmpFunc_Note.l4 k x (a : Int) (m : Int) (b : Int) (mid : Int) ((mid + m : Nat) : Int) (st : Int) (rr : Int) (pp : Int)) r ∧ W x r a b ∧ Srt r a b := by
  have hl := hk.2
  have hbig : mid + m ≤ 8796093022208 := by omega
  have q1 : a ≤ s0 := by omega
  have q2 : r0 ≤ m := by omega
  have q3 : r0 ≤ mid := by omega
  have q4 : mid + m ≤ s0 + b := by omega
  have fin' := fun s e => fin ih x a m b mid s0 r0 s e hN1 hN2 hmid h1 h2 hb hk hS1 hS2 hcase
  clear hcase hmid hN1 hN2 ih
  intro M
  induction M with
  | zero =>
    intro st rr z1 z2 z3 z4 z5 z6
    obtain rfl : st = rr := by omega
    obtain ⟨e, he⟩ : ∃ e, st + e = mid + m := ⟨mid + m - st, by omega⟩
    have ew : Aside0 (wrap64 (((mid + m : Nat) : Int) - (st : Int)) = (e : Int)) := ⟨by rw [wrap_sub (by omega) (by omega)]; omega⟩
    by_cases d : st < m
    · obtain ⟨r, v1, v2⟩ := fin' st e z2 z4 he z5 z6 (decide ((m : Int) < (e : Int))) (by
        rw [decide_eq_true_eq]
        exact ⟨fun h => ⟨d, by omega⟩, fun h => by omega⟩)
      rw [← ew.out] at v1
      exact ⟨r, Ev.step (fun _ => slices_symMergeCmpFunc_Note.l4.eq_2 ..) (Ev.neg (by omega) (Ev.pos (by omega) v1)), v2⟩
    · obtain ⟨r, v1, v2⟩ := fin' st e z2 z4 he z5 z6 false (Iff.intro (fun h => by cases h) (fun h => absurd h.1 d))
      rw [← ew.out] at v1
      exact ⟨r, Ev.step (fun _ => slices_symMergeCmpFunc_Note.l4.eq_2 ..) (Ev.neg (by omega) (Ev.neg (by omega) v1)), v2⟩
  | succ M ihM =>
    intro st rr z1 z2 z3 z4 z5 z6
    by_cases hij : st < rr
    · obtain ⟨c, hc0⟩ : ∃ z, (st + rr) / 2 = z := ⟨_, rfl⟩
      have b1 : st ≤ c := by omega
      have b2 : c < rr := by omega
      have hh : Aside0 (wrap64 ((IntKind.u64.wrap (wrap64 ((st : Int) + (rr : Int)))) / 2) = (c : Int)) := ⟨by rw [half (by omega), hc0]⟩
      have g1 : c - st ≤ M := by omega
      have g2 : rr - (c + 1) ≤ M := by omega
      clear hc0 z1
      obtain ⟨p, hp⟩ : ∃ p, c + p + 1 = mid + m := ⟨mid + m - 1 - c, by omega⟩
      have hpc : Aside0 (wrap64 ((pp : Int) - (c : Int)) = (p : Int)) := ⟨by rw [wrap_sub (by omega) (by omega)]; omega⟩
      have c1 : p < x.length := by omega
      have c2 : c < x.length := by omega
      have hc := cmp_ (atN x p) (atN x c) (hk.at c1) (hk.at c2)
      have b3 : a ≤ c := by omega
      have b4 : c < m := by omega
      have b5 : m ≤ p := by omega
      have b6 : p < b := by omega
      by_cases hlt : ky x p < ky x c
      · obtain ⟨r, v1, v2⟩ := ihM st c g1 z2 b1 (by omega) z5 (fun c' p' q0 q1 q2 => by
          by_cases e0 : c' = c
          · obtain rfl : p' = p := by omega
            rw [e0]; exact hlt
          · have w1 := hS1 c c' b3 (by omega) (by omega)
            have w2 := hS2 p' p (by omega) (by omega) b6
            exact Int.lt_of_le_of_lt w2 (Int.lt_of_lt_of_le hlt w1))
        have hlt2 : (atN x p).f0 - (atN x c).f0 < 0 := by unfold ky at hlt; omega
        refine ⟨r, Ev.step (fun _ => slices_symMergeCmpFunc_Note.l4.eq_2 ..) (Ev.pos (by omega) ?_), v2⟩
        rw [hh.out, hpc.out]
        exact Ev.pos (by omega) (Ev.pos (by omega) (Ev.pos (by omega) (Ev.pos (by omega) (Ev.have hc (Ev.pos hlt2 v1)))))
      · obtain ⟨r, v1, v2⟩ := ihM (c + 1) rr g2 (by omega) b2 z4 (fun c' p' q0 q1 q2 => by
          by_cases e0 : c' = c
          · obtain rfl : p' = p := by omega
            rw [e0]; exact Int.not_lt.1 hlt
          · have w1 := hS1 c' c (by omega) (by omega) b4
            have w2 := hS2 p p' b5 (by omega) (by omega)
            exact Int.le_trans w1 (Int.le_trans (Int.not_lt.1 hlt) w2)) z6
        have hlt2 : ¬ (atN x p).f0 - (atN x c).f0 < 0 := by unfold ky at hlt; omega
        refine ⟨r, Ev.step (fun _ => slices_symMergeCmpFunc_Note.l4.eq_2 ..) (Ev.pos (by omega) ?_), v2⟩
        rw [← wrap_succ (by omega)] at v1
        rw [hh.out, hpc.out]
        exact Ev.pos (by omega) (Ev.pos (by omega) (Ev.pos (by omega) (Ev.pos (by omega) (Ev.have hc (Ev.neg hlt2 v1)))))
    · obtain rfl : st = rr := by omega
      exact ihM st st (by omega) z2 (Nat.le_refl _) z4 z5 z6
theorem merge : ∀ N : Nat, Merges N := by
  intro N
  induction N with
  | zero => intro a m b h h1 h2; omega
  | succ N ih =>
    intro a m b hN h1 h2 x hb hk hS1 hS2
    have hl := hk.2
    have e1 : Aside0 (wrap64 ((m : Int) - (a : Int)) = ((m - a : Nat) : Int)) := ⟨wrap_sub (by omega) (by omega)⟩
    have e2 : Aside0 (wrap64 ((b : Int) - (m : Int)) = ((b - m : Nat) : Int)) := ⟨wrap_sub (by omega) (by omega)⟩
    by_cases c1 : m - a = 1
    · obtain rfl : m = a + 1 := by omega
      obtain ⟨r, r1, r2⟩ := first x a b h2 hb hk hS2
      refine ⟨r, Ev.step (fun _ => slices_symMergeCmpFunc_Note.f.eq_2 ..) (Ev.pos ?_ r1), r2⟩
      rw [e1.out]; omega
    by_cases c2 : b - m = 1
    · obtain rfl : b = m + 1 := by omega
      obtain ⟨r, r1, r2⟩ := last x a m h1 hb hk hS1
      refine ⟨r, Ev.step (fun _ => slices_symMergeCmpFunc_Note.f.eq_2 ..) (Ev.neg ?_ (Ev.pos ?_ r1)), r2⟩
      · rw [e1.out]; omega
      · rw [e2.out]; omega
    obtain ⟨mid, hmid⟩ : ∃ z, (a + b) / 2 = z := ⟨_, rfl⟩
    have hm1 : a + 2 ≤ m := by omega
    have hm2 : m + 2 ≤ b := by omega
    have n1 : mid - a ≤ N := by omega
    have n2 : b - mid ≤ N := by omega
    have d1 : Aside0 (¬ wrap64 ((m : Int) - (a : Int)) = 1) := ⟨by rw [e1.out]; omega⟩
    have d2 : Aside0 (¬ wrap64 ((b : Int) - (m : Int)) = 1) := ⟨by rw [e2.out]; omega⟩
    obtain ⟨pp, hpp⟩ : ∃ p, p + 1 = mid + m := ⟨mid + m - 1, by omega⟩
    have hmw : Aside0 (wrap64 ((IntKind.u64.wrap (wrap64 ((a : Int) + (b : Int)))) / 2) = (mid : Int)) := ⟨by rw [half (by omega), hmid]⟩
    have hn : Aside0 (wrap64 ((mid : Int) + (m : Int)) = ((mid + m : Nat) : Int)) := ⟨wrap_add (by omega)⟩
    have hp : Aside0 (wrap64 (((mid + m : Nat) : Int) - 1) = (pp : Int)) := ⟨by rw [wrap_pred (by omega) (by omega)]; omega⟩
    by_cases d : mid < m
    · have hnb : Aside0 (wrap64 (((mid + m : Nat) : Int) - (b : Int)) = ((mid + m - b : Nat) : Int)) := ⟨wrap_sub (by omega) (by omega)⟩
      obtain ⟨r, v1, v2⟩ := search ih x a m b mid (mid + m - b) mid pp hpp n1 n2 hmid h1 h2 hb hk hS1 hS2 (Or.inr ⟨d, rfl, rfl⟩) (mid - (mid + m - b)) (mid + m - b) mid (Nat.le_refl _) (Nat.le_refl _) (by omega) (Nat.le_refl _) (fun c p _ q1 q2 => absurd q1 (by omega)) (fun c p _ q1 q2 => absurd q1 (by omega))
      refine ⟨r, Ev.step (fun _ => slices_symMergeCmpFunc_Note.f.eq_2 ..) (Ev.neg d1.out (Ev.neg d2.out ?_)), v2⟩
      rw [hmw.out, hn.out, hnb.out]
      refine Ev.pos (by omega) (Ev.step (fun _ => slices_symMergeCmpFunc_Note.j4.eq_2 ..) ?_)
      rw [hp.out]
      exact v1
    · obtain ⟨r, v1, v2⟩ := search ih x a m b mid a m pp hpp n1 n2 hmid h1 h2 hb hk hS1 hS2 (Or.inl ⟨by omega, rfl, rfl⟩) (m - a) a m (Nat.le_refl _) (Nat.le_refl _) (by omega) (Nat.le_refl _) (fun c p _ q1 q2 => absurd q1 (by omega)) (fun c p _ q1 q2 => absurd q1 (by omega))
      refine ⟨r, Ev.step (fun _ => slices_symMergeCmpFunc_Note.f.eq_2 ..) (Ev.neg d1.out (Ev.neg d2.out ?_)), v2⟩
      rw [hmw.out, hn.out]
      refine Ev.neg (by omega) (Ev.step (fun _ => slices_symMergeCmpFunc_Note.j4.eq_2 ..) ?_)
      rw [hp.out]
      exact v1

/-! ### the whole sort -/
/-- From a on, rows of s elements each are sorted. -/
inductive Bl (x : List NI) (s n : Nat) : Nat → Prop
  | done {a : Nat} (h : n ≤ a) : Bl x s n a
  | step {a : Nat} (h : Srt x a (min (a + s) n)) (k : Bl x s n (a + s)) : Bl x s n a
/-- Up to a they are. -/
inductive Pr (x : List NI) (s : Nat) : Nat → Prop
  | zero : Pr x s 0
  | step {a : Nat} (k : Pr x s a) (h : Srt x a (a + s)) : Pr x s (a + s)
theorem Bl.same {x y : List NI} {s n a : Nat} (h : Bl x s n a) : (∀ t, a ≤ t → atN y t = atN x t) → Bl y s n a := by
  induction h with
  | done h => exact fun _ => .done h
  | step h _ ih => exact fun e => .step (h.same (fun i h1 _ => e i h1)) (ih (fun t ht => e t (by omega)))
theorem Pr.same {x y : List NI} {s a : Nat} (h : Pr x s a) : (∀ t, t < a → atN y t = atN x t) → Pr y s a := by
  induction h with
  | zero => exact fun _ => .zero
  | step _ h ih => exact fun e => .step (ih (fun t ht => e t (by omega))) (h.same (fun i _ h2 => e i h2))
theorem Pr.join {x : List NI} {s n a : Nat} (h : Pr x s a) : a ≤ n → Bl x s n a → Bl x s n 0 := by
  induction h with
  | zero => exact fun _ b => b
  | step _ h ih => exact fun ha b => ih (by omega) (.step (by rw [Nat.min_eq_left ha]; exact h) b)
theorem Bl.open {x : List NI} {s n a : Nat} (h : Bl x s n a) (ha : a < n) : Srt x a (min (a + s) n) ∧ Bl x s n (a + s) := by
  cases h with
  | done h => omega
  | step h k => exact ⟨h, k⟩
theorem doubled (n s : Nat) (hs : 20 ≤ s) (hsn : s < n) (hn : n ≤ 4398046511104) (ih : ∀ x : List NI, x.length = n → KB x → Bl x (2 * s) n 0 → ∃ r, Ev (fun k => slices_stableCmpFunc_Note.l1 k x (n : Int) ((2 * s : Nat) : Int)) r ∧ r.Perm x ∧ Srt r 0 n) :
    ∀ d a : Nat, n - a ≤ d → a ≤ n → ∀ x : List NI, x.length = n → KB x → Pr x (2 * s) a → Bl x s n a → ∃ r, Ev (fun k => slices_stableCmpFunc_Note.l2 k x (n : Int) (s : Int) (a : Int) ((a + 2 * s : Nat) : Int)) r ∧ r.Perm x ∧ Srt r 0 n := by
  have w1 : Aside0 (wrap64 (2 * (s : Int)) = ((2 * s : Nat) : Int)) := ⟨by rw [wrap_in (by omega) (by omega)]; omega⟩
  have w1' : Aside0 (wrap64 ((s : Int) * 2) = ((2 * s : Nat) : Int)) := ⟨by rw [wrap_in (by omega) (by omega)]; omega⟩
  intro d
  induction d with
  | zero =>
    intro a h1 h2 x hx hk hp hb
    obtain rfl : a = n := by omega
    obtain ⟨r, r1, r2, r3⟩ := ih x hx hk (hp.join (Nat.le_refl _) (.done (Nat.le_refl _)))
    have w2 : Aside0 (wrap64 ((a : Int) + (s : Int)) = ((a + s : Nat) : Int)) := ⟨wrap_add (by omega)⟩
    refine ⟨r, Ev.step (fun _ => slices_stableCmpFunc_Note.l2.eq_2 ..) (Ev.neg (by omega) (Ev.neg ?_ ?_)), r2, r3⟩
    · rw [w2.out]; omega
    · rw [w1'.out]; exact r1
  | succ d ihd =>
    intro a h1 h2 x hx hk hp hb
    have w2 : Aside0 (wrap64 ((a : Int) + (s : Int)) = ((a + s : Nat) : Int)) := ⟨wrap_add (by omega)⟩
    have w3 : Aside0 (wrap64 (((a + 2 * s : Nat) : Int) + ((2 * s : Nat) : Int)) = ((a + 2 * s + 2 * s : Nat) : Int)) := ⟨wrap_add (by omega)⟩
    by_cases c1 : a + 2 * s ≤ n
    · obtain ⟨s1, b1⟩ := hb.open (by omega)
      obtain ⟨s2, b2⟩ := b1.open (by omega)
      rw [Nat.min_eq_left (by omega)] at s1 s2
      obtain ⟨y, y1, y2, y3⟩ := merge _ a (a + s) (a + 2 * s) (Nat.le_refl _) (by omega) (by omega) x (by omega) hk s1 (s2.sub (Nat.le_refl _) (by omega))
      obtain ⟨r, r1, r2, r3⟩ := ihd (a + 2 * s) (by omega) c1 y (y2.1.trans hx) (hk.perm y2.2.1) (.step (hp.same (fun t ht => y2.2.2.1 t (Or.inl ht))) y3) (by
        rw [show a + s + s = a + 2 * s by omega] at b2
        exact b2.same (fun t ht => y2.2.2.1 t (Or.inr ht)))
      refine ⟨r, Ev.step (fun _ => slices_stableCmpFunc_Note.l2.eq_2 ..) (Ev.pos (by omega) ?_), r2.trans y2.2.1, r3⟩
      rw [w2.out, w1.out, w3.out]
      exact Ev.bind y1 r1
    · by_cases c2 : a + s < n
      · obtain ⟨s1, b1⟩ := hb.open (by omega)
        obtain ⟨s2, b2⟩ := b1.open c2
        rw [Nat.min_eq_left (by omega)] at s1
        rw [Nat.min_eq_right (by omega)] at s2
        obtain ⟨y, y1, y2, y3⟩ := merge _ a (a + s) n (Nat.le_refl _) (by omega) c2 x (by omega) hk s1 s2
        obtain ⟨r, r1, r2, r3⟩ := ih y (y2.1.trans hx) (hk.perm y2.2.1) ((hp.same (fun t ht => y2.2.2.1 t (Or.inl ht))).join h2 (.step (by rw [Nat.min_eq_right (by omega)]; exact y3) (.done (by omega))))
        refine ⟨r, Ev.step (fun _ => slices_stableCmpFunc_Note.l2.eq_2 ..) (Ev.neg (by omega) ?_), r2.trans y2.2.1, r3⟩
        rw [w2.out, w1'.out]
        exact Ev.pos (by omega) (Ev.bind y1 r1)
      · obtain ⟨r, r1, r2, r3⟩ := ih x hx hk (hp.join h2 (by
          rcases Nat.lt_or_ge a n with h | h
          · have s1 := (hb.open h).1
            rw [Nat.min_eq_right (by omega)] at s1
            exact .step (by rw [Nat.min_eq_right (by omega)]; exact s1) (.done (by omega))
          · exact .done h))
        refine ⟨r, Ev.step (fun _ => slices_stableCmpFunc_Note.l2.eq_2 ..) (Ev.neg (by omega) ?_), r2, r3⟩
        rw [w2.out, w1'.out]
        exact Ev.neg (by omega) r1
theorem merged (n : Nat) (hn : n ≤ 4398046511104) : ∀ N s : Nat, n - s ≤ N → 20 ≤ s → ∀ x : List NI, x.length = n → KB x → Bl x s n 0 → ∃ r, Ev (fun k => slices_stableCmpFunc_Note.l1 k x (n : Int) (s : Int)) r ∧ r.Perm x ∧ Srt r 0 n := by
  intro N
  induction N with
  | zero =>
    intro s h1 h2 x hx hk hb
    refine ⟨x, Ev.step (fun _ => slices_stableCmpFunc_Note.l1.eq_2 ..) (Ev.neg (by omega) (Ev.some rfl)), List.Perm.refl _, ?_⟩
    rcases Nat.eq_zero_or_pos n with h | h
    · exact fun p q _ _ h3 => by omega
    · have s1 := (hb.open h).1
      rw [Nat.min_eq_right (by omega)] at s1
      exact s1
  | succ N ih =>
    intro s h1 h2 x hx hk hb
    by_cases c : s < n
    · obtain ⟨r, r1, r2⟩ := doubled n s h2 c hn (fun x' hx' hk' hb' => ih (2 * s) (by omega) (by omega) x' hx' hk' hb') n 0 (by omega) (Nat.zero_le _) x hx hk .zero hb
      refine ⟨r, Ev.step (fun _ => slices_stableCmpFunc_Note.l1.eq_2 ..) (Ev.pos (by omega) ?_), r2⟩
      have w1 : wrap64 (2 * (s : Int)) = ((2 * s : Nat) : Int) := by rw [wrap_in (by omega) (by omega)]; omega
      rw [w1]
      rw [Nat.zero_add] at r1
      exact r1
    · exact ih s (by omega) h2 x hx hk hb
theorem blocks (n : Nat) (hn : n ≤ 4398046511104) : ∀ d a : Nat, n - a ≤ d → a ≤ n → ∀ x : List NI, x.length = n → KB x → Pr x 20 a → ∃ r, Ev (fun k => slices_stableCmpFunc_Note.l0 k x (n : Int) 20 (a : Int) ((a + 20 : Nat) : Int)) r ∧ r.Perm x ∧ Srt r 0 n := by
  intro d
  induction d with
  | zero =>
    intro a h1 h2 x hx hk hp
    obtain rfl : a = n := by omega
    obtain ⟨y, y1, y2, y3⟩ := insertion x a a (Nat.le_refl _) (by omega) hk
    obtain ⟨r, r1, r2, r3⟩ := merged a hn _ 20 (Nat.le_refl _) (Nat.le_refl _) y (y2.1.trans hx) (hk.perm y2.2.1) ((hp.same (fun t ht => y2.2.2.1 t (Or.inl ht))).join (Nat.le_refl _) (.done (Nat.le_refl _)))
    exact ⟨r, Ev.step (fun _ => slices_stableCmpFunc_Note.l0.eq_2 ..) (Ev.neg (by omega) (Ev.bind y1 r1)), r2.trans y2.2.1, r3⟩
  | succ d ih =>
    intro a h1 h2 x hx hk hp
    by_cases c : a + 20 ≤ n
    · obtain ⟨y, y1, y2, y3⟩ := insertion x a (a + 20) (by omega) (by omega) hk
      obtain ⟨r, r1, r2, r3⟩ := ih (a + 20) (by omega) c y (y2.1.trans hx) (hk.perm y2.2.1) (.step (hp.same (fun t ht => y2.2.2.1 t (Or.inl ht))) y3)
      refine ⟨r, Ev.step (fun _ => slices_stableCmpFunc_Note.l0.eq_2 ..) (Ev.pos (by omega) (Ev.bind y1 ?_)), r2.trans y2.2.1, r3⟩
      have w : wrap64 (((a + 20 : Nat) : Int) + 20) = ((a + 20 + 20 : Nat) : Int) := wrap_add (a := a + 20) (b := 20) (by omega)
      rw [w]
      exact r1
    · obtain ⟨y, y1, y2, y3⟩ := insertion x a n h2 (by omega) hk
      obtain ⟨r, r1, r2, r3⟩ := merged n hn _ 20 (Nat.le_refl _) (Nat.le_refl _) y (y2.1.trans hx) (hk.perm y2.2.1) ((hp.same (fun t ht => y2.2.2.1 t (Or.inl ht))).join h2 (by
        rcases Nat.lt_or_ge a n with h | h
        · exact .step (by rw [Nat.min_eq_right (by omega)]; exact y3) (.done (by omega))
        · exact .done h))
      exact ⟨r, Ev.step (fun _ => slices_stableCmpFunc_Note.l0.eq_2 ..) (Ev.neg (by omega) (Ev.bind y1 r1)), r2.trans y2.2.1, r3⟩
/-- The stable sort: the same elements, in order. -/
theorem stable (x : List NI) (hk : KB x) : ∃ r, Ev (fun k => slices_SortStableFunc_Note.f k x) r ∧ r.Perm x ∧ Srt r 0 r.length := by
  obtain ⟨r, r1, r2, r3⟩ := blocks x.length hk.2 x.length 0 (by omega) (Nat.zero_le _) x rfl hk .zero
  rw [← r2.length_eq] at r3
  exact ⟨r, Ev.bind r1 (Ev.some rfl), r2, r3⟩
end Go.Proofs.Ytmllkdgdkagkkaa.MMerge
