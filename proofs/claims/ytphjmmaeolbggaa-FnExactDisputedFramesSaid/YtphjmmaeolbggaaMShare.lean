/- What notes of two tiers have in common: the spans, their frames, the first one; what the reference finds. -/
import Derived.Test.YtphjmmaeolbggaaG0
import Derived.Test.YtphjmmaeolbggaaG25
import Derived.Test.YtphjmmaeolbggaaG31
import Derived.Test.YtphjmmaeolbggaaG33
import Derived.Test.YtphjmmaeolbggaaMGlossT
namespace Go.Proofs.Ytphjmmaeolbggaa.MShare
open Go.RowKit Go.Proofs.Ytphjmmaeolbggaa.G Go.Proofs.YtphjmmaeolbggaaW.PrintWords Go.Proofs.YtphjmmaeolbggaaW.PrintLast Go.Proofs.Ytphjmmaeolbggaa.MPure Go.Proofs.Ytphjmmaeolbggaa.MWord Go.Proofs.Ytphjmmaeolbggaa.MNote Go.Proofs.Ytphjmmaeolbggaa.MGlossT

theorem l1Most_ (a b : Int) : spec_l1Most.f a b = some (mx a b) := by
  unfold spec_l1Most.f mx
  by_cases h : a > b
  · rw [if_pos h]; congr 1; split <;> omega
  · rw [if_neg h]; congr 1; split <;> omega
theorem l1Least_ (a b : Int) : spec_l1Least.f a b = some (mn a b) := by
  unfold spec_l1Least.f mn
  by_cases h : a < b
  · rw [if_pos h]; congr 1; split <;> omega
  · rw [if_neg h]; congr 1; split <;> omega
abbrev DI := S101
def shareB (q : Bool → Bool) (n m : NI) : Bool := decide (mx n.f0 m.f0 < mn n.f1 m.f1) && q (n.f2.toList == m.f2.toList)
def share1 (q : Bool → Bool) (n m : NI) : Option DI := if shareB q n m = true then some ⟨mx n.f0 m.f0, mn n.f1 m.f1⟩ else none
def shareIn (q : Bool → Bool) (n : NI) (y : List NI) : List DI := y.filterMap (share1 q n)
def share (q : Bool → Bool) (x y : List NI) : List DI := x.flatMap (fun n => shareIn q n y)
theorem shareIn_length (q : Bool → Bool) (n : NI) (y : List NI) : (shareIn q n y).length ≤ y.length := List.length_filterMap_le _ _
theorem share_length (q : Bool → Bool) (x y : List NI) : (share q x y).length ≤ x.length * y.length := by
  induction x with
  | nil => simp [share]
  | cons n x ih =>
    have h1 := shareIn_length q n y
    have e : (share q (n :: x) y).length = (shareIn q n y).length + (share q x y).length := by simp [share]
    rw [e, List.length_cons, Nat.succ_mul]
    omega
theorem share_bound (q : Bool → Bool) (x y : List NI) (hx : x.length ≤ 40) (hy : y.length ≤ 40) : (share q x y).length ≤ 1600 := Nat.le_trans (share_length q x y) (Nat.mul_le_mul hx hy)
theorem atN_eq (l : List NI) (i : Nat) (h : i < l.length) : atN l i = l[i] := by
  unfold atN
  rw [List.getD_eq_getElem?_getD, List.getElem?_eq_getElem h]
  rfl
theorem share_take (q : Bool → Bool) (x y : List NI) (i : Nat) (h : i < x.length) : share q (x.take (i + 1)) y = share q (x.take i) y ++ shareIn q (atN x i) y := by
  unfold share
  rw [atN_eq x i h, List.take_succ_eq_append_getElem h, List.flatMap_append]
  simp
theorem shareIn_take_yes (q : Bool → Bool) (n : NI) (y : List NI) (j : Nat) (h : j < y.length) (hs : shareB q n (atN y j) = true) : shareIn q n (y.take (j + 1)) = shareIn q n (y.take j) ++ [⟨mx n.f0 (atN y j).f0, mn n.f1 (atN y j).f1⟩] := by
  unfold shareIn
  rw [atN_eq y j h] at hs ⊢
  rw [List.take_succ_eq_append_getElem h, List.filterMap_append]
  congr 1
  simp [share1, hs]
theorem shareIn_take_no (q : Bool → Bool) (n : NI) (y : List NI) (j : Nat) (h : j < y.length) (hs : shareB q n (atN y j) = false) : shareIn q n (y.take (j + 1)) = shareIn q n (y.take j) := by
  unfold shareIn
  rw [atN_eq y j h] at hs
  rw [List.take_succ_eq_append_getElem h, List.filterMap_append]
  simp [share1, hs]
theorem tier_short {l : List NI} (h : tierB l = true) : l.length ≤ 40 := by
  simp only [tierB, Bool.and_eq_true, decide_eq_true_eq] at h
  omega

/-! ### sums and the first -/
def fr (l : List DI) : Int := l.foldl (fun s d => wrap64 (s + wrap64 (d.f1 - d.f0))) 0
theorem fr_append (l : List DI) (d : DI) : fr (l ++ [d]) = wrap64 (fr l + wrap64 (d.f1 - d.f0)) := by simp [fr]
def fst (l : List DI) : Int := match l with | [] => -1 | d :: _ => d.f0
def Pos (l : List DI) : Prop := ∀ d, d ∈ l → 0 ≤ d.f0
theorem fst_append (l : List DI) (hl : Pos l) (d : DI) : fst (l ++ [d]) = if fst l < 0 then d.f0 else fst l := by
  cases l with
  | nil => rfl
  | cons a l =>
    have := hl a (by simp)
    show a.f0 = if a.f0 < 0 then d.f0 else a.f0
    rw [if_neg (by omega)]
theorem framesOf_ (l : List DI) (hl : l.length ≤ 140737488351232) : Ev (fun k => impl_framesOf.f k l) (fr l) := by
  have key : ∀ d i : Nat, i + d = l.length → Ev (fun k => impl_framesOf.l0 k (fr (l.take i)) l (l.length : Int) (i : Int)) (fr l) := by
    intro d
    induction d with
    | zero =>
      intro i hi
      rw [List.take_of_length_le (by omega)]
      exact Ev.step (fun _ => impl_framesOf.l0.eq_2 ..) (Ev.neg (by omega) (Ev.some rfl))
    | succ d ih =>
      intro i hi
      have h := ih (i + 1) (by omega)
      have e : rd_T101 l (i : Int) = l[i]'(by omega) := by
        show l.getD i z101 = _
        rw [List.getD_eq_getElem?_getD, List.getElem?_eq_getElem (by omega)]
        rfl
      rw [List.take_succ_eq_append_getElem (show i < l.length by omega), fr_append, ← e, ← wrap_succ (by omega)] at h
      exact Ev.step (fun _ => impl_framesOf.l0.eq_2 ..) (Ev.pos (by omega) (Ev.pos (by omega) (Ev.pos (by omega) h)))
  exact key l.length 0 (by omega)

/-! ### the reference -/
def yesQ (b : Bool) : Bool := b
def notQ (b : Bool) : Bool := !b
theorem meBoth_ (x y : List NI) (hx : Sized x) (hy : Sized y) : Ev (fun k => spec_meBoth.f k x y) (tierB x && tierB y) := by
  unfold spec_meBoth.f
  refine Ev.bind (tiGood_ x hx) (Ev.ite (fun h1 => ?_) (fun h1 => Ev.some (by simp [h1])))
  exact Ev.bind (tiGood_ y hy) (Ev.some (by simp [h1]))
theorem mx_ge (a b : Int) (h : 0 ≤ a) : 0 ≤ mx a b := by unfold mx; split <;> omega
theorem shareIn_pos {q : Bool → Bool} {n : NI} (hn : 0 ≤ n.f0) (y : List NI) : Pos (shareIn q n y) := by
  intro d hd
  obtain ⟨m, _, hm⟩ := List.mem_filterMap.1 hd
  unfold share1 at hm
  split at hm
  · obtain rfl := Option.some.inj hm
    exact mx_ge _ _ hn
  · cases hm
theorem share_pos {q : Bool → Bool} {x : List NI} (hx : ∀ n, n ∈ x → 0 ≤ n.f0) (y : List NI) : Pos (share q x y) := by
  intro d hd
  obtain ⟨n, hn, hd⟩ := List.mem_flatMap.1 hd
  exact shareIn_pos (hx n hn) y d hd
theorem shared_in (x y : List NI) (tx : tierB x = true) (ty : tierB y = true) (i : Nat) (hi : i < x.length) (r : Int × Int × Int)
    (hn : Ev (fun k => spec_meShared.l0 k y (fr (share yesQ (x.take (i + 1)) y)) (fr (share notQ (x.take (i + 1)) y)) (fst (share notQ (x.take (i + 1)) y)) x (x.length : Int) ((i + 1 : Nat) : Int)) r) :
    ∀ e j : Nat, j + e = y.length → Ev (fun k => spec_meShared.l1 k y (fr (share yesQ (x.take i) y ++ shareIn yesQ (atN x i) (y.take j))) (fr (share notQ (x.take i) y ++ shareIn notQ (atN x i) (y.take j))) (fst (share notQ (x.take i) y ++ shareIn notQ (atN x i) (y.take j))) x (x.length : Int) (i : Int) y (y.length : Int) (j : Int) (atN x i).f0 (atN x i).f1 (atN x i).f2) r := by
  have sx := tier_short tx
  have sy := tier_short ty
  have bx := tier_bounds tx (atN_mem hi)
  have px : ∀ n, n ∈ x.take i → 0 ≤ n.f0 := fun n hn => (tier_bounds tx (List.mem_of_mem_take hn)).1
  intro e
  induction e with
  | zero =>
    intro j hj
    rw [share_take _ x y i hi, share_take _ x y i hi, ← wrap_succ (by omega)] at hn
    rw [List.take_of_length_le (l := y) (by omega)]
    exact Ev.step (fun _ => spec_meShared.l1.eq_2 ..) (Ev.neg (by omega) hn)
  | succ e ih =>
    intro j hj
    have h := ih (j + 1) (by omega)
    rw [← wrap_succ (by omega)] at h
    have by' := tier_bounds ty (atN_mem (l := y) (i := j) (by omega))
    have hw : wrap64 (mn (atN x i).f1 (atN y j).f1 - mx (atN x i).f0 (atN y j).f0) ≤ 0 ↔ ¬ (mx (atN x i).f0 (atN y j).f0 < mn (atN x i).f1 (atN y j).f1) := by
      rw [wrap_in (by unfold mx mn; split <;> split <;> omega) (by unfold mx mn; split <;> split <;> omega)]
      omega
    refine Ev.step (fun _ => spec_meShared.l1.eq_2 ..) (Ev.pos (by omega) (Ev.pos (by omega) (Ev.pos (by omega) (Ev.have (l1Most_ _ _) (Ev.have (l1Least_ _ _) (Ev.have (l1Most_ _ _) ?_))))))
    refine Ev.ite (fun h1 => ?_) (fun h1 => Ev.ite (fun h2 => ?_) (fun h2 => ?_))
    · have hno : ∀ q : Bool → Bool, shareB q (atN x i) (atN y j) = false := fun q => by
        have := hw.1 h1
        simp [shareB, this]
      rw [shareIn_take_no yesQ _ y j (by omega) (hno _), shareIn_take_no notQ _ y j (by omega) (hno _)] at h
      exact h
    · have hlt := Classical.not_not.1 (fun hc => h1 (hw.2 hc))
      have hy1 : shareB yesQ (atN x i) (atN y j) = true := by
        have h2' : (atN x i).f2.toList = (atN y j).f2.toList := h2
        simp [shareB, hlt, yesQ, h2']
      have hn1 : shareB notQ (atN x i) (atN y j) = false := by
        have h2' : (atN x i).f2.toList = (atN y j).f2.toList := h2
        simp [shareB, notQ, h2']
      rw [shareIn_take_yes yesQ _ y j (by omega) hy1, shareIn_take_no notQ _ y j (by omega) hn1, ← List.append_assoc, fr_append] at h
      exact h
    · have hlt := Classical.not_not.1 (fun hc => h1 (hw.2 hc))
      have hy1 : shareB yesQ (atN x i) (atN y j) = false := by
        have h2' : ¬ (atN x i).f2.toList = (atN y j).f2.toList := h2
        simp [shareB, yesQ, h2']
      have hn1 : shareB notQ (atN x i) (atN y j) = true := by
        have h2' : ¬ (atN x i).f2.toList = (atN y j).f2.toList := h2
        simp [shareB, hlt, notQ, h2']
      have hp : Pos (share notQ (x.take i) y ++ shareIn notQ (atN x i) (y.take j)) := fun d hd => by
        rcases List.mem_append.1 hd with hd | hd
        · exact share_pos px y d hd
        · exact shareIn_pos bx.1 _ d hd
      rw [shareIn_take_no yesQ _ y j (by omega) hy1, shareIn_take_yes notQ _ y j (by omega) hn1, ← List.append_assoc, fr_append, fst_append _ hp] at h
      refine Ev.ite (fun h3 => ?_) (fun h3 => ?_)
      · rw [if_pos h3] at h
        exact h
      · rw [if_neg h3] at h
        exact h
theorem meShared_ (x y : List NI) (tx : tierB x = true) (ty : tierB y = true) : Ev (fun k => spec_meShared.f k x y) (fr (share yesQ x y), fr (share notQ x y), fst (share notQ x y)) := by
  have sx := tier_short tx
  have key : ∀ d i : Nat, i + d = x.length → Ev (fun k => spec_meShared.l0 k y (fr (share yesQ (x.take i) y)) (fr (share notQ (x.take i) y)) (fst (share notQ (x.take i) y)) x (x.length : Int) (i : Int)) (fr (share yesQ x y), fr (share notQ x y), fst (share notQ x y)) := by
    intro d
    induction d with
    | zero =>
      intro i hi
      rw [List.take_of_length_le (by omega)]
      exact Ev.step (fun _ => spec_meShared.l0.eq_2 ..) (Ev.neg (by omega) (Ev.some rfl))
    | succ d ih =>
      intro i hi
      have h := shared_in x y tx ty i (by omega) _ (ih (i + 1) (by omega)) y.length 0 (by omega)
      have e0 : ∀ q, share q (x.take i) y ++ shareIn q (atN x i) (y.take 0) = share q (x.take i) y := fun q => by simp [shareIn]
      rw [e0, e0] at h
      exact Ev.step (fun _ => spec_meShared.l0.eq_2 ..) (Ev.pos (by omega) (Ev.pos (by omega) (Ev.pos (by omega) h)))
  exact key x.length 0 (by omega)
end Go.Proofs.Ytphjmmaeolbggaa.MShare
