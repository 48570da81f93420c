/- FnPeople answers true for all bytes. No condition beyond what every row's reading gives. -/
import Derived.Test.YtpdcopbnhaoilaaDoorG0
import Derived.Test.YtpdcopbnhaoilaaDoorG1
import Derived.Test.YtpdcopbnhaoilaaDoorG16
import Derived.Test.YtpdcopbnhaoilaaDoorG17
import Derived.Test.YtpdcopbnhaoilaaDoorG21
import Derived.Test.YtpdcopbnhaoilaaDoorG22
import Derived.Test.YtpdcopbnhaoilaaDoorG23
import Derived.Test.YtpdcopbnhaoilaaDoorG24
import Derived.Test.YtpdcopbnhaoilaaDoorMAll
import Derived.Test.YtpdcopbnhaoilaaDoorMBase
namespace Go.Proofs.YtpdcopbnhaoilaaDoor.Pure
open Go.RowKit Go.Proofs.YtpdcopbnhaoilaaDoor.G Go.Proofs.YtpdcopbnhaoilaaDoorW.PrintWords Go.Proofs.YtpdcopbnhaoilaaDoorW.PrintLast Go.Proofs.YtpdcopbnhaoilaaDoor.MPure Go.Proofs.YtpdcopbnhaoilaaDoor.MWord Go.Proofs.YtpdcopbnhaoilaaDoor.MPerson Go.Proofs.YtpdcopbnhaoilaaDoor.MDraw Go.Proofs.YtpdcopbnhaoilaaDoor.MDrawP Go.Proofs.YtpdcopbnhaoilaaDoor.MQLists Go.Proofs.YtpdcopbnhaoilaaDoor.MQPeople
open Go.Proofs.YtpdcopbnhaoilaaDoor.MCAddPerson (addR Add_i Add_s addR_length ins ins_length ins_at plc plc_le peoR no_person)
open Go.Proofs.YtpdcopbnhaoilaaDoor.MCWhoIs (whoR WhoIs_s WhoIs_i whoR_length)
open Go.Proofs.YtpdcopbnhaoilaaDoor.MPplT (textR PeopleText_s PeopleText_i)

/-! ### the draws -/
theorem DrawAddPerson_ (s : List Int) (hs : Bytes s) : ∃ l n x y z, Ev (fun k => spec_DrawAddPerson.f k s) (l, n, x, y, z) ∧ l.length ≤ 20 ∧ ShortP l ∧ n.size ≤ 100 := by
  obtain ⟨r, a1, d1, e1, hl, hS, p1, q1⟩ := people_ s hs 0 0 (by omega) (by omega)
  obtain ⟨n, a2, d2, e2, hn, p2, q2⟩ := personName_ s hs a1 d1 (by omega) (by omega)
  obtain ⟨x, y, z, a3, d3, e3, _, _⟩ := person_ s hs a2 d2 n (by omega) (by omega)
  exact ⟨r, n, x, y, z, Ev.bind e1 (Ev.have e2 (Ev.have e3 (Ev.some rfl))), hl, hS, hn⟩
theorem DrawOldestFor_ (s : List Int) (hs : Bytes s) : ∃ l a, Ev (fun k => spec_DrawOldestFor.f k s) (l, a) ∧ l.length ≤ 20 ∧ ShortP l := by
  obtain ⟨r, a1, d1, e1, hl, hS, p1, q1⟩ := people_ s hs 0 0 (by omega) (by omega)
  obtain ⟨a, a2, d2, e2, _, _⟩ := letterOf_ s hs a1 d1 (by omega) (by omega)
  exact ⟨r, a, Ev.bind e1 (Ev.have e2 (Ev.some rfl)), hl, hS⟩
theorem DrawWhoIs_ (s : List Int) (hs : Bytes s) : ∃ l a b, Ev (fun k => spec_DrawWhoIs.f k s) (l, a, b) ∧ l.length ≤ 20 ∧ ShortP l := by
  obtain ⟨r, a1, d1, e1, hl, hS, p1, q1⟩ := people_ s hs 0 0 (by omega) (by omega)
  obtain ⟨a, a2, d2, e2, p2, q2⟩ := letterOf_ s hs a1 d1 (by omega) (by omega)
  obtain ⟨b, a3, d3, e3, _, _⟩ := namePlace_ s hs a2 d2 (by omega) (by omega)
  exact ⟨r, a, b, Ev.bind e1 (Ev.have e2 (Ev.have e3 (Ev.some rfl))), hl, hS⟩
theorem DrawPeopleText_ (s : List Int) (hs : Bytes s) : ∃ l, Ev (fun k => spec_DrawPeopleText.f k s) l ∧ l.length ≤ 20 ∧ ShortP l := by
  obtain ⟨r, a1, d1, e1, hl, hS, _, _⟩ := people_ s hs 0 0 (by omega) (by omega)
  exact ⟨r, Ev.bind (f := fun _ t => some t) (Ev.bind e1 (Ev.some rfl)) (Ev.some rfl), hl, hS⟩

/-! ### who is at a place -/
theorem mem_from {α : Type} (p : α → Bool) (z : α) : ∀ (l : List α) (i : Nat) (x : Int), x ∈ MFun.placesFrom p l i ↔ ∃ n : Nat, n < l.length ∧ x = ((i + n : Nat) : Int) ∧ p (l.getD n z) = true
  | [], i, x => by simp [MFun.placesFrom]
  | y :: l, i, x => by
    have ih := mem_from p z l (i + 1) x
    have more : (∃ n : Nat, n < (y :: l).length ∧ x = ((i + n : Nat) : Int) ∧ p ((y :: l).getD n z) = true) ↔ (x = (i : Int) ∧ p y = true) ∨ ∃ n : Nat, n < l.length ∧ x = ((i + 1 + n : Nat) : Int) ∧ p (l.getD n z) = true := by
      constructor
      · rintro ⟨n, h1, h2, h3⟩
        cases n with
        | zero => exact Or.inl ⟨by simpa using h2, by simpa using h3⟩
        | succ n => exact Or.inr ⟨n, by simpa using h1, by omega, by simpa using h3⟩
      · rintro (⟨h1, h2⟩ | ⟨n, h1, h2, h3⟩)
        · exact ⟨0, by simp, by simpa using h1, by simpa using h2⟩
        · exact ⟨n + 1, by simpa using h1, by omega, by simpa using h3⟩
    rw [more, ← ih, MFun.placesFrom]
    by_cases h : p y = true
    · rw [if_pos h, List.mem_cons]
      constructor
      · rintro (h1 | h1)
        · exact Or.inl ⟨h1, h⟩
        · exact Or.inr h1
      · rintro (⟨h1, _⟩ | h1)
        · exact Or.inl h1
        · exact Or.inr h1
    · rw [if_neg h]
      constructor
      · exact Or.inr
      · rintro (⟨_, h1⟩ | h1)
        · exact absurd h1 h
        · exact h1
theorem who_in {l : List PI} {a b x : Int} (h : x ∈ (whoR l a b).1) : ∃ n : Nat, x = (n : Int) ∧ n < l.length ∧ (atP l n).f1 = a ∧ (atP l n).f2 = b := by
  unfold whoR at h
  split at h
  · obtain ⟨n, h1, h2, h3⟩ := (mem_from (impl_WhoIs.p a b) z26 l 0 x).1 h
    have h4 := of_decide_eq_true h3
    exact ⟨n, by omega, h1, h4.1, h4.2⟩
  · exact nomatch h
theorem in_who {l : List PI} {a b : Int} {n : Nat} (hp : peopleB l = true) (ha : 0 ≤ a ∧ a ≤ 25) (hb : 0 ≤ b ∧ b ≤ 9) (hn : n < l.length) (h1 : (atP l n).f1 = a) (h2 : (atP l n).f2 = b) : (n : Int) ∈ (whoR l a b).1 ∧ (whoR l a b).2 = true := by
  unfold whoR
  rw [if_pos ⟨hp, ha, hb⟩]
  exact ⟨(mem_from (impl_WhoIs.p a b) z26 l 0 (n : Int)).2 ⟨n, hn, by omega, decide_eq_true ⟨h1, h2⟩⟩, rfl⟩
theorem rd_mem {l : List Int} {i : Nat} (h : i < l.length) : rd l (i : Int) ∈ l := by
  show l.getD i 0 ∈ l
  rw [List.getD_eq_getElem?_getD, List.getElem?_eq_getElem h]
  exact List.getElem_mem h
theorem drop_rd {l : List Int} {i : Nat} (h : i < l.length) : l.drop i = rd l (i : Int) :: l.drop (i + 1) := by
  rw [List.drop_eq_getElem_cons h]
  congr 1
  show _ = l.getD i 0
  rw [List.getD_eq_getElem?_getD, List.getElem?_eq_getElem h]
  rfl
theorem who_loop (v : List PI) (a b : Int) (hv : v.length ≤ 1000000) : ∀ d i : Nat, i + d = (whoR v a b).1.length → Ev (fun k => laws_FnPeople.l2 k v a b (whoR v a b).1 ((whoR v a b).1.length : Int) (i : Int)) true := by
  have hz := whoR_length v a b
  intro d
  induction d with
  | zero =>
    intro i hi
    exact Ev.step (fun _ => laws_FnPeople.l2.eq_2 ..) (Ev.neg (by omega) (Ev.some rfl))
  | succ d ih =>
    intro i hi
    have h := ih (i + 1) (by omega)
    rw [← wrap_succ (by omega)] at h
    obtain ⟨n, e, hn, h1, h2⟩ := who_in (rd_mem (l := (whoR v a b).1) (i := i) (by omega))
    have g1 : (rd_T26 v (rd (whoR v a b).1 (i : Int))).f1 = a := by rw [e]; exact h1
    have g2 : (rd_T26 v (rd (whoR v a b).1 (i : Int))).f2 = b := by rw [e]; exact h2
    exact Ev.step (fun _ => laws_FnPeople.l2.eq_2 ..) (Ev.pos (by omega) (Ev.pos (by omega) (Ev.pos (by omega) (Ev.pos (by omega) (Ev.pos (by omega) (Ev.pos g1 (Ev.pos g2 h)))))))

/-! ### the oldest -/
/-- b is the place of the oldest with a letter among the first i, or -1. -/
def Old (l : List PI) (a : Int) (i : Nat) (b : Int) : Prop :=
  (b = -1 ∧ ∀ j, j < i → (atP l j).f1 ≠ a) ∨ ∃ n : Nat, b = (n : Int) ∧ n < i ∧ ∀ j, j < i → (atP l j).f1 = a → (atP l n).f3 ≤ (atP l j).f3 ∧ ((atP l j).f3 = (atP l n).f3 → n ≤ j)
theorem oldest_loops (l : List PI) (a : Int) (hn : l.length ≤ 140737488351232) : ∀ d i : Nat, i + d = l.length → ∀ b : Int, Old l a i b →
    ∃ r : Int × Bool, Ev (fun k => spec_OldestFor.l0 k l a b l (l.length : Int) (i : Int)) r ∧ Ev (fun k => impl_OldestFor.l0 k l a b l (l.length : Int) (i : Int)) r ∧ (r.2 = true → Old l a l.length r.1 ∧ 0 ≤ r.1) := by
  intro d
  induction d with
  | zero =>
    intro i hi b h
    by_cases hb : b < 0
    · exact ⟨(0, false), Ev.step (fun _ => spec_OldestFor.l0.eq_2 ..) (Ev.neg (by omega) (Ev.pos hb (Ev.some rfl))), Ev.step (fun _ => impl_OldestFor.l0.eq_2 ..) (Ev.neg (by omega) (Ev.pos hb (Ev.some rfl))), fun h => nomatch h⟩
    · obtain rfl : i = l.length := by omega
      exact ⟨(b, true), Ev.step (fun _ => spec_OldestFor.l0.eq_2 ..) (Ev.neg (by omega) (Ev.neg hb (Ev.some rfl))), Ev.step (fun _ => impl_OldestFor.l0.eq_2 ..) (Ev.neg (by omega) (Ev.neg hb (Ev.some rfl))), fun _ => ⟨h, by show 0 ≤ b; omega⟩⟩
  | succ d ih =>
    intro i hi b h
    have go : ∀ c : Int, Old l a (i + 1) c → ∃ r : Int × Bool, Ev (fun k => spec_OldestFor.l0 k l a c l (l.length : Int) (wrap64 ((i : Int) + 1))) r ∧ Ev (fun k => impl_OldestFor.l0 k l a c l (l.length : Int) (wrap64 ((i : Int) + 1))) r ∧ (r.2 = true → Old l a l.length r.1 ∧ 0 ≤ r.1) := by
      intro c h2
      rw [wrap_succ (by omega)]
      exact ih (i + 1) (by omega) c h2
    have split : ∀ j, j < i + 1 → j < i ∨ j = i := fun j hj => by omega
    by_cases hL : (atP l i).f1 = a
    · rcases h with ⟨rfl, h⟩ | ⟨n, rfl, hn2, h⟩
      · obtain ⟨r, hr, hq, hp⟩ := go (i : Int) (Or.inr ⟨i, rfl, by omega, fun j hj e => by
          rcases split j hj with h1 | rfl
          · exact absurd e (h j h1)
          · exact ⟨Int.le_refl _, fun _ => Nat.le_refl _⟩⟩)
        exact ⟨r, Ev.step (fun _ => spec_OldestFor.l0.eq_2 ..) (Ev.pos (by omega) (Ev.pos (by omega) (Ev.pos (by omega) (Ev.pos hL (Ev.pos (by decide) hr))))), Ev.step (fun _ => impl_OldestFor.l0.eq_2 ..) (Ev.pos (by omega) (Ev.pos (by omega) (Ev.pos (by omega) (Ev.pos hL (Ev.pos (by decide) hq))))), hp⟩
      · by_cases hS : (atP l i).f3 < (atP l n).f3
        · obtain ⟨r, hr, hq, hp⟩ := go (i : Int) (Or.inr ⟨i, rfl, by omega, fun j hj e => by
            rcases split j hj with h1 | rfl
            · have := h j h1 e
              exact ⟨by omega, fun h2 => by omega⟩
            · exact ⟨Int.le_refl _, fun _ => Nat.le_refl _⟩⟩)
          exact ⟨r, Ev.step (fun _ => spec_OldestFor.l0.eq_2 ..) (Ev.pos (by omega) (Ev.pos (by omega) (Ev.pos (by omega) (Ev.pos hL (Ev.neg (by omega) (Ev.pos (by omega) (Ev.pos (by omega) (Ev.pos hS hr)))))))), Ev.step (fun _ => impl_OldestFor.l0.eq_2 ..) (Ev.pos (by omega) (Ev.pos (by omega) (Ev.pos (by omega) (Ev.pos hL (Ev.neg (by omega) (Ev.pos (by omega) (Ev.pos (by omega) (Ev.pos hS hq)))))))), hp⟩
        · obtain ⟨r, hr, hq, hp⟩ := go (n : Int) (Or.inr ⟨n, rfl, by omega, fun j hj e => by
            rcases split j hj with h1 | rfl
            · exact h j h1 e
            · exact ⟨by omega, fun _ => by omega⟩⟩)
          exact ⟨r, Ev.step (fun _ => spec_OldestFor.l0.eq_2 ..) (Ev.pos (by omega) (Ev.pos (by omega) (Ev.pos (by omega) (Ev.pos hL (Ev.neg (by omega) (Ev.pos (by omega) (Ev.pos (by omega) (Ev.neg hS hr)))))))), Ev.step (fun _ => impl_OldestFor.l0.eq_2 ..) (Ev.pos (by omega) (Ev.pos (by omega) (Ev.pos (by omega) (Ev.pos hL (Ev.neg (by omega) (Ev.pos (by omega) (Ev.pos (by omega) (Ev.neg hS hq)))))))), hp⟩
    · obtain ⟨r, hr, hq, hp⟩ := go b (by
        rcases h with ⟨rfl, h⟩ | ⟨n, rfl, hn2, h⟩
        · exact Or.inl ⟨rfl, fun j hj => by
            rcases split j hj with h1 | rfl
            · exact h j h1
            · exact hL⟩
        · exact Or.inr ⟨n, rfl, by omega, fun j hj e => by
            rcases split j hj with h1 | rfl
            · exact h j h1 e
            · exact absurd e hL⟩)
      exact ⟨r, Ev.step (fun _ => spec_OldestFor.l0.eq_2 ..) (Ev.pos (by omega) (Ev.pos (by omega) (Ev.pos (by omega) (Ev.neg hL hr)))), Ev.step (fun _ => impl_OldestFor.l0.eq_2 ..) (Ev.pos (by omega) (Ev.pos (by omega) (Ev.pos (by omega) (Ev.neg hL hq)))), hp⟩
theorem Oldest_both (l : List PI) (hl : SizedP l) (a : Int) : ∃ r : Int × Bool, Ev (fun k => spec_OldestFor.f k l a) r ∧ Ev (fun k => impl_OldestFor.f k l a) r ∧ (r.2 = true → Old l a l.length r.1 ∧ 0 ≤ r.1) := by
  unfold spec_OldestFor.f impl_OldestFor.f
  cases h1 : peopleB l with
  | false =>
    exact ⟨(0, false), Ev.bind (Ev.eq (naGood_ l hl) h1) (Ev.neg (by decide) (Ev.step (fun _ => spec_OldestFor.j0.eq_2 ..) (Ev.pos rfl (Ev.some rfl)))), Ev.bind (Ev.eq (ArePeople_ l hl) h1) (Ev.neg (by decide) (Ev.step (fun _ => impl_OldestFor.j0.eq_2 ..) (Ev.pos rfl (Ev.some rfl)))), fun h => nomatch h⟩
  | true =>
    cases h2 : letterB a with
    | false =>
      have e2 : impl_within.f a 0 25 = some false := (within_ a 0 25).trans (congrArg some h2)
      exact ⟨(0, false), Ev.bind (Ev.eq (naGood_ l hl) h1) (Ev.pos rfl (Ev.have ((naLetter_ a).trans (congrArg some h2)) (Ev.step (fun _ => spec_OldestFor.j0.eq_2 ..) (Ev.pos rfl (Ev.some rfl))))), Ev.bind (Ev.eq (ArePeople_ l hl) h1) (Ev.pos rfl (Ev.have e2 (Ev.step (fun _ => impl_OldestFor.j0.eq_2 ..) (Ev.pos rfl (Ev.some rfl))))), fun h => nomatch h⟩
    | true =>
      have e2 : impl_within.f a 0 25 = some true := (within_ a 0 25).trans (congrArg some h2)
      obtain ⟨r, hr, hq, hp⟩ := oldest_loops l a hl.1 l.length 0 (by omega) (-1) (Or.inl ⟨rfl, fun j hj => by omega⟩)
      exact ⟨r, Ev.bind (Ev.eq (naGood_ l hl) h1) (Ev.pos rfl (Ev.have ((naLetter_ a).trans (congrArg some h2)) (Ev.step (fun _ => spec_OldestFor.j0.eq_2 ..) (Ev.neg (by decide) hr)))), Ev.bind (Ev.eq (ArePeople_ l hl) h1) (Ev.pos rfl (Ev.have e2 (Ev.step (fun _ => impl_OldestFor.j0.eq_2 ..) (Ev.neg (by decide) hq)))), hp⟩

/-! ### who is added -/
theorem add_ok (l : List PI) (p : PI) (h : (addR l p).2 = true) : (addR l p).1.length = l.length + 1 ∧ peopleB (addR l p).1 = true ∧ personB p.f0 p.f1 p.f2 p.f3 = true ∧ ∃ n, n < l.length + 1 ∧ atP (addR l p).1 n = p := by
  unfold addR at h ⊢
  split at h
  · rename_i hl
    unfold peoR at h ⊢
    split at h
    · rename_i hi
      rw [if_pos hl, if_pos hi]
      have hle := plc_le p l
      refine ⟨ins_length l _ p hle, hi, ?_, plc p l, by omega, ?_⟩
      · cases hp : personB p.f0 p.f1 p.f2 p.f3 with
        | true => rfl
        | false => rw [no_person l _ p hle hp] at hi; exact nomatch hi
      · rw [ins_at l _ p hle, if_neg (by omega), if_pos rfl]
    · exact nomatch h
  · exact nomatch h

theorem FnPeople : laws_FnPeople.Pure := by
  intro c m hc hm
  obtain ⟨l, n, x, y, z, e1, l1, S1, hn⟩ := DrawAddPerson_ c hc.1
  obtain ⟨u, a, e2, l2, S2⟩ := DrawOldestFor_ m hm.1
  obtain ⟨v, a3, b3, e3, l3, S3⟩ := DrawWhoIs_ m hm.1
  obtain ⟨t, e4, l4, S4⟩ := DrawPeopleText_ m hm.1
  have z1 := S1.sized (by omega)
  have z2 := S2.sized (by omega)
  have z3 := S3.sized (by omega)
  have z4 := S4.sized (by omega)
  have hn2 : n.size ≤ 140737488351232 := by omega
  have hwv := whoR_length v a3 b3
  -- the last part
  have F6 : Ev (fun k => laws_FnPeople.j6 k m) true := by
    have et : ((textR t).2 != peopleB t) = false := by
      unfold textR
      split
      · rename_i h; rw [h]; rfl
      · rename_i h; rw [Bool.eq_false_iff.2 h]; rfl
    refine Ev.step (fun _ => laws_FnPeople.j6.eq_2 ..) (Ev.bind e3 (Ev.bind (WhoIs_i v z3 (by omega) a3 b3) (Ev.bind (WhoIs_s v z3 (by omega) a3 b3) (Ev.bind e4 (Ev.bind (PeopleText_i t z4) (Ev.bind (PeopleText_s t z4) ?_))))))
    refine Ev.neg (by simp) (Ev.bind (sameInts_ _ (by omega)) (Ev.pos rfl (Ev.neg (by simp) (Ev.pos rfl (Ev.bind (ArePeople_ t z4) ?_)))))
    rw [et]
    exact Ev.step (fun _ => laws_FnPeople.j7.eq_2 ..) (Ev.neg (by decide) (who_loop v a3 b3 (by omega) (whoR v a3 b3).1.length 0 (by omega)))
  have F3 : Ev (fun k => laws_FnPeople.j3 k m) true := by
    obtain ⟨r, hs, hi, hr⟩ := Oldest_both u z2 a
    refine Ev.step (fun _ => laws_FnPeople.j3.eq_2 ..) (Ev.bind e2 (Ev.bind hi (Ev.bind hs (Ev.neg (by simp) ?_))))
    rw [show (r.1 != r.1) = false by simp]
    refine Ev.step (fun _ => laws_FnPeople.j4.eq_2 ..) (Ev.neg (by decide) (Ev.ite (fun h => ?_) (fun _ => F6)))
    obtain ⟨ho, h0⟩ := hr h
    obtain ⟨o, eo, hlt, ho⟩ : ∃ o : Nat, r.1 = (o : Int) ∧ o < u.length ∧ ∀ j, j < u.length → (atP u j).f1 = a → (atP u o).f3 ≤ (atP u j).f3 ∧ ((atP u j).f3 = (atP u o).f3 → o ≤ j) := by
      rcases ho with ⟨h1, _⟩ | h1
      · omega
      · exact h1
    rw [eo]
    have L : ∀ d i : Nat, i + d = u.length → Ev (fun k => laws_FnPeople.l1 k m u a (o : Int) u (u.length : Int) (i : Int)) true := by
      intro d
      induction d with
      | zero =>
        intro i hi
        exact Ev.step (fun _ => laws_FnPeople.l1.eq_2 ..) (Ev.neg (by omega) F6)
      | succ d ih =>
        intro i hi
        have h2 := ih (i + 1) (by omega)
        rw [← wrap_succ (by omega)] at h2
        refine Ev.step (fun _ => laws_FnPeople.l1.eq_2 ..) (Ev.pos (by omega) (Ev.pos (by omega) (Ev.pos (by omega) (Ev.ite (fun hL => ?_) (fun _ => h2)))))
        have hL : (atP u i).f1 = a := hL
        obtain ⟨g1, g2⟩ := ho i (by omega) hL
        have n1 : ¬ (atP u i).f3 < (atP u o).f3 := by omega
        refine Ev.pos (by omega) (Ev.pos (by omega) (Ev.neg n1 (Ev.ite (fun he => ?_) (fun _ => h2))))
        have he : (atP u i).f3 = (atP u o).f3 := he
        have := g2 he
        exact Ev.neg (by omega) h2
    exact L u.length 0 (by omega)
  have hal := addR_length l ⟨n, x, y, z⟩
  -- who was added is found
  have F0 : ∀ q : Bool, (addR l ⟨n, x, y, z⟩).2 = q → Ev (fun k => laws_FnPeople.j0 k m (addR l ⟨n, x, y, z⟩).1 q (addR l ⟨n, x, y, z⟩).1 false n x y z) true := by
    intro q hq
    refine Ev.step (fun _ => laws_FnPeople.j0.eq_2 ..) (Ev.neg (by decide) (Ev.ite (fun h => ?_) (fun _ => F3)))
    obtain ⟨k1, k2, k3, i, hi, k4⟩ := add_ok l ⟨n, x, y, z⟩ (hq.trans h)
    obtain ⟨_, hx, hy, _⟩ := MPplT.person_says k3
    have hy9 : 0 ≤ y ∧ y ≤ 9 := by
      unfold personB placeB at k3
      simp only [Bool.and_eq_true, decide_eq_true_eq] at k3
      exact k3.1.2
    generalize (addR l ⟨n, x, y, z⟩).1 = A at *
    have zA : SizedP A := ⟨by omega, fun w hw => by
      obtain ⟨j, hj, rfl⟩ := List.mem_iff_getElem.1 hw
      have := MPplT.people_one k2 hj
      have e : atP A j = A[j] := by
        unfold atP
        rw [List.getD_eq_getElem?_getD, List.getElem?_eq_getElem hj]
        rfl
      rw [e] at this
      have := (MPplT.person_says this).1
      omega⟩
    obtain ⟨w1, w2⟩ := in_who (l := A) (a := x) (b := y) (n := i) k2 hx hy9 (by omega) (by rw [k4]) (by rw [k4])
    have hwl := whoR_length A x y
    refine Ev.bind (WhoIs_i A zA (by omega) x y) (Ev.bind (WhoIs_s A zA (by omega) x y) (Ev.pos w2 (Ev.pos w2 (Ev.bind (sameInts_ _ (by omega)) ?_))))
    have L : ∀ d j : Nat, j + d = (whoR A x y).1.length → ∀ f : Bool, (f = true ∨ (i : Int) ∈ (whoR A x y).1.drop j) → Ev (fun k => laws_FnPeople.l0 k m A f (whoR A x y).1 ((whoR A x y).1.length : Int) (j : Int) n x y z) true := by
      intro d
      induction d with
      | zero =>
        intro j hj f hf
        rw [List.drop_of_length_le (by omega)] at hf
        rcases hf with rfl | hf
        · exact Ev.step (fun _ => laws_FnPeople.l0.eq_2 ..) (Ev.neg (by omega) (Ev.pos rfl F3))
        · exact nomatch hf
      | succ d ih =>
        intro j hj f hf
        have ih := fun f hf => ih (j + 1) (by omega) f hf
        rw [← wrap_succ (by omega)] at ih
        refine Ev.step (fun _ => laws_FnPeople.l0.eq_2 ..) (Ev.pos (by omega) (Ev.pos (by omega) (Ev.pos (by omega) (Ev.ite (fun h1 => ih true (Or.inl rfl)) (fun h1 => ?_)))))
        obtain ⟨r, er, hr, _, _⟩ := who_in (rd_mem (l := (whoR A x y).1) (i := j) (by omega))
        refine Ev.pos (by omega) (Ev.pos (by omega) (ih _ ?_))
        rw [drop_rd (by omega), List.mem_cons] at hf
        rcases hf with hf | hf | hf
        · exact absurd hf h1
        · refine Or.inl ?_
          rw [← hf]
          have e : rd_T26 A (i : Int) = ⟨n, x, y, z⟩ := k4
          rw [e]
          simp
        · exact Or.inr hf
    refine Ev.step (fun _ => laws_FnPeople.j1.eq_2 ..) (Ev.neg (by decide) (L (whoR A x y).1.length 0 (by omega) false (Or.inr ?_)))
    rw [List.drop_zero]
    exact w1
  unfold laws_FnPeople.f laws_big.f
  refine Ev.rounds ?_
  by_cases hb : (c.length : Int) > 1048576
  · exact Ev.have (by rw [if_pos hb]) (Ev.pos rfl (Ev.some rfl))
  refine Ev.have (by rw [if_neg hb]) (Ev.ite (fun _ => Ev.some rfl) (fun _ => ?_))
  refine Ev.bind e1 (Ev.bind (Add_i l z1 ⟨n, x, y, z⟩ hn2) (Ev.bind (Add_s l z1 ⟨n, x, y, z⟩ hn2) ?_))
  refine Ev.neg (by simp) (Ev.bind (pSamePeople_ _ (by omega)) (Ev.pos rfl (Ev.ite (fun h => ?_) (fun h => ?_))))
  · obtain ⟨k1, k2, k3, _⟩ := add_ok l ⟨n, x, y, z⟩ h
    have zA : SizedP (addR l ⟨n, x, y, z⟩).1 := ⟨by omega, fun w hw => by
      obtain ⟨j, hj, rfl⟩ := List.mem_iff_getElem.1 hw
      have := MPplT.people_one k2 hj
      have e : atP (addR l ⟨n, x, y, z⟩).1 j = (addR l ⟨n, x, y, z⟩).1[j] := by
        unfold atP
        rw [List.getD_eq_getElem?_getD, List.getElem?_eq_getElem hj]
        rfl
      rw [e] at this
      have := (MPplT.person_says this).1
      omega⟩
    refine Ev.pos ?_ (Ev.bind (Ev.eq (ArePeople_ _ zA) k2) (Ev.pos rfl (Ev.bind (Ev.eq (IsPerson_ _ _ _ _ hn2) k3) ?_)))
    · rw [k1, wrap_succ (i := l.length) (by omega)]
    · exact F0 _ rfl
  · exact F0 _ rfl
end Go.Proofs.YtpdcopbnhaoilaaDoor.Pure
