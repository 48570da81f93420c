-- Written by this session's own program over the kit's print (wip/tools/myprint.py); Lean checks it.
import Derived.Test.YtphjmmaeolbggaaG0
import Derived.Test.YtphjmmaeolbggaaG2
import Derived.Test.YtphjmmaeolbggaaG5
import Derived.Test.YtphjmmaeolbggaaG6
import Derived.Test.YtphjmmaeolbggaaG7
import Derived.Test.YtphjmmaeolbggaaG12
import Derived.Test.YtphjmmaeolbggaaG14
import Derived.Test.YtphjmmaeolbggaaMOwn
import Derived.Test.YtphjmmaeolbggaaMReg
namespace Go.Proofs.Ytphjmmaeolbggaa.G
open Go.RowKit Go.Proofs.YtphjmmaeolbggaaW.PrintWords Go.Proofs.YtphjmmaeolbggaaW.PrintLast Go.Proofs.YtphjmmaeolbggaaW.PrintMore
attribute [local go_sem] max2_int min2_int max_two min_two max_three min_three max_four min_four str_geq str_gtr str_leq   -- for this text's walks alone
set_option linter.unusedVariables false
set_option linter.unusedSimpArgs false

/-! ### impl_RenamePerson: function 31 -/
/-- Whether a person has a letter and a place. -/
def impl_RenamePerson.p (a1 a2 : Int) (x : S69) : Bool := decide (x.f1 = a1 ∧ x.f2 = a2)
def impl_RenamePerson.f (k : Nat) (l0 : List S69) (a1 : Int) (a2 : Int) (a3 : Int) (a4 : Int) : Option (List S69 × Bool) := (impl_ArePeople.f k l0).bind fun t => if t = true ∧ (0 ≤ a1 ∧ a1 ≤ wrap64 ((l0.length : Int) - 1)) ∧ (0 ≤ a2 ∧ a2 ≤ 25) ∧ (0 ≤ a3 ∧ a3 ≤ 9) ∧ (1800 ≤ a4 ∧ a4 ≤ 2200) then (if a4 < (rd_T69 l0 a1).f3 ∨ l0.any (impl_RenamePerson.p a2 a3) = true then some ([], false) else if l0.length * 40 ≤ 140737488355328 then some (l0.set a1.toNat ⟨(rd_T69 l0 a1).f0, a2, a3, a4⟩, true) else none) else some ([], false)
theorem impl_RenamePerson.mono : ∀ a0 a1 a2 a3 a4 k, LeO (impl_RenamePerson.f k a0 a1 a2 a3 a4) (impl_RenamePerson.f (k + 1) a0 a1 a2 a3 a4) := fun a0 _ _ _ _ k => LeO.bind (impl_ArePeople.mono a0 k) (fun _ => LeO.refl _)
theorem impl_RenamePerson.win (a b c : Int) : impl_within.f a b c = some (decide (b ≤ a ∧ a ≤ c)) := by
  unfold impl_within.f
  by_cases h : a ≥ b
  · rw [if_pos h]; simp [show b ≤ a from h]
  · rw [if_neg h]; simp [show ¬ b ≤ a from h]
theorem impl_RenamePerson.year (a : Int) : impl_isYear.f a = some (decide (1800 ≤ a ∧ a ≤ 2200)) := by
  unfold impl_isYear.f
  rw [impl_RenamePerson.win]
  rfl
theorem impl_RenamePerson.test (a1 a2 : Int) (x : S69) : impl_Person_clashes.f x.f0 x.f1 x.f2 x.f3 a1 a2 = some (impl_RenamePerson.p a1 a2 x) := by
  unfold impl_Person_clashes.f impl_RenamePerson.p
  by_cases h : x.f1 = a1
  · rw [if_pos h]; simp [h, Bool.beq_eq_decide_eq]
  · rw [if_neg h]; simp [h]
set_option maxHeartbeats 4000000 in
set_option maxRecDepth 100000 in
theorem impl_RenamePerson.pred (a1 a2 : Int) (B C : Nat) (w : World) (hB : B < w.heap.size) (hC : C < w.heap.size) (hb0 : w.cell? ⟨B, 0, none⟩ = some (.int .i64 a1)) (hc0 : w.cell? ⟨C, 0, none⟩ = some (.int .i64 a2)) (W : World) (x : S69) (hb : Below w.heap.size w W) :
    Calls Try.prog 81 (#[.agg #[.string x.f0, .int .i64 x.f1, .int .i64 x.f2, .int .i64 x.f3]] ++ #[.pointer (some ⟨B, 0, none⟩), .pointer (some ⟨C, 0, none⟩)]) W fun e w' => e = .returned (.bool (impl_RenamePerson.p a1 a2 x)) ∧ Below w.heap.size w w' := by
  have hb1 : W.cell? ⟨B, 0, none⟩ = some (.int .i64 a1) := (hb.cell (p := ⟨B, 0, none⟩) hB).trans hb0
  have hc1 : W.cell? ⟨C, 0, none⟩ = some (.int .i64 a2) := (hb.cell (p := ⟨C, 0, none⟩) hC).trans hc0
  have hBW : B < W.heap.size := Nat.lt_of_lt_of_le hB hb.size
  have hne : B ≠ W.heap.size := by omega
  have hCW : C < W.heap.size := Nat.lt_of_lt_of_le hC hb.size
  have hne2 : C ≠ W.heap.size := by omega
  have HT := impl_RenamePerson.test a1 a2 x
  have HB := Aside0.mk hb
  clear hb0 hc0 hb hB hC
  generalize impl_RenamePerson.p a1 a2 x = q at HT ⊢
  have HT' := Aside0.mk HT
  clear HT
  show Calls Try.prog 81 #[.agg #[.string x.f0, .int .i64 x.f1, .int .i64 x.f2, .int .i64 x.f3], .pointer (some ⟨B, 0, none⟩), .pointer (some ⟨C, 0, none⟩)] W _
  go_enter Try.func81, Try.ntmps81
  go_wp2_with (go_at_call 64; refine (impl_Person_clashes.calls _ _ _ _ _ _ _ _ HT'.out).mono ?_; rintro e w' ⟨rfl, hb2⟩; have HB2 := Aside0.mk hb2; clear hb2)
  go_ret
  exact ⟨rfl, (HB.out.alloc HB.out.size _).trans (HB2.out.mono (by simp; exact Nat.le_succ_of_le HB.out.size))⟩
set_option maxHeartbeats 8000000 in
set_option maxRecDepth 100000 in
theorem impl_RenamePerson.calls (k : Nat) (A0 : Option Addr) (c0 : Nat) (l0 : List S69) (a1 : Int) (a2 : Int) (a3 : Int) (a4 : Int) (r1 : List S69) (r2 : Bool) (w : World) (hr0 : Kd.C k69 w A0 l0.length l0) (hc0 : l0.length ≤ c0) (h : impl_RenamePerson.f k l0 a1 a2 a3 a4 = some (r1, r2)) :
    Calls Try.prog 31 #[.slice A0 l0.length c0, .int .i64 a1, .int .i64 a2, .int .i64 a3, .int .i64 a4] w fun e w' => ∃ v0_ : Value, e = .returned (.tuple #[v0_, .bool r2]) ∧ Kd.R k69 69 w' w.heap.size (fun _ => True) v0_ r1 ∧ Below w.heap.size w w' := by
  have hreg := MReg.here
  clear hreg
  obtain ⟨t, ht, h⟩ := Option.bind_eq_some_iff.mp h
  have eg : ∀ args w, (callFunc 81 args).run Try.prog w = .ok (.enter 81 args) w := goes_in Try.func81 (by kernel_rfl) rfl
  obtain ⟨w1, hw1⟩ : ∃ w1, w1 = (w.alloc (.cells #[.int .i64 a2] 3)).alloc (.cells #[.int .i64 a3] 3) := ⟨_, rfl⟩
  have HW := Aside0.mk (show Below w.heap.size w w1 by rw [hw1]; exact ((Below.refl _ w).alloc (Nat.le_refl _) (.cells #[.int .i64 a2] 3)).alloc (by simp) (.cells #[.int .i64 a3] 3))
  have HSZ := Aside0.mk (show w1.heap.size = w.heap.size + 2 by rw [hw1]; simp)
  have HCA := Aside0.mk (show w1.cell? ⟨w.heap.size, 0, none⟩ = some (.int .i64 a2) by rw [hw1, World.cell?_alloc_lt _ _ _ (by simp)]; simp)
  have HCB := Aside0.mk (show w1.cell? ⟨w.heap.size + 1, 0, none⟩ = some (.int .i64 a3) by rw [hw1]; simp)
  have HT := Aside0.mk (impl_ArePeople.calls k A0 c0 l0 t w1 (Kd.C_below hr0 HW.out) hc0 ht)
  have HR := Aside0.mk (Kd.C_below hr0 HW.out)
  have HL := Aside0.mk hr0.2.1
  have HTH := Aside0.mk (fun (W : World) (hb : Below w1.heap.size w1 W) =>
    slices_ContainsFunc_Person.with (impl_RenamePerson.p a2 a3) 81 #[.pointer (some ⟨w.heap.size, 0, none⟩), .pointer (some ⟨w.heap.size + 1, 0, none⟩)] eg A0 c0 l0 W (Kd.C_below HR.out hb)
      (fun W2 x hb2 => impl_RenamePerson.pred a2 a3 w.heap.size (w.heap.size + 1) W (Nat.lt_of_lt_of_le (by have := HSZ.out; omega) hb.size) (Nat.lt_of_lt_of_le (by have := HSZ.out; omega) hb.size) ((hb.cell (p := ⟨w.heap.size, 0, none⟩) (by have := HSZ.out; show w.heap.size < _; omega)).trans HCA.out) ((hb.cell (p := ⟨w.heap.size + 1, 0, none⟩) (by have := HSZ.out; show w.heap.size + 1 < _; omega)).trans HCB.out) W2 x hb2))
  have HCC := Aside0.mk hc0
  clear ht hr0 hc0 eg
  go_enter Try.func31, Try.ntmps31
  go_wp2_with fail
  rw [← hw1]
  refine HT.out.mono ?_
  clear HT hw1
  rintro e wa ⟨rfl, hb⟩
  have HB := Aside0.mk hb
  have HCA2 := Aside0.mk HCA.out
  have HCB2 := Aside0.mk HCB.out
  have hca := (hb.cell (p := ⟨w.heap.size, 0, none⟩) (by have := HSZ.out; show w.heap.size < _; omega)).trans HCA.out
  have hcb := (hb.cell (p := ⟨w.heap.size + 1, 0, none⟩) (by have := HSZ.out; show w.heap.size + 1 < _; omega)).trans HCB.out
  clear hb HCA HCB
  cases t with
  | false =>
    simp only [Bool.false_eq_true, false_and, if_false, Option.some.injEq, Prod.mk.injEq] at h
    obtain ⟨rfl, rfl⟩ := h
    go_wp2
    go_ret2
    exact ⟨_, rfl, Kd.R_nil _ _ _ _ _, HW.out.trans (HB.out.mono HW.out.size)⟩
  | true =>
    have H1 := Aside0.mk (impl_RenamePerson.win a1 0 (wrap64 ((l0.length : Int) - 1)))
    have H2 := Aside0.mk (impl_RenamePerson.win a2 0 25)
    have H3 := Aside0.mk (impl_RenamePerson.win a3 0 9)
    have H4 := Aside0.mk (impl_RenamePerson.year a4)
    by_cases h1 : 0 ≤ a1 ∧ a1 ≤ wrap64 ((l0.length : Int) - 1)
    case neg =>
      rw [decide_eq_false h1] at H1
      simp only [h1, false_and, and_false, if_false, Option.some.injEq, Prod.mk.injEq] at h
      obtain ⟨rfl, rfl⟩ := h
      clear h1
      go_wp2_with (go_at_call 61; (with_reducible refine (impl_within.calls _ _ _ _ _ H1.out).mono ?_); rintro e wb ⟨rfl, ⟨nd, rfl⟩⟩)
      go_ret2
      exact ⟨_, rfl, Kd.R_nil _ _ _ _ _, HW.out.trans (Below.mono (by repeat (first | (with_reducible first | exact HB.out | apply pw_below_drewN | apply below_drew1) | exact HB.out)) HW.out.size)⟩
    rw [decide_eq_true h1] at H1
    by_cases h2 : 0 ≤ a2 ∧ a2 ≤ 25
    case neg =>
      rw [decide_eq_false h2] at H2
      simp only [h2, false_and, and_false, if_false, Option.some.injEq, Prod.mk.injEq] at h
      obtain ⟨rfl, rfl⟩ := h
      clear h1 h2
      go_wp2_with (first | (go_at_call 61; (with_reducible refine (impl_within.calls _ _ _ _ _ H1.out).mono ?_); rintro e wb ⟨rfl, ⟨nd, rfl⟩⟩) | (go_at_call 61; (with_reducible refine (impl_within.calls _ _ _ _ _ H2.out).mono ?_); rintro e wb ⟨rfl, ⟨nd, rfl⟩⟩))
      go_ret2
      exact ⟨_, rfl, Kd.R_nil _ _ _ _ _, HW.out.trans (Below.mono (by repeat (first | (with_reducible first | exact HB.out | apply pw_below_drewN | apply below_drew1) | exact HB.out)) HW.out.size)⟩
    rw [decide_eq_true h2] at H2
    by_cases h3 : 0 ≤ a3 ∧ a3 ≤ 9
    case neg =>
      rw [decide_eq_false h3] at H3
      simp only [h3, false_and, and_false, if_false, Option.some.injEq, Prod.mk.injEq] at h
      obtain ⟨rfl, rfl⟩ := h
      clear h1 h2 h3
      go_wp2_with (first | (go_at_call 61; (with_reducible refine (impl_within.calls _ _ _ _ _ H1.out).mono ?_); rintro e wb ⟨rfl, ⟨nd, rfl⟩⟩) | (go_at_call 61; (with_reducible refine (impl_within.calls _ _ _ _ _ H2.out).mono ?_); rintro e wb ⟨rfl, ⟨nd, rfl⟩⟩) | (go_at_call 61; (with_reducible refine (impl_within.calls _ _ _ _ _ H3.out).mono ?_); rintro e wb ⟨rfl, ⟨nd, rfl⟩⟩))
      go_ret2
      exact ⟨_, rfl, Kd.R_nil _ _ _ _ _, HW.out.trans (Below.mono (by repeat (first | (with_reducible first | exact HB.out | apply pw_below_drewN | apply below_drew1) | exact HB.out)) HW.out.size)⟩
    rw [decide_eq_true h3] at H3
    by_cases h4 : 1800 ≤ a4 ∧ a4 ≤ 2200
    case neg =>
      rw [decide_eq_false h4] at H4
      simp only [h4, and_false, if_false, Option.some.injEq, Prod.mk.injEq] at h
      obtain ⟨rfl, rfl⟩ := h
      clear h1 h2 h3 h4
      go_wp2_with (first | (go_at_call 61; (with_reducible refine (impl_within.calls _ _ _ _ _ H1.out).mono ?_); rintro e wb ⟨rfl, ⟨nd, rfl⟩⟩) | (go_at_call 61; (with_reducible refine (impl_within.calls _ _ _ _ _ H2.out).mono ?_); rintro e wb ⟨rfl, ⟨nd, rfl⟩⟩) | (go_at_call 61; (with_reducible refine (impl_within.calls _ _ _ _ _ H3.out).mono ?_); rintro e wb ⟨rfl, ⟨nd, rfl⟩⟩) | (go_at_call 79; (with_reducible refine (impl_isYear.calls _ _ _ H4.out).mono ?_); rintro e wb ⟨rfl, ⟨nd, rfl⟩⟩))
      go_ret2
      exact ⟨_, rfl, Kd.R_nil _ _ _ _ _, HW.out.trans (Below.mono (by repeat (first | (with_reducible first | exact HB.out | apply pw_below_drewN | apply below_drew1) | exact HB.out)) HW.out.size)⟩
    rw [decide_eq_true h4] at H4
    simp only [h1, h2, h3, h4, and_self, if_true] at h
    have hlen : a1 < (l0.length : Int) := by have := HL.out; have := h1.2; unfold wrap64 at this; omega
    have h10 := h1.1
    clear h1 h2 h3 h4
    have P1 := Aside0.mk h10
    have Q1 := Aside0.mk hlen
    obtain ⟨ad, e, hx0, hx1, hx2, hx3⟩ := at_T69 (Kd.C_below HR.out HB.out) a1 h10 hlen
    cases e
    have p1 := eq_true h10
    have q1 := eq_true hlen
    clear h10 hlen
    by_cases hy : a4 < (rd_T69 l0 a1).f3
    · simp only [hy, true_or, if_true, Option.some.injEq, Prod.mk.injEq] at h
      obtain ⟨rfl, rfl⟩ := h
      have b1 : decide (a4 < (rd_T69 l0 a1).f3) = true := decide_eq_true hy
      clear hy
      go_wp2_with (first | (go_at_call 61; (with_reducible refine (impl_within.calls _ _ _ _ _ H1.out).mono ?_); rintro e wb ⟨rfl, ⟨nd, rfl⟩⟩) | (go_at_call 61; (with_reducible refine (impl_within.calls _ _ _ _ _ H2.out).mono ?_); rintro e wb ⟨rfl, ⟨nd, rfl⟩⟩) | (go_at_call 61; (with_reducible refine (impl_within.calls _ _ _ _ _ H3.out).mono ?_); rintro e wb ⟨rfl, ⟨nd, rfl⟩⟩) | (go_at_call 79; (with_reducible refine (impl_isYear.calls _ _ _ H4.out).mono ?_); rintro e wb ⟨rfl, ⟨nd, rfl⟩⟩))
      go_ret2
      exact ⟨_, rfl, Kd.R_nil _ _ _ _ _, HW.out.trans (Below.mono (by repeat (first | (with_reducible first | exact HB.out | apply pw_below_drewN | apply below_drew1) | exact HB.out)) HW.out.size)⟩
    · have b1 : decide (a4 < (rd_T69 l0 a1).f3) = false := decide_eq_false hy
      simp only [hy, false_or] at h
      clear hy
      go_wp2_with (first | (go_at_call 61; (with_reducible refine (impl_within.calls _ _ _ _ _ H1.out).mono ?_); rintro e wb ⟨rfl, ⟨nd, rfl⟩⟩) | (go_at_call 61; (with_reducible refine (impl_within.calls _ _ _ _ _ H2.out).mono ?_); rintro e wb ⟨rfl, ⟨nd, rfl⟩⟩) | (go_at_call 61; (with_reducible refine (impl_within.calls _ _ _ _ _ H3.out).mono ?_); rintro e wb ⟨rfl, ⟨nd, rfl⟩⟩) | (go_at_call 79; (with_reducible refine (impl_isYear.calls _ _ _ H4.out).mono ?_); rintro e wb ⟨rfl, ⟨nd, rfl⟩⟩))
      refine MOwn.named ?_
      intro wb hWb
      have HB1 := Aside0.mk (show Below w1.heap.size w1 wb by subst hWb; repeat (first | (with_reducible first | exact HB.out | apply pw_below_drewN | apply below_drew1) | exact HB.out))
      clear HB hWb
      refine (HTH.out wb HB1.out).mono ?_
      rintro e wc ⟨rfl, hb⟩
      have HB := Aside0.mk (HB1.out.trans (hb.mono HB1.out.size))
      clear hb HB1
      cases hq : l0.any (impl_RenamePerson.p a2 a3) with
      | true =>
        simp only [hq, if_true, Option.some.injEq, Prod.mk.injEq] at h
        obtain ⟨rfl, rfl⟩ := h
        clear hq
        go_wp2
        go_ret2
        exact ⟨_, rfl, Kd.R_nil _ _ _ _ _, HW.out.trans (HB.out.mono HW.out.size)⟩
      | false =>
        by_cases hL : l0.length * 40 ≤ 140737488355328
        case neg => simp [hq, hL] at h
        simp only [hq, Bool.false_eq_true, if_false, if_pos hL, Option.some.injEq, Prod.mk.injEq] at h
        obtain ⟨rfl, rfl⟩ := h
        have HCL := Aside0.mk (show slices_Clone_Person.f l0 = some l0 by rw [slices_Clone_Person.f, if_pos hL])
        clear hq hL
        go_wp2_with fail
        refine MOwn.named ?_
        intro wd hWd
        have HB1 := Aside0.mk (show Below w1.heap.size w1 wd by subst hWd; repeat (first | (with_reducible first | exact HB.out | apply pw_below_drewN | apply below_drew1) | exact HB.out))
        clear HB hWd
        refine (slices_Clone_Person.calls _ c0 l0 l0 wd (Kd.C_below HR.out HB1.out) HCC.out HCL.out).mono ?_
        rintro e we ⟨v, rfl, ho, hb⟩
        have hca2 := (hb.cell (p := ⟨w.heap.size, 0, none⟩) (by have := HSZ.out; have := HB1.out.size; show w.heap.size < _; omega)).trans ((HB1.out.cell (p := ⟨w.heap.size, 0, none⟩) (by have := HSZ.out; show w.heap.size < _; omega)).trans HCA2.out)
        have hcb2 := (hb.cell (p := ⟨w.heap.size + 1, 0, none⟩) (by have := HSZ.out; have := HB1.out.size; show w.heap.size + 1 < _; omega)).trans ((HB1.out.cell (p := ⟨w.heap.size + 1, 0, none⟩) (by have := HSZ.out; show w.heap.size + 1 < _; omega)).trans HCB2.out)
        have hbase := HB1.out.size
        have hsz := HSZ.out
        obtain ⟨g, cap, he, hg, hlt, cells, hG⟩ := Kd.R_form ho (by have := P1.out; have := Q1.out; omega)
        subst he
        have hne1 : w.heap.size ≠ g := by omega
        have hne2 : w.heap.size + 1 ≠ g := by omega
        have HO := Aside0.mk ho
        have HB := Aside0.mk (HB1.out.trans (hb.mono HB1.out.size))
        have HGE := Aside0.mk (show w.heap.size ≤ g by omega)
        have HWD := Aside0.mk (show w.heap.size ≤ wd.heap.size by omega)
        obtain ⟨ce, hcl, hM, hcc, hfr⟩ := Kd.R_elem ho z69 a1 P1.out Q1.out
        obtain rfl := k69_openM hM
        have hy1 : we.cell? ⟨g, a1.toNat * 4 + 1, none⟩ = some (.int .i64 (rd_T69 l0 a1).f1) := hcc 1 _ rfl
        have hy2 : we.cell? ⟨g, a1.toNat * 4 + 2, none⟩ = some (.int .i64 (rd_T69 l0 a1).f2) := hcc 2 _ rfl
        have hy3 : we.cell? ⟨g, a1.toNat * 4 + 3, none⟩ = some (.int .i64 (rd_T69 l0 a1).f3) := hcc 3 _ rfl
        have hf1 : we.frozen? ⟨g, a1.toNat * 4 + 1, none⟩ = false := hfr 1
        have hf2 : we.frozen? ⟨g, a1.toNat * 4 + 2, none⟩ = false := hfr 2
        have hf3 : we.frozen? ⟨g, a1.toNat * 4 + 3, none⟩ = false := hfr 3
        clear ho hb hcl hM hcc hfr hG hbase hsz hlt hg HB1
        go_wp2_with fail
        go_region
        have step : ∀ (W : World) (xs : List S69) (y : S69), Kd.R k69 69 W wd.heap.size (fun _ => True) (.slice (some ⟨g, 0, none⟩) l0.length cap) xs → xs.getD a1.toNat z69 = y →
            Kd.R k69 69 (W.setCell ⟨g, a1.toNat * 4 + 1, none⟩ (.int .i64 a2)) wd.heap.size (fun _ => True) (.slice (some ⟨g, 0, none⟩) l0.length cap) (xs.set a1.toNat ⟨y.f0, a2, y.f2, y.f3⟩) ∧ Kd.R k69 69 (W.setCell ⟨g, a1.toNat * 4 + 2, none⟩ (.int .i64 a3)) wd.heap.size (fun _ => True) (.slice (some ⟨g, 0, none⟩) l0.length cap) (xs.set a1.toNat ⟨y.f0, y.f1, a3, y.f3⟩) ∧ Kd.R k69 69 (W.setCell ⟨g, a1.toNat * 4 + 3, none⟩ (.int .i64 a4)) wd.heap.size (fun _ => True) (.slice (some ⟨g, 0, none⟩) l0.length cap) (xs.set a1.toNat ⟨y.f0, y.f1, y.f2, a4⟩) := by
          intro W xs y hR hy
          obtain ⟨ce, hcl, hM, hcc, _⟩ := Kd.R_elem hR z69 a1 P1.out Q1.out
          rw [hy] at hM
          obtain rfl := k69_openM hM
          exact ⟨(Kd.R_seg hR a1 P1.out Q1.out (seg := [.int .i64 a2]) (j := 1) hcl hcc (show 1 + 1 ≤ 4 by decide) (x' := (⟨y.f0, a2, y.f2, y.f3⟩ : S69)) (k69_mkM _ _ _ (⟨y.f0, a2, y.f2, y.f3⟩ : S69)) (fun _ hk => hk)).1,
            (Kd.R_seg hR a1 P1.out Q1.out (seg := [.int .i64 a3]) (j := 2) hcl hcc (show 2 + 1 ≤ 4 by decide) (x' := (⟨y.f0, y.f1, a3, y.f3⟩ : S69)) (k69_mkM _ _ _ (⟨y.f0, y.f1, a3, y.f3⟩ : S69)) (fun _ hk => hk)).1,
            (Kd.R_seg hR a1 P1.out Q1.out (seg := [.int .i64 a4]) (j := 3) hcl hcc (show 3 + 1 ≤ 4 by decide) (x' := (⟨y.f0, y.f1, y.f2, a4⟩ : S69)) (k69_mkM _ _ _ (⟨y.f0, y.f1, y.f2, a4⟩ : S69)) (fun _ hk => hk)).1⟩
        have hlt : a1.toNat < l0.length := by have := P1.out; have := Q1.out; omega
        have z1 := (step we l0 (rd_T69 l0 a1) HO.out rfl).1
        have z2 := (step _ _ ⟨(rd_T69 l0 a1).f0, a2, (rd_T69 l0 a1).f2, (rd_T69 l0 a1).f3⟩ z1 (by rw [List.getD_eq_getElem?_getD, List.getElem?_set_self hlt]; rfl)).2.1
        rw [List.set_set] at z2
        have z3 := (step _ _ ⟨(rd_T69 l0 a1).f0, a2, a3, (rd_T69 l0 a1).f3⟩ z2 (by rw [List.getD_eq_getElem?_getD, List.getElem?_set_self hlt]; rfl)).2.2
        rw [List.set_set] at z3
        have HZ := Aside0.mk (Kd.R_lower z3 HWD.out)
        have HB2 := Aside0.mk (below_set (below_set (below_set (HW.out.trans (HB.out.mono HW.out.size)) HGE.out) HGE.out) HGE.out : Below w.heap.size w (((we.setCell ⟨g, a1.toNat * 4 + 1, none⟩ (.int .i64 a2)).setCell ⟨g, a1.toNat * 4 + 2, none⟩ (.int .i64 a3)).setCell ⟨g, a1.toNat * 4 + 3, none⟩ (.int .i64 a4)))
        clear step z1 z2 z3 hlt hy1 hy2 hy3 hf1 hf2 hf3
        generalize (((we.setCell ⟨g, a1.toNat * 4 + 1, none⟩ (.int .i64 a2)).setCell ⟨g, a1.toNat * 4 + 2, none⟩ (.int .i64 a3)).setCell ⟨g, a1.toNat * 4 + 3, none⟩ (.int .i64 a4)) = wz at HZ HB2 ⊢
        go_wp2
        go_ret2
        exact ⟨_, rfl, by (with_reducible repeat (first | apply Kd.R_drewN | apply Kd.R_drew)); exact HZ.out, by repeat (first | (with_reducible first | exact HB2.out | apply pw_below_drewN | apply below_drew1) | exact HB2.out)⟩

end Go.Proofs.Ytphjmmaeolbggaa.G
