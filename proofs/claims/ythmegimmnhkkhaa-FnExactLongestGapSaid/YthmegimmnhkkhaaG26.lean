-- Written by this session's own program over the kit's print (wip/tools/myprint.py); Lean checks it.
import Derived.Test.YthmegimmnhkkhaaG0
import Derived.Test.YthmegimmnhkkhaaG20
import Derived.Test.YthmegimmnhkkhaaG21
import Derived.Test.YthmegimmnhkkhaaG23
import Derived.Test.YthmegimmnhkkhaaG24
import Derived.Test.YthmegimmnhkkhaaG25
namespace Go.Proofs.Ythmegimmnhkkhaa.G
open Go.RowKit Go.Proofs.YthmegimmnhkkhaaW.PrintWords Go.Proofs.YthmegimmnhkkhaaW.PrintLast Go.Proofs.YthmegimmnhkkhaaW.PrintMore
attribute [local go_sem] max2_int min2_int max_two min_two max_three min_three max_four min_four str_geq str_gtr str_leq   -- for this text's walks alone
set_option linter.unusedVariables false
set_option linter.unusedSimpArgs false

/-! ### spec_LongestGap: function 35 -/
mutual
def spec_LongestGap.j0 : Nat → List (S37) → Bool → Option (Int × Int × Bool)
  | 0, _, _ => none
  | k + 1, x0, x16 => if x16 = true then (some (0, 0, false)) else (spec_LongestGap.l0 k x0 0 (-1) 0)
def spec_LongestGap.l0 : Nat → List (S37) → Int → Int → Int → Option (Int × Int × Bool)
  | 0, _, _, _, _ => none
  | k + 1, x0, x5, x6, x7 => if (wrap64 (x7 + 1)) < (x0.length : Int) then (if 0 ≤ (wrap64 (x7 + 1)) then (if 0 ≤ x7 then (if x7 < (x0.length : Int) then (if (wrap64 (((rd_T37 x0 (wrap64 (x7 + 1))).f0) - ((rd_T37 x0 x7).f1))) > x6 then (spec_LongestGap.l0 k x0 x7 (wrap64 (((rd_T37 x0 (wrap64 (x7 + 1))).f0) - ((rd_T37 x0 x7).f1))) (wrap64 (x7 + 1))) else (spec_LongestGap.l0 k x0 x5 x6 (wrap64 (x7 + 1)))) else (none)) else (none)) else (none)) else (some (x5, x6, true))
end
def spec_LongestGap.f (k : Nat) (l0 : List (S37)) : Option (Int × Int × Bool) := (spec_tiGood.f k l0).bind fun t101 => (if t101 = true then (spec_LongestGap.j0 k l0 (decide ((l0.length : Int) < 2))) else (spec_LongestGap.j0 k l0 true))
theorem spec_LongestGap.mono_l : ∀ k, (∀ y0 y1, LeO (spec_LongestGap.j0 k y0 y1) (spec_LongestGap.j0 (k + 1) y0 y1)) ∧ (∀ y0 y1 y2 y3, LeO (spec_LongestGap.l0 k y0 y1 y2 y3) (spec_LongestGap.l0 (k + 1) y0 y1 y2 y3))
  | 0 => ⟨fun _ _ r h => by simp [spec_LongestGap.j0] at h, fun _ _ _ _ r h => by simp [spec_LongestGap.l0] at h⟩
  | k + 1 => by
    obtain ⟨ih0, ih1⟩ := spec_LongestGap.mono_l k
    refine ⟨?_, ?_⟩
    · intro y0 y1
      unfold spec_LongestGap.j0
      repeat' first
      | (with_reducible exact ih0 _ _)
      | (with_reducible exact ih1 _ _ _ _)
      | (with_reducible exact spec_tiGood.mono _ _)
      | (with_reducible exact LeO.refl _)
      | (with_reducible exact LeO.none _)
      | (with_reducible refine LeO.ite ?_ ?_)
      | (with_reducible refine LeO.bind ?_ (fun _ => ?_))
      | exact ih0 _ _
      | exact ih1 _ _ _ _
      | exact spec_tiGood.mono _ _
      | exact LeO.none _
      | refine LeO.ite ?_ ?_
      | refine LeO.bind ?_ (fun _ => ?_)
    · intro y0 y1 y2 y3
      unfold spec_LongestGap.l0
      repeat' first
      | (with_reducible exact ih0 _ _)
      | (with_reducible exact ih1 _ _ _ _)
      | (with_reducible exact spec_tiGood.mono _ _)
      | (with_reducible exact LeO.refl _)
      | (with_reducible exact LeO.none _)
      | (with_reducible refine LeO.ite ?_ ?_)
      | (with_reducible refine LeO.bind ?_ (fun _ => ?_))
      | exact ih0 _ _
      | exact ih1 _ _ _ _
      | exact spec_tiGood.mono _ _
      | exact LeO.none _
      | refine LeO.ite ?_ ?_
      | refine LeO.bind ?_ (fun _ => ?_)
theorem spec_LongestGap.mono : ∀ a0 k, LeO (spec_LongestGap.f k a0) (spec_LongestGap.f (k + 1) a0) := by
  intro a0 k
  obtain ⟨ih0, ih1⟩ := spec_LongestGap.mono_l k
  unfold spec_LongestGap.f
  repeat' first
      | (with_reducible exact ih0 _ _)
      | (with_reducible exact ih1 _ _ _ _)
      | (with_reducible exact spec_tiGood.mono _ _)
      | (with_reducible exact LeO.refl _)
      | (with_reducible exact LeO.none _)
      | (with_reducible refine LeO.ite ?_ ?_)
      | (with_reducible refine LeO.bind ?_ (fun _ => ?_))
      | exact ih0 _ _
      | exact ih1 _ _ _ _
      | exact spec_tiGood.mono _ _
      | exact LeO.none _
      | refine LeO.ite ?_ ?_
      | refine LeO.bind ?_ (fun _ => ?_)
set_option maxHeartbeats 8000000 in
set_option maxRecDepth 100000 in
theorem spec_LongestGap.calls (k : Nat) (A0 : Option Addr) (c0 : Nat) (l0 : List (S37)) (r1 : Int) (r2 : Int) (r3 : Bool) (w : World) (hr0 : Kd.C k37 w A0 l0.length l0) (hc0 : l0.length ≤ c0) (h : spec_LongestGap.f k l0 = some (r1, r2, r3)) :
    Calls Try.prog 35 #[.slice A0 l0.length c0] w fun e w' => e = .returned (.tuple #[.int .i64 r1, .int .i64 r2, .bool r3]) ∧ Below w.heap.size w w' := by
  have HR0 := Aside0.mk hr0
  have HC0 := Aside0.mk hc0
  clear hr0 hc0
  have HB := Aside0.mk (Below.refl w.heap.size w)
  have H : ((spec_tiGood.f k l0).bind fun t101 => (if t101 = true then (spec_LongestGap.j0 k l0 (decide ((l0.length : Int) < 2))) else (spec_LongestGap.j0 k l0 true))) = some (r1, r2, r3) := h
  clear h
  have HC2 := Aside0.mk H
  clear H
  go_enter Try.func35, Try.ntmps35
  go_upto_region 1 with (fail)
  repeat (go_quiet (fail); go_upto_region 1 with (fail))
  go_cut [16] (fun v16 wc => ∃ (kq : Nat) (x16_1 : Bool), v16 = .bool x16_1 ∧ Aside0 (spec_LongestGap.j0 kq l0 x16_1 = some (r1, r2, r3)) ∧ Aside0 (kq ≤ k) ∧ Aside0 (Below w.heap.size w wc))
  case first =>
    have H := HC2.out
    clear HC2
    replace H := Option.bind_eq_some_iff.mp H
    obtain ⟨t101, A30, H⟩ := H
    replace H : (if t101 = true then (spec_LongestGap.j0 k l0 (decide ((l0.length : Int) < 2))) else (spec_LongestGap.j0 k l0 true)) = some (r1, r2, r3) := H
    have A3 := Aside0.mk A30
    clear A30
    by_cases c4 : t101 = true
    · subst c4
      have H1 : (spec_LongestGap.j0 k l0 (decide ((l0.length : Int) < 2))) = some (r1, r2, r3) := by rw [if_pos rfl] at H; exact H
      clear H
      have H := H1
      clear H1
      have H' := Aside0.mk H
      clear H
      go_wp2_with (first | (go_at_call 61; (with_reducible refine (spec_tiGood.calls k _ _ l0 true _ ?side1 ?side2 A3.out).mono ?_); (case side1 => repeat (first | exact (Kd.C_below HR0.out HB.out) | (with_reducible refine Kd.C_alloc ?_ _) | (with_reducible refine Kd.C_drewN ?_ _) | (with_reducible refine Kd.C_drew ?_))); (case side2 => exact HC0.out); rintro e w5 ⟨rfl, hb⟩; have n0_ := Aside0.mk (below_step (by repeat (first | (with_reducible first | exact HB.out | apply below_alloc | apply pw_below_drewN | apply below_drew1) | exact HB.out)) hb); clear HB; have HB := n0_; clear n0_; (try clear hb); (try clear hb2); (try clear hk); (try clear hi)))
      repeat (go_quiet (first | (go_at_call 61; (with_reducible refine (spec_tiGood.calls k _ _ l0 true _ ?side1 ?side2 A3.out).mono ?_); (case side1 => repeat (first | exact (Kd.C_below HR0.out HB.out) | (with_reducible refine Kd.C_alloc ?_ _) | (with_reducible refine Kd.C_drewN ?_ _) | (with_reducible refine Kd.C_drew ?_))); (case side2 => exact HC0.out); rintro e w5 ⟨rfl, hb⟩; have n0_ := Aside0.mk (below_step (by repeat (first | (with_reducible first | exact HB.out | apply below_alloc | apply pw_below_drewN | apply below_drew1) | exact HB.out)) hb); clear HB; have HB := n0_; clear n0_; (try clear hb); (try clear hb2); (try clear hk); (try clear hi))); try go_wp2_with (first | (go_at_call 61; (with_reducible refine (spec_tiGood.calls k _ _ l0 true _ ?side1 ?side2 A3.out).mono ?_); (case side1 => repeat (first | exact (Kd.C_below HR0.out HB.out) | (with_reducible refine Kd.C_alloc ?_ _) | (with_reducible refine Kd.C_drewN ?_ _) | (with_reducible refine Kd.C_drew ?_))); (case side2 => exact HC0.out); rintro e w5 ⟨rfl, hb⟩; have n0_ := Aside0.mk (below_step (by repeat (first | (with_reducible first | exact HB.out | apply below_alloc | apply pw_below_drewN | apply below_drew1) | exact HB.out)) hb); clear HB; have HB := n0_; clear n0_; (try clear hb); (try clear hb2); (try clear hk); (try clear hi))))
      go_meet
      case rel => exact ⟨_, (decide ((l0.length : Int) < 2)), (by first | rfl | (simp; done) | (simp [*]; done)), H', ⟨by first | omega | exact Nat.le_refl _⟩, ⟨by repeat (first | (with_reducible first | exact HB.out | apply below_alloc | apply pw_below_drewN | apply below_drew1) | exact HB.out)⟩⟩
    · replace c4 := Bool.eq_false_iff.mpr c4
      subst c4
      have H1 : (spec_LongestGap.j0 k l0 true) = some (r1, r2, r3) := by rw [if_neg (show ¬ (false = true) by decide)] at H; exact H
      clear H
      have H := H1
      clear H1
      have H' := Aside0.mk H
      clear H
      go_wp2_with (first | (go_at_call 61; (with_reducible refine (spec_tiGood.calls k _ _ l0 false _ ?side1 ?side2 A3.out).mono ?_); (case side1 => repeat (first | exact (Kd.C_below HR0.out HB.out) | (with_reducible refine Kd.C_alloc ?_ _) | (with_reducible refine Kd.C_drewN ?_ _) | (with_reducible refine Kd.C_drew ?_))); (case side2 => exact HC0.out); rintro e w6 ⟨rfl, hb⟩; have n0_ := Aside0.mk (below_step (by repeat (first | (with_reducible first | exact HB.out | apply below_alloc | apply pw_below_drewN | apply below_drew1) | exact HB.out)) hb); clear HB; have HB := n0_; clear n0_; (try clear hb); (try clear hb2); (try clear hk); (try clear hi)))
      repeat (go_quiet (first | (go_at_call 61; (with_reducible refine (spec_tiGood.calls k _ _ l0 false _ ?side1 ?side2 A3.out).mono ?_); (case side1 => repeat (first | exact (Kd.C_below HR0.out HB.out) | (with_reducible refine Kd.C_alloc ?_ _) | (with_reducible refine Kd.C_drewN ?_ _) | (with_reducible refine Kd.C_drew ?_))); (case side2 => exact HC0.out); rintro e w6 ⟨rfl, hb⟩; have n0_ := Aside0.mk (below_step (by repeat (first | (with_reducible first | exact HB.out | apply below_alloc | apply pw_below_drewN | apply below_drew1) | exact HB.out)) hb); clear HB; have HB := n0_; clear n0_; (try clear hb); (try clear hb2); (try clear hk); (try clear hi))); try go_wp2_with (first | (go_at_call 61; (with_reducible refine (spec_tiGood.calls k _ _ l0 false _ ?side1 ?side2 A3.out).mono ?_); (case side1 => repeat (first | exact (Kd.C_below HR0.out HB.out) | (with_reducible refine Kd.C_alloc ?_ _) | (with_reducible refine Kd.C_drewN ?_ _) | (with_reducible refine Kd.C_drew ?_))); (case side2 => exact HC0.out); rintro e w6 ⟨rfl, hb⟩; have n0_ := Aside0.mk (below_step (by repeat (first | (with_reducible first | exact HB.out | apply below_alloc | apply pw_below_drewN | apply below_drew1) | exact HB.out)) hb); clear HB; have HB := n0_; clear n0_; (try clear hb); (try clear hb2); (try clear hk); (try clear hi))))
      go_meet
      case rel => exact ⟨_, (true), (by first | rfl | (simp; done) | (simp [*]; done)), H', ⟨by first | omega | exact Nat.le_refl _⟩, ⟨by repeat (first | (with_reducible first | exact HB.out | apply below_alloc | apply pw_below_drewN | apply below_drew1) | exact HB.out)⟩⟩
  case rest =>
    clear HC2
    try clear p2
    try clear c3
    try clear c4
    obtain ⟨kq, x16_1, rfl, HA, HJ1, HB⟩ := hcut
    cases kq with
    | zero => exact absurd HA.out (by simp [spec_LongestGap.j0])
    | succ kj1 =>
      have H := HA.out
      clear HA
      simp only [spec_LongestGap.j0] at H
      by_cases c7 : x16_1 = true
      · subst c7
        have H1 : (some (0, 0, false)) = some (r1, r2, r3) := by rw [if_pos rfl] at H; exact H
        clear H
        have H := H1
        clear H1
        simp only [Option.some.injEq, Prod.mk.injEq] at H
        obtain ⟨rfl, rfl, rfl⟩ := H
        go_wp2
        repeat (go_quiet (fail); try go_wp2)
        go_ret3
        exact ⟨by first | rfl | (simp [errW_none, errW_some] <;> rfl) | (simp [*, errW_none, errW_some] <;> rfl), by repeat (first | (with_reducible first | exact HB.out | apply below_alloc | apply pw_below_drewN | apply below_drew1) | exact HB.out)⟩
      · replace c7 := Bool.eq_false_iff.mpr c7
        subst c7
        have H1 : (spec_LongestGap.l0 kj1 l0 0 (-1) 0) = some (r1, r2, r3) := by rw [if_neg (show ¬ (false = true) by decide)] at H; exact H
        clear H
        have H := H1
        clear H1
        have H' := Aside0.mk H
        clear H
        go_wp2
        repeat (go_quiet (fail); try go_wp2)
        go_loopg [5, 6, 7] kj1 (fun kq v5 v6 v7 w' => ∃ (x5_2 : Int) (x6_2 : Int) (x7_2 : Int), v5 = .int .i64 x5_2 ∧ v6 = .int .i64 x6_2 ∧ v7 = .int .i64 x7_2 ∧ Aside0 (spec_LongestGap.l0 kq l0 x5_2 x6_2 x7_2 = some (r1, r2, r3)) ∧ Aside0 (kq ≤ kj1) ∧ Aside0 (Below w.heap.size w w'))
        case atStart => exact ⟨(0), ((-1)), (0), (by first | rfl | (simp; done) | (simp [*]; done)), (by first | rfl | (simp; done) | (simp [*]; done)), (by first | rfl | (simp; done) | (simp [*]; done)), H', ⟨Nat.le_refl _⟩, ⟨by repeat (first | (with_reducible first | exact HB.out | apply below_alloc | apply pw_below_drewN | apply below_drew1) | exact HB.out)⟩⟩
        case round =>
          clear H'
          try clear p2
          try clear c3
          try clear c4
          try clear c7
          try clear p2
          obtain ⟨x5_2, x6_2, x7_2, rfl, rfl, rfl, HA, HK2, HB⟩ := hrel
          cases gk with
          | zero => exact absurd HA.out (by simp [spec_LongestGap.l0])
          | succ k2 =>
            have H := HA.out
            clear HA
            simp only [spec_LongestGap.l0] at H
            by_cases c8 : (wrap64 (x7_2 + 1)) < (l0.length : Int)
            · rw [if_pos c8] at H
              have c8b0 : decide ((wrap64 (x7_2 + 1)) < (l0.length : Int)) = true := decide_eq_true c8
              clear c8
              obtain ⟨ji9, hji9⟩ : ∃ j_ : Int, (wrap64 (x7_2 + 1)) = j_ := ⟨_, rfl⟩
              replace H : (if 0 ≤ (ji9) then (if 0 ≤ x7_2 then (if x7_2 < (l0.length : Int) then (if (wrap64 (((rd_T37 l0 (ji9)).f0) - ((rd_T37 l0 x7_2).f1))) > x6_2 then (spec_LongestGap.l0 k2 l0 x7_2 (wrap64 (((rd_T37 l0 (ji9)).f0) - ((rd_T37 l0 x7_2).f1))) ji9) else (spec_LongestGap.l0 k2 l0 x5_2 x6_2 ji9)) else (none)) else (none)) else (none)) = some (r1, r2, r3) := by first | (rw [hji9] at H; exact H) | (simp only [hji9] at H ⊢; exact H)
              (try rw [hji9] at c8b0)
              have hji9w : (IntKind.i64.wrap (x7_2 + 1)) = ji9 := (i64_w _).trans hji9
              by_cases c10 : 0 ≤ (ji9)
              · rw [if_pos c10] at H
                have c10b0 : decide (0 ≤ (ji9)) = true := decide_eq_true c10
                clear c10
                by_cases c11 : 0 ≤ x7_2
                · rw [if_pos c11] at H
                  have c11b0 : decide (0 ≤ x7_2) = true := decide_eq_true c11
                  clear c11
                  by_cases c12 : x7_2 < (l0.length : Int)
                  · rw [if_pos c12] at H
                    have c12b0 : decide (x7_2 < (l0.length : Int)) = true := decide_eq_true c12
                    clear c12
                    by_cases c13 : (wrap64 (((rd_T37 l0 (ji9)).f0) - ((rd_T37 l0 x7_2).f1))) > x6_2
                    · rw [if_pos c13] at H
                      have c13b0 : decide (x6_2 < (wrap64 (((rd_T37 l0 (ji9)).f0) - ((rd_T37 l0 x7_2).f1)))) = true := decide_eq_true c13
                      clear c13
                      have H' := Aside0.mk H
                      clear H
                      have p102 : 0 ≤ ((ji9) : Int) := of_decide_eq_true (by first | (with_reducible assumption) | assumption)
                      have q102 : (ji9) < (l0.length : Int) := of_decide_eq_true (by first | (with_reducible assumption) | assumption)
                      obtain ⟨ad102, e102, hx102_0, hx102_1, hx102_2⟩ := at_T37 HR0.out (ji9) p102 q102
                      cases e102
                      replace hx102_0 := (HB.out.cell (World.block_lt_of_cell? w _ hx102_0)).trans hx102_0
                      replace hx102_1 := (HB.out.cell (World.block_lt_of_cell? w _ hx102_1)).trans hx102_1
                      replace hx102_2 := (HB.out.cell (World.block_lt_of_cell? w _ hx102_2)).trans hx102_2
                      replace p102 := eq_true p102
                      replace q102 := eq_true q102
                      have p103 : 0 ≤ (x7_2 : Int) := of_decide_eq_true (by first | (with_reducible assumption) | assumption)
                      have q103 : x7_2 < (l0.length : Int) := of_decide_eq_true (by first | (with_reducible assumption) | assumption)
                      obtain ⟨ad103, e103, hx103_0, hx103_1, hx103_2⟩ := at_T37 HR0.out x7_2 p103 q103
                      obtain rfl : ad102 = ad103 := (by injection e103)
                      replace hx103_0 := (HB.out.cell (World.block_lt_of_cell? w _ hx103_0)).trans hx103_0
                      replace hx103_1 := (HB.out.cell (World.block_lt_of_cell? w _ hx103_1)).trans hx103_1
                      replace hx103_2 := (HB.out.cell (World.block_lt_of_cell? w _ hx103_2)).trans hx103_2
                      replace p103 := eq_true p103
                      replace q103 := eq_true q103
                      go_wp2
                      repeat (go_quiet (fail); try go_wp2)
                      go_roundg k2
                      case measure => have := HJ1.out; have := HK2.out; omega
                      case rel => exact ⟨(x7_2), (wrap64 (((rd_T37 l0 (ji9)).f0) - ((rd_T37 l0 x7_2).f1))), (ji9), (by first | rfl | (simp; done) | (simp [*]; done)), (by first | rfl | (simp; done) | (simp only [← hji9] <;> (first | rfl | simp)) | (simp [*]; done)), (by first | rfl | (simp; done) | (simp only [← hji9] <;> (first | rfl | simp)) | (simp [*]; done)), H', ⟨by have := HJ1.out; have := HK2.out; omega⟩, ⟨by repeat (first | (with_reducible first | exact HB.out | apply below_alloc | apply pw_below_drewN | apply below_drew1) | exact HB.out)⟩⟩
                    · rw [if_neg c13] at H
                      have c13b0 : decide (x6_2 < (wrap64 (((rd_T37 l0 (ji9)).f0) - ((rd_T37 l0 x7_2).f1)))) = false := decide_eq_false c13
                      clear c13
                      have H' := Aside0.mk H
                      clear H
                      have p102 : 0 ≤ ((ji9) : Int) := of_decide_eq_true (by first | (with_reducible assumption) | assumption)
                      have q102 : (ji9) < (l0.length : Int) := of_decide_eq_true (by first | (with_reducible assumption) | assumption)
                      obtain ⟨ad102, e102, hx102_0, hx102_1, hx102_2⟩ := at_T37 HR0.out (ji9) p102 q102
                      cases e102
                      replace hx102_0 := (HB.out.cell (World.block_lt_of_cell? w _ hx102_0)).trans hx102_0
                      replace hx102_1 := (HB.out.cell (World.block_lt_of_cell? w _ hx102_1)).trans hx102_1
                      replace hx102_2 := (HB.out.cell (World.block_lt_of_cell? w _ hx102_2)).trans hx102_2
                      replace p102 := eq_true p102
                      replace q102 := eq_true q102
                      have p103 : 0 ≤ (x7_2 : Int) := of_decide_eq_true (by first | (with_reducible assumption) | assumption)
                      have q103 : x7_2 < (l0.length : Int) := of_decide_eq_true (by first | (with_reducible assumption) | assumption)
                      obtain ⟨ad103, e103, hx103_0, hx103_1, hx103_2⟩ := at_T37 HR0.out x7_2 p103 q103
                      obtain rfl : ad102 = ad103 := (by injection e103)
                      replace hx103_0 := (HB.out.cell (World.block_lt_of_cell? w _ hx103_0)).trans hx103_0
                      replace hx103_1 := (HB.out.cell (World.block_lt_of_cell? w _ hx103_1)).trans hx103_1
                      replace hx103_2 := (HB.out.cell (World.block_lt_of_cell? w _ hx103_2)).trans hx103_2
                      replace p103 := eq_true p103
                      replace q103 := eq_true q103
                      go_wp2
                      repeat (go_quiet (fail); try go_wp2)
                      go_roundg k2
                      case measure => have := HJ1.out; have := HK2.out; omega
                      case rel => exact ⟨(x5_2), (x6_2), (ji9), (by first | rfl | (simp; done) | (simp [*]; done)), (by first | rfl | (simp; done) | (simp [*]; done)), (by first | rfl | (simp; done) | (simp only [← hji9] <;> (first | rfl | simp)) | (simp [*]; done)), H', ⟨by have := HJ1.out; have := HK2.out; omega⟩, ⟨by repeat (first | (with_reducible first | exact HB.out | apply below_alloc | apply pw_below_drewN | apply below_drew1) | exact HB.out)⟩⟩
                  · rw [if_neg c12] at H
                    exact absurd H (by simp)
                · rw [if_neg c11] at H
                  exact absurd H (by simp)
              · rw [if_neg c10] at H
                exact absurd H (by simp)
            · rw [if_neg c8] at H
              have c8b0 : decide ((wrap64 (x7_2 + 1)) < (l0.length : Int)) = false := decide_eq_false c8
              clear c8
              simp only [Option.some.injEq, Prod.mk.injEq] at H
              obtain ⟨rfl, rfl, rfl⟩ := H
              go_wp2
              repeat (go_quiet (fail); try go_wp2)
              go_ret3
              exact ⟨by first | rfl | (simp [errW_none, errW_some] <;> rfl) | (simp [*, errW_none, errW_some] <;> rfl), by repeat (first | (with_reducible first | exact HB.out | apply below_alloc | apply pw_below_drewN | apply below_drew1) | exact HB.out)⟩

/-! ### impl_LongestGap: function 36 -/
/-- The frames between a note and the next one. -/
def impl_LongestGap.gap (l0 : List S37) (i : Int) : Int := wrap64 ((rd_T37 l0 (i + 1)).f0 - (rd_T37 l0 i).f1)
/-- The first of the greatest gaps among the first n. -/
def impl_LongestGap.best (l0 : List S37) : Nat → Int
  | 0 => 0
  | n + 1 => if impl_LongestGap.gap l0 (n : Int) > impl_LongestGap.gap l0 (impl_LongestGap.best l0 n) then (n : Int) else impl_LongestGap.best l0 n
def impl_LongestGap.f (k : Nat) (l0 : List S37) : Option (Int × Int × Bool) :=
  (impl_IsTier.f k l0).bind fun t => some (if t = true ∧ 2 ≤ l0.length then (impl_LongestGap.best l0 (l0.length - 1), impl_LongestGap.gap l0 (impl_LongestGap.best l0 (l0.length - 1)), true) else (0, 0, false))
theorem impl_LongestGap.mono : ∀ a0 k, LeO (impl_LongestGap.f k a0) (impl_LongestGap.f (k + 1) a0) := fun a0 k => LeO.bind (impl_IsTier.mono a0 k) (fun _ => LeO.refl _)
theorem impl_LongestGap.best_in (l0 : List S37) : ∀ n, 0 ≤ impl_LongestGap.best l0 n ∧ (impl_LongestGap.best l0 n = 0 ∨ impl_LongestGap.best l0 n < (n : Int))
  | 0 => ⟨by simp [impl_LongestGap.best], .inl rfl⟩
  | n + 1 => by
    have ih := impl_LongestGap.best_in l0 n
    unfold impl_LongestGap.best
    split <;> omega
set_option maxHeartbeats 4000000 in
set_option maxRecDepth 100000 in
theorem impl_LongestGap.gaps (B : Nat) (A0 : Option Addr) (c0 : Nat) (l0 : List S37) (i : Int) (W : World) (hc : W.cell? ⟨B, 0, none⟩ = some (.slice A0 l0.length c0)) (hr : Kd.C k37 W A0 l0.length l0) (h0 : 0 ≤ i) (h1 : i + 1 < (l0.length : Int)) :
    Calls Try.prog 63 #[.int .i64 i, .pointer (some ⟨B, 0, none⟩)] W fun e w' => e = .returned (.int .i64 (impl_LongestGap.gap l0 i)) ∧ Drawn0 W w' := by
  have HL := Aside0.mk hr.2.1
  have hb : i + 1 ≤ 9223372036854775807 := by have := HL.out; omega
  obtain ⟨ad, e, hx0, hx1, hx2⟩ := at_T37 hr i h0 (by omega)
  obtain ⟨ad', e', hy0, hy1, hy2⟩ := at_T37 hr (i + 1) (by omega) h1
  cases e
  obtain rfl : ad = ad' := by injection e'
  clear e' hr
  have h2 : i < (l0.length : Int) := by omega
  have h3 : 0 ≤ i + 1 := by omega
  unfold impl_LongestGap.gap
  generalize rd_T37 l0 i = x at hx0 hx1 hx2 ⊢
  generalize rd_T37 l0 (i + 1) = y at hy0 hy1 hy2 ⊢
  go_enter Try.func63, Try.ntmps63
  go_wp2
  go_quiet (fail)
  go_wp2
  go_ret
  exact ⟨rfl, by repeat (first | exact Drawn0.refl _ | apply Drawn0.step)⟩
set_option maxHeartbeats 4000000 in
set_option maxRecDepth 100000 in
theorem impl_LongestGap.calls (k : Nat) (A0 : Option Addr) (c0 : Nat) (l0 : List S37) (r1 : Int) (r2 : Int) (r3 : Bool) (w : World) (hr0 : Kd.C k37 w A0 l0.length l0) (hc0 : l0.length ≤ c0) (h : impl_LongestGap.f k l0 = some (r1, r2, r3)) :
    Calls Try.prog 36 #[.slice A0 l0.length c0] w fun e w' => e = .returned (.tuple #[.int .i64 r1, .int .i64 r2, .bool r3]) ∧ Below w.heap.size w w' := by
  obtain ⟨t, ht, h⟩ := Option.bind_eq_some_iff.mp h
  have hr1 : Kd.C k37 (w.alloc (.cells #[.slice A0 l0.length c0] 49)) A0 l0.length l0 := Kd.C_below hr0 ((Below.refl _ w).alloc (Nat.le_refl _) _)
  have hcell : (w.alloc (.cells #[.slice A0 l0.length c0] 49)).cell? ⟨w.heap.size, 0, none⟩ = some (.slice A0 l0.length c0) := by simp
  have hlt : w.heap.size < (w.alloc (.cells #[.slice A0 l0.length c0] 49)).heap.size := by simp
  have HW := Aside0.mk ((Below.refl _ w).alloc (Nat.le_refl _) (.cells #[.slice A0 l0.length c0] 49))
  have HT := Aside0.mk (impl_IsTier.calls k A0 c0 l0 t (w.alloc (.cells #[.slice A0 l0.length c0] 49)) hr1 hc0 ht)
  have HR1 := Aside0.mk hr1
  have HC1 := Aside0.mk hcell
  have HLT := Aside0.mk hlt
  have HL := Aside0.mk hr0.2.1
  clear ht hr1 hr0 hc0 hcell hlt
  cases t with
  | false =>
    simp only [Bool.false_eq_true, false_and, if_false, Option.some.injEq, Prod.mk.injEq] at h
    obtain ⟨rfl, rfl, rfl⟩ := h
    go_enter Try.func36, Try.ntmps36
    go_wp2_with fail
    refine HT.out.mono ?_
    clear HT
    rintro e w' ⟨rfl, hb⟩
    have HB := Aside0.mk hb
    clear hb
    go_wp2
    go_ret3
    exact ⟨rfl, HW.out.trans (HB.out.mono (Nat.le_of_lt HLT.out))⟩
  | true =>
    by_cases hlen : 2 ≤ l0.length
    · simp only [true_and, if_pos hlen, Option.some.injEq, Prod.mk.injEq] at h
      obtain ⟨rfl, rfl, rfl⟩ := h
      have hl2 : (2 : Int) ≤ (l0.length : Int) := by omega
      have hl3 : (l0.length : Int) ≤ 9223372036854775807 := by have := HL.out; omega
      clear hlen
      go_enter Try.func36, Try.ntmps36
      go_wp2_with fail
      refine HT.out.mono ?_
      clear HT
      rintro e w' ⟨rfl, hb⟩
      have HC2 := Aside0.mk ((hb.cell (p := ⟨w.heap.size, 0, none⟩) HLT.out).trans HC1.out)
      have HR2 := Aside0.mk (Kd.C_below HR1.out hb)
      have HB2 := Aside0.mk (HW.out.trans (hb.mono (Nat.le_of_lt HLT.out)))
      clear hb HW HR1 HC1
      have hc2 := HC2.out
      go_wp2
      clear hc2
      go_loopg [5, 20] (l0.length - 1) (fun gg s5 s20 wr => ∃ j : Nat, s5 = .int .i64 (impl_LongestGap.best l0 j) ∧ s20 = .int .i64 (j : Int) ∧ Aside0 (j ≤ l0.length - 1 ∧ l0.length - 1 - j ≤ gg) ∧ Aside0 (Drawn0 w' wr))
      case atStart => exact ⟨0, rfl, rfl, ⟨by omega⟩, ⟨Drawn0.refl _⟩⟩
      case round =>
        obtain ⟨j, rfl, rfl, HJ, HD⟩ := hrel
        obtain ⟨nd, rfl⟩ := HD.out.out
        clear HD
        have hc3 : (w'.drewN nd).cell? ⟨w.heap.size, 0, none⟩ = some (.slice A0 l0.length c0) := by simp [HC2.out]
        have hr3 : Kd.C k37 (w'.drewN nd) A0 l0.length l0 := Kd.C_below HR2.out (Drawn0.below ⟨⟨nd, rfl⟩⟩)
        have HBI := Aside0.mk (impl_LongestGap.best_in l0 j)
        by_cases hj : j < l0.length - 1
        · have b1 : decide ((j : Int) < (l0.length : Int) - 1) = true := decide_eq_true (by omega)
          have HG := Aside0.mk (fun (m : Nat) (i : Int) (h0 : 0 ≤ i) (h1 : i + 1 < (l0.length : Int)) => impl_LongestGap.gaps w.heap.size A0 c0 l0 i (w'.drewN m) (by simp [HC2.out]) (Kd.C_below HR2.out (Drawn0.below ⟨⟨m, rfl⟩⟩)) h0 h1)
          have HS := Aside0.mk (show impl_LongestGap.best l0 (j + 1) = if impl_LongestGap.gap l0 (j : Int) > impl_LongestGap.gap l0 (impl_LongestGap.best l0 j) then (j : Int) else impl_LongestGap.best l0 j from rfl)
          have HJ2 := Aside0.mk hj
          clear hr3 hc3 hj
          go_wp2_with fail
          refine (HG.out nd (j : Int) (by omega) (by have := HJ2.out; omega)).mono ?_
          rintro e w2 ⟨rfl, ⟨n1, rfl⟩⟩
          rw [World.drewN_drewN]
          go_wp2_with fail
          refine (HG.out _ (impl_LongestGap.best l0 j) HBI.out.1 (by have := HBI.out.2; have := HJ2.out; omega)).mono ?_
          rintro e w3 ⟨rfl, ⟨n2, rfl⟩⟩
          rw [World.drewN_drewN]
          by_cases hg : impl_LongestGap.gap l0 (impl_LongestGap.best l0 j) < impl_LongestGap.gap l0 (j : Int)
          · have HS2 := Aside0.mk (HS.out.trans (if_pos hg))
            have b2 : decide (impl_LongestGap.gap l0 (impl_LongestGap.best l0 j) < impl_LongestGap.gap l0 (j : Int)) = true := decide_eq_true hg
            clear HS hg
            go_wp2
            go_roundg (l0.length - 1 - (j + 1))
            case measure => have := HJ.out; have := HJ2.out; omega
            case rel => exact ⟨j + 1, by rw [HS2.out], by have := HJ2.out; rw [show wrap64 ((j : Int) + 1) = ((j + 1 : Nat) : Int) by unfold wrap64; omega], ⟨by have := HJ.out; have := HJ2.out; omega⟩, ⟨⟨_, rfl⟩⟩⟩
          · have HS2 := Aside0.mk (HS.out.trans (if_neg hg))
            have b2 : decide (impl_LongestGap.gap l0 (impl_LongestGap.best l0 j) < impl_LongestGap.gap l0 (j : Int)) = false := decide_eq_false hg
            clear HS hg
            go_wp2
            go_roundg (l0.length - 1 - (j + 1))
            case measure => have := HJ.out; have := HJ2.out; omega
            case rel => exact ⟨j + 1, by rw [HS2.out], by have := HJ2.out; rw [show wrap64 ((j : Int) + 1) = ((j + 1 : Nat) : Int) by unfold wrap64; omega], ⟨by have := HJ.out; have := HJ2.out; omega⟩, ⟨⟨_, rfl⟩⟩⟩
        · have b1 : decide ((j : Int) < (l0.length : Int) - 1) = false := decide_eq_false (by omega)
          have HJ3 := Aside0.mk (show j = l0.length - 1 by have := HJ.out; omega)
          have HG := Aside0.mk (fun (m : Nat) (i : Int) (h0 : 0 ≤ i) (h1 : i + 1 < (l0.length : Int)) => impl_LongestGap.gaps w.heap.size A0 c0 l0 i (w'.drewN m) (by simp [HC2.out]) (Kd.C_below HR2.out (Drawn0.below ⟨⟨m, rfl⟩⟩)) h0 h1)
          clear hr3 hc3 hj
          go_wp2_with fail
          refine (HG.out _ (impl_LongestGap.best l0 j) HBI.out.1 (by have := HBI.out.2; have := HJ3.out; omega)).mono ?_
          rintro e w3 ⟨rfl, ⟨n2, rfl⟩⟩
          rw [World.drewN_drewN]
          go_wp2
          go_ret3
          exact ⟨by rw [← HJ3.out]; rfl, pw_below_drewN HB2.out _⟩
    · simp only [true_and, if_neg hlen, Option.some.injEq, Prod.mk.injEq] at h
      obtain ⟨rfl, rfl, rfl⟩ := h
      have hl2 : (l0.length : Int) < 2 := by omega
      go_enter Try.func36, Try.ntmps36
      go_wp2_with fail
      refine HT.out.mono ?_
      clear HT
      rintro e w' ⟨rfl, hb⟩
      have HC2 := Aside0.mk ((hb.cell (p := ⟨w.heap.size, 0, none⟩) HLT.out).trans HC1.out)
      have HB := Aside0.mk hb
      clear hb
      have hc2 := HC2.out
      go_wp2
      go_ret3
      exact ⟨rfl, HW.out.trans (HB.out.mono (Nat.le_of_lt HLT.out))⟩

/-! ### laws_FnExactLongestGap: function 10 -/
def laws_FnExactLongestGap.j0 : Nat → List (S34) → List (S37) → Bool → Option (Bool)
  | 0, _, _, _ => none
  | k + 1, x0, x7, x43 => if x43 = true then (some false) else ((laws_toNoteS.f k x0).bind fun t114 => ((laws_eqNoteS.f k x7 t114).bind fun t117 => (if t117 = true then (some true) else (some false))))
def laws_FnExactLongestGap.f (k : Nat) (l0 : List (S34)) : Option (Bool) := (laws_szNoteS.f k l0 1048576).bind fun t101 => (if t101 < 0 then (some true) else ((laws_toNoteS.f k l0).bind fun t102 => ((spec_LongestGap.f k t102).bind fun bt105 => ((laws_toNoteS.f k l0).bind fun t108 => ((impl_LongestGap.f k t108).bind fun bt111 => (if bt111.1 = bt105.1 then (if bt111.2.1 = bt105.2.1 then (laws_FnExactLongestGap.j0 k l0 t108 (bt111.2.2 != bt105.2.2)) else (laws_FnExactLongestGap.j0 k l0 t108 true)) else (laws_FnExactLongestGap.j0 k l0 t108 true)))))))
theorem laws_FnExactLongestGap.mono_l : ∀ k, (∀ y0 y1 y2, LeO (laws_FnExactLongestGap.j0 k y0 y1 y2) (laws_FnExactLongestGap.j0 (k + 1) y0 y1 y2))
  | 0 => fun _ _ _ r h => by simp [laws_FnExactLongestGap.j0] at h
  | k + 1 => by
    have ih0 := laws_FnExactLongestGap.mono_l k
    · intro y0 y1 y2
      unfold laws_FnExactLongestGap.j0
      repeat' first
      | (with_reducible exact ih0 _ _ _)
      | (with_reducible exact impl_LongestGap.mono _ _)
      | (with_reducible exact laws_eqNoteS.mono _ _ _)
      | (with_reducible exact laws_szNoteS.mono _ _ _)
      | (with_reducible exact laws_toNoteS.mono _ _)
      | (with_reducible exact spec_LongestGap.mono _ _)
      | (with_reducible exact LeO.refl _)
      | (with_reducible exact LeO.none _)
      | (with_reducible refine LeO.ite ?_ ?_)
      | (with_reducible refine LeO.bind ?_ (fun _ => ?_))
      | exact ih0 _ _ _
      | exact impl_LongestGap.mono _ _
      | exact laws_eqNoteS.mono _ _ _
      | exact laws_szNoteS.mono _ _ _
      | exact laws_toNoteS.mono _ _
      | exact spec_LongestGap.mono _ _
      | exact LeO.none _
      | refine LeO.ite ?_ ?_
      | refine LeO.bind ?_ (fun _ => ?_)
theorem laws_FnExactLongestGap.mono : ∀ a0 k, LeO (laws_FnExactLongestGap.f k a0) (laws_FnExactLongestGap.f (k + 1) a0) := by
  intro a0 k
  have ih0 := laws_FnExactLongestGap.mono_l k
  unfold laws_FnExactLongestGap.f
  repeat' first
      | (with_reducible exact ih0 _ _ _)
      | (with_reducible exact impl_LongestGap.mono _ _)
      | (with_reducible exact laws_eqNoteS.mono _ _ _)
      | (with_reducible exact laws_szNoteS.mono _ _ _)
      | (with_reducible exact laws_toNoteS.mono _ _)
      | (with_reducible exact spec_LongestGap.mono _ _)
      | (with_reducible exact LeO.refl _)
      | (with_reducible exact LeO.none _)
      | (with_reducible refine LeO.ite ?_ ?_)
      | (with_reducible refine LeO.bind ?_ (fun _ => ?_))
      | exact ih0 _ _ _
      | exact impl_LongestGap.mono _ _
      | exact laws_eqNoteS.mono _ _ _
      | exact laws_szNoteS.mono _ _ _
      | exact laws_toNoteS.mono _ _
      | exact spec_LongestGap.mono _ _
      | exact LeO.none _
      | refine LeO.ite ?_ ?_
      | refine LeO.bind ?_ (fun _ => ?_)
set_option maxHeartbeats 8000000 in
set_option maxRecDepth 100000 in
theorem laws_FnExactLongestGap.calls (k : Nat) (A0 : Option Addr) (c0 : Nat) (l0 : List (S34)) (r : Bool) (w : World) (hr0 : Kd.C k34 w A0 l0.length l0) (hc0 : l0.length ≤ c0) (ht_ : Aside0 (r = true)) (h : laws_FnExactLongestGap.f k l0 = some r) :
    Calls Try.prog 10 #[.slice A0 l0.length c0] w fun e w' => e = .returned (.bool r) ∧ Below w.heap.size w w' := by
  have HR0 := Aside0.mk hr0
  have HC0 := Aside0.mk hc0
  clear hr0 hc0
  have HB := Aside0.mk (Below.refl w.heap.size w)
  have H : ((laws_szNoteS.f k l0 1048576).bind fun t101 => (if t101 < 0 then (some true) else ((laws_toNoteS.f k l0).bind fun t102 => ((spec_LongestGap.f k t102).bind fun bt105 => ((laws_toNoteS.f k l0).bind fun t108 => ((impl_LongestGap.f k t108).bind fun bt111 => (if bt111.1 = bt105.1 then (if bt111.2.1 = bt105.2.1 then (laws_FnExactLongestGap.j0 k l0 t108 (bt111.2.2 != bt105.2.2)) else (laws_FnExactLongestGap.j0 k l0 t108 true)) else (laws_FnExactLongestGap.j0 k l0 t108 true)))))))) = some r := h
  clear h
  replace H := Option.bind_eq_some_iff.mp H
  obtain ⟨t101, A20, H⟩ := H
  replace H : (if t101 < 0 then (some true) else ((laws_toNoteS.f k l0).bind fun t102 => ((spec_LongestGap.f k t102).bind fun bt105 => ((laws_toNoteS.f k l0).bind fun t108 => ((impl_LongestGap.f k t108).bind fun bt111 => (if bt111.1 = bt105.1 then (if bt111.2.1 = bt105.2.1 then (laws_FnExactLongestGap.j0 k l0 t108 (bt111.2.2 != bt105.2.2)) else (laws_FnExactLongestGap.j0 k l0 t108 true)) else (laws_FnExactLongestGap.j0 k l0 t108 true))))))) = some r := H
  have A2 := Aside0.mk A20
  clear A20
  by_cases c3 : t101 < 0
  · rw [if_pos c3] at H
    have c3b0 : decide (t101 < 0) = true := decide_eq_true c3
    clear c3
    obtain rfl := Option.some.inj H
    go_enter Try.func10, Try.ntmps10
    go_wp2_with (first | ((with_reducible refine gate_callee (f := 30) rfl ?_); refine goesL_ (some 13) rfl rfl Try.func30 (by kernel_rfl) rfl #[.slice A0 l0.length c0, .int .i64 1048576] rfl (by (try simp only [List.map_toArray, List.map_cons, List.map_nil]); first | done | rfl | (simp only [List.length_drop, List.length_take]; rfl)) ?_; (with_reducible refine (laws_szNoteS.calls k _ _ l0 1048576 t101 _ ?side1 ?side2 A2.out).mono ?_); (case side1 => repeat (first | exact HR0.out | (with_reducible refine Kd.C_alloc ?_ _) | (with_reducible refine Kd.C_drewN ?_ _) | (with_reducible refine Kd.C_drew ?_))); (case side2 => exact HC0.out); rintro e w4 ⟨rfl, hb⟩; refine ⟨_, rfl, ?_⟩; have n0_ := Aside0.mk (below_step (by repeat (first | (with_reducible first | exact HB.out | apply below_alloc | apply pw_below_drewN | apply below_drew1) | exact HB.out)) hb); clear HB; have HB := n0_; clear n0_; (try clear hb); (try clear hb2); (try clear hk); (try clear hi)))
    go_ret
    exact ⟨by first | rfl | (simp [errW_none, errW_some] <;> rfl) | (simp [*, errW_none, errW_some] <;> rfl), by repeat (first | (with_reducible first | exact HB.out | apply below_alloc | apply pw_below_drewN | apply below_drew1) | exact HB.out)⟩
  · rw [if_neg c3] at H
    have c3b0 : decide (t101 < 0) = false := decide_eq_false c3
    clear c3
    replace H := Option.bind_eq_some_iff.mp H
    obtain ⟨t102, A50, H⟩ := H
    replace H : ((spec_LongestGap.f k t102).bind fun bt105 => ((laws_toNoteS.f k l0).bind fun t108 => ((impl_LongestGap.f k t108).bind fun bt111 => (if bt111.1 = bt105.1 then (if bt111.2.1 = bt105.2.1 then (laws_FnExactLongestGap.j0 k l0 t108 (bt111.2.2 != bt105.2.2)) else (laws_FnExactLongestGap.j0 k l0 t108 true)) else (laws_FnExactLongestGap.j0 k l0 t108 true))))) = some r := H
    have A5 := Aside0.mk A50
    clear A50
    replace H := Option.bind_eq_some_iff.mp H
    obtain ⟨⟨t105, t106, t107⟩, A60, H⟩ := H
    replace H : ((laws_toNoteS.f k l0).bind fun t108 => ((impl_LongestGap.f k t108).bind fun bt111 => (if bt111.1 = t105 then (if bt111.2.1 = t106 then (laws_FnExactLongestGap.j0 k l0 t108 (bt111.2.2 != t107)) else (laws_FnExactLongestGap.j0 k l0 t108 true)) else (laws_FnExactLongestGap.j0 k l0 t108 true)))) = some r := H
    have A6 := Aside0.mk A60
    clear A60
    replace H := Option.bind_eq_some_iff.mp H
    obtain ⟨t108, A70, H⟩ := H
    replace H : ((impl_LongestGap.f k t108).bind fun bt111 => (if bt111.1 = t105 then (if bt111.2.1 = t106 then (laws_FnExactLongestGap.j0 k l0 t108 (bt111.2.2 != t107)) else (laws_FnExactLongestGap.j0 k l0 t108 true)) else (laws_FnExactLongestGap.j0 k l0 t108 true))) = some r := H
    have A7 := Aside0.mk A70
    clear A70
    replace H := Option.bind_eq_some_iff.mp H
    obtain ⟨⟨t111, t112, t113⟩, A80, H⟩ := H
    replace H : (if t111 = t105 then (if t112 = t106 then (laws_FnExactLongestGap.j0 k l0 t108 (t113 != t107)) else (laws_FnExactLongestGap.j0 k l0 t108 true)) else (laws_FnExactLongestGap.j0 k l0 t108 true)) = some r := H
    have A8 := Aside0.mk A80
    clear A80
    have HC9 := Aside0.mk H
    clear H
    go_enter Try.func10, Try.ntmps10
    go_upto_region 8 with (first | ((with_reducible refine gate_callee (f := 30) rfl ?_); refine goesL_ (some 13) rfl rfl Try.func30 (by kernel_rfl) rfl #[.slice A0 l0.length c0, .int .i64 1048576] rfl (by (try simp only [List.map_toArray, List.map_cons, List.map_nil]); first | done | rfl | (simp only [List.length_drop, List.length_take]; rfl)) ?_; (with_reducible refine (laws_szNoteS.calls k _ _ l0 1048576 t101 _ ?side1 ?side2 A2.out).mono ?_); (case side1 => repeat (first | exact HR0.out | (with_reducible refine Kd.C_alloc ?_ _) | (with_reducible refine Kd.C_drewN ?_ _) | (with_reducible refine Kd.C_drew ?_))); (case side2 => exact HC0.out); rintro e w10 ⟨rfl, hb⟩; refine ⟨_, rfl, ?_⟩; have n0_ := Aside0.mk (below_step (by repeat (first | (with_reducible first | exact HB.out | apply below_alloc | apply pw_below_drewN | apply below_drew1) | exact HB.out)) hb); clear HB; have HB := n0_; clear n0_; (try clear hb); (try clear hb2); (try clear hk); (try clear hi)) | ((with_reducible refine gate_callee (f := 32) rfl ?_); refine goesL_ (some 18) rfl rfl Try.func32 (by kernel_rfl) rfl #[.slice A0 l0.length c0] rfl (by (try simp only [List.map_toArray, List.map_cons, List.map_nil]); first | done | rfl | (simp only [List.length_drop, List.length_take]; rfl)) ?_; (with_reducible refine (laws_toNoteS.calls k _ _ l0 t102 _ ?side1 ?side2 A5.out).mono ?_); (case side1 => repeat (first | exact (Kd.C_below HR0.out HB.out) | (with_reducible refine Kd.C_alloc ?_ _) | (with_reducible refine Kd.C_drewN ?_ _) | (with_reducible refine Kd.C_drew ?_))); (case side2 => exact HC0.out); rintro e w11 ⟨v103, rfl, ho0, hb⟩; refine ⟨_, rfl, ?_⟩; have n0_ := Aside0.mk (Kd.R_lower ho0 (below_size (by repeat (first | (with_reducible first | exact HB.out | apply below_alloc | apply pw_below_drewN | apply below_drew1) | exact HB.out)))); have n1_ := Aside0.mk (below_step (by repeat (first | (with_reducible first | exact HB.out | apply below_alloc | apply pw_below_drewN | apply below_drew1) | exact HB.out)) hb); clear HB; have HO104 := n0_; have HB := n1_; clear n0_ n1_; (try clear hb); (try clear hb2); (try clear hk); (try clear hi); (try clear ho0); obtain ⟨Ao12, co12, eo12⟩ := Kd.R_slice HO104.out; subst eo12) | ((with_reducible refine gate_callee (f := 35) rfl ?_); refine goesL_ (some 19) rfl rfl Try.func35 (by kernel_rfl) rfl #[.slice Ao12 t102.length co12] rfl (by (try simp only [List.map_toArray, List.map_cons, List.map_nil]); first | done | rfl | (simp only [List.length_drop, List.length_take]; rfl)) ?_; (with_reducible refine (spec_LongestGap.calls k _ _ t102 t105 t106 t107 _ ?side1 ?side2 A6.out).mono ?_); (case side1 => repeat (first | exact (Kd.R_reads' HO104.out).2.2 | (with_reducible refine Kd.C_alloc ?_ _) | (with_reducible refine Kd.C_drewN ?_ _) | (with_reducible refine Kd.C_drew ?_))); (case side2 => exact (Kd.R_reads' HO104.out).2.1); rintro e w13 ⟨rfl, hb⟩; refine ⟨_, rfl, ?_⟩; have n0_ := Aside0.mk (Kd.R_below (by (with_reducible repeat (first | apply Kd.R_alloc | apply Kd.R_drewN | apply Kd.R_drew)); exact HO104.out) hb); have n1_ := Aside0.mk (below_step (by repeat (first | (with_reducible first | exact HB.out | apply below_alloc | apply pw_below_drewN | apply below_drew1) | exact HB.out)) hb); clear HO104; clear HB; have HO104 := n0_; have HB := n1_; clear n0_ n1_; (try clear hb); (try clear hb2); (try clear hk); (try clear hi)) | ((with_reducible refine gate_callee (f := 32) rfl ?_); refine goesL_ (some 24) rfl rfl Try.func32 (by kernel_rfl) rfl #[.slice A0 l0.length c0] rfl (by (try simp only [List.map_toArray, List.map_cons, List.map_nil]); first | done | rfl | (simp only [List.length_drop, List.length_take]; rfl)) ?_; (with_reducible refine (laws_toNoteS.calls k _ _ l0 t108 _ ?side1 ?side2 A7.out).mono ?_); (case side1 => repeat (first | exact (Kd.C_below HR0.out HB.out) | (with_reducible refine Kd.C_alloc ?_ _) | (with_reducible refine Kd.C_drewN ?_ _) | (with_reducible refine Kd.C_drew ?_))); (case side2 => exact HC0.out); rintro e w14 ⟨v109, rfl, ho0, hb⟩; refine ⟨_, rfl, ?_⟩; have n0_ := Aside0.mk (Kd.R_elder' (by (with_reducible repeat (first | apply Kd.R_alloc | apply Kd.R_drewN | apply Kd.R_drew)); exact HO104.out) (Kd.R_base ho0) hb); have n1_ := Aside0.mk (Kd.R_lower (Kd.R_new' ho0 (Kd.R_lt (by (with_reducible repeat (first | apply Kd.R_alloc | apply Kd.R_drewN | apply Kd.R_drew)); exact HO104.out))) (below_size (by repeat (first | (with_reducible first | exact HB.out | apply below_alloc | apply pw_below_drewN | apply below_drew1) | exact HB.out)))); have n2_ := Aside0.mk (below_step (by repeat (first | (with_reducible first | exact HB.out | apply below_alloc | apply pw_below_drewN | apply below_drew1) | exact HB.out)) hb); clear HO104; clear HB; have HO104 := n0_; have HO110 := n1_; have HB := n2_; clear n0_ n1_ n2_; (try clear hb); (try clear hb2); (try clear hk); (try clear hi); (try clear ho0); obtain ⟨Ao15, co15, eo15⟩ := Kd.R_slice HO110.out; subst eo15) | ((with_reducible refine gate_callee (f := 36) rfl ?_); refine goesL_ (some 27) rfl rfl Try.func36 (by kernel_rfl) rfl #[.slice Ao15 t108.length co15] rfl (by (try simp only [List.map_toArray, List.map_cons, List.map_nil]); first | done | rfl | (simp only [List.length_drop, List.length_take]; rfl)) ?_; (with_reducible refine (impl_LongestGap.calls k _ _ t108 t111 t112 t113 _ ?side1 ?side2 A8.out).mono ?_); (case side1 => repeat (first | exact (Kd.R_reads' HO110.out).2.2 | (with_reducible refine Kd.C_alloc ?_ _) | (with_reducible refine Kd.C_drewN ?_ _) | (with_reducible refine Kd.C_drew ?_))); (case side2 => exact (Kd.R_reads' HO110.out).2.1); rintro e w16 ⟨rfl, hb⟩; refine ⟨_, rfl, ?_⟩; have n0_ := Aside0.mk (Kd.R_below (by (with_reducible repeat (first | apply Kd.R_alloc | apply Kd.R_drewN | apply Kd.R_drew)); exact HO104.out) hb); have n1_ := Aside0.mk (Kd.R_below (by (with_reducible repeat (first | apply Kd.R_alloc | apply Kd.R_drewN | apply Kd.R_drew)); exact HO110.out) hb); have n2_ := Aside0.mk (below_step (by repeat (first | (with_reducible first | exact HB.out | apply below_alloc | apply pw_below_drewN | apply below_drew1) | exact HB.out)) hb); clear HO104; clear HO110; clear HB; have HO104 := n0_; have HO110 := n1_; have HB := n2_; clear n0_ n1_ n2_; (try clear hb); (try clear hb2); (try clear hk); (try clear hi)))
    (try simp only [Act.put, List.setIfInBounds_toArray, List.set_cons_zero, List.set_cons_succ])
    go_cut [43] (fun v43 wc => ∃ (kq : Nat) (x43_8 : Bool), v43 = .bool x43_8 ∧ Aside0 (laws_FnExactLongestGap.j0 kq l0 t108 x43_8 = some r) ∧ Aside0 (kq ≤ k) ∧ Aside0 (Kd.R k37 37 wc w.heap.size (fun _ => True) (.slice Ao15 t108.length co15) t108) ∧ Aside0 (Below w.heap.size w wc))
    case first =>
      have H := HC9.out
      clear HC9
      by_cases c17 : t111 = t105
      · rw [if_pos c17] at H
        have c17b0 : (t111 == t105) = true := beq_iff_eq.mpr c17
        have c17b1 : (t111 != t105) = false := bne_eq_false_iff_eq.mpr c17
        clear c17
        (first | rw [c17b0] | (simp only [i64_w, i32_w]; rw [c17b0]) | skip)
        by_cases c18 : t112 = t106
        · rw [if_pos c18] at H
          have c18b0 : (t112 == t106) = true := beq_iff_eq.mpr c18
          have c18b1 : (t112 != t106) = false := bne_eq_false_iff_eq.mpr c18
          clear c18
          have H' := Aside0.mk H
          clear H
          go_wp2
          go_meet
          case rel => exact ⟨_, ((t113 != t107)), (by first | rfl | (simp; done) | (simp [*]; done)), H', ⟨by first | omega | exact Nat.le_refl _⟩, ⟨by (with_reducible repeat (first | apply Kd.R_alloc | apply Kd.R_drewN | apply Kd.R_drew)); exact Kd.R_mono HO110.out (fun _ hk => trivial)⟩, ⟨by repeat (first | (with_reducible first | exact HB.out | apply below_alloc | apply pw_below_drewN | apply below_drew1) | exact HB.out)⟩⟩
        · rw [if_neg c18] at H
          have c18b0 : (t112 == t106) = false := beq_eq_false_iff_ne.mpr c18
          have c18b1 : (t112 != t106) = true := bne_iff_ne.mpr c18
          have H' := Aside0.mk H
          clear H
          go_wp2
          go_meet
          case rel => exact ⟨_, (true), (by first | rfl | (simp; done) | (simp [*]; done)), H', ⟨by first | omega | exact Nat.le_refl _⟩, ⟨by (with_reducible repeat (first | apply Kd.R_alloc | apply Kd.R_drewN | apply Kd.R_drew)); exact Kd.R_mono HO110.out (fun _ hk => trivial)⟩, ⟨by repeat (first | (with_reducible first | exact HB.out | apply below_alloc | apply pw_below_drewN | apply below_drew1) | exact HB.out)⟩⟩
      · rw [if_neg c17] at H
        have c17b0 : (t111 == t105) = false := beq_eq_false_iff_ne.mpr c17
        have c17b1 : (t111 != t105) = true := bne_iff_ne.mpr c17
        (first | rw [c17b0] | (simp only [i64_w, i32_w]; rw [c17b0]) | skip)
        have H' := Aside0.mk H
        clear H
        go_wp2
        go_meet
        case rel => exact ⟨_, (true), (by first | rfl | (simp; done) | (simp [*]; done)), H', ⟨by first | omega | exact Nat.le_refl _⟩, ⟨by (with_reducible repeat (first | apply Kd.R_alloc | apply Kd.R_drewN | apply Kd.R_drew)); exact Kd.R_mono HO110.out (fun _ hk => trivial)⟩, ⟨by repeat (first | (with_reducible first | exact HB.out | apply below_alloc | apply pw_below_drewN | apply below_drew1) | exact HB.out)⟩⟩
    case rest =>
      clear HC9
      try clear c1
      try clear p2
      try clear c3
      try clear c3b0
      try clear c10
      try clear c17
      try clear c17b0
      try clear c17b1
      try clear c18
      try clear c18b0
      try clear c18b1
      obtain ⟨kq, x43_8, rfl, HA, HJ8, HO_7, HB⟩ := hcut
      cases kq with
      | zero => exact absurd HA.out (by simp [laws_FnExactLongestGap.j0])
      | succ kj8 =>
        have H := HA.out
        clear HA
        simp only [laws_FnExactLongestGap.j0] at H
        by_cases c19 : x43_8 = true
        · subst c19
          have H1 : (some false) = some r := by rw [if_pos rfl] at H; exact H
          clear H
          have H := H1
          clear H1
          exact absurd (Option.some.inj H) (by rw [ht_.out]; decide)
        · replace c19 := Bool.eq_false_iff.mpr c19
          subst c19
          have H1 : ((laws_toNoteS.f kj8 l0).bind fun t114 => ((laws_eqNoteS.f kj8 t108 t114).bind fun t117 => (if t117 = true then (some true) else (some false)))) = some r := by rw [if_neg (show ¬ (false = true) by decide)] at H; exact H
          clear H
          have H := H1
          clear H1
          replace H := Option.bind_eq_some_iff.mp H
          obtain ⟨t114, A200, H⟩ := H
          replace H : ((laws_eqNoteS.f kj8 t108 t114).bind fun t117 => (if t117 = true then (some true) else (some false))) = some r := H
          have A20 := Aside0.mk A200
          clear A200
          replace H := Option.bind_eq_some_iff.mp H
          obtain ⟨t117, A210, H⟩ := H
          replace H : (if t117 = true then (some true) else (some false)) = some r := H
          have A21 := Aside0.mk A210
          clear A210
          by_cases c22 : t117 = true
          · subst c22
            have H1 : (some true) = some r := by rw [if_pos rfl] at H; exact H
            clear H
            have H := H1
            clear H1
            obtain rfl := Option.some.inj H
            go_wp2_with (first | ((with_reducible refine gate_callee (f := 32) rfl ?_); refine goesL_ (some 46) rfl rfl Try.func32 (by kernel_rfl) rfl #[.slice A0 l0.length c0] rfl (by (try simp only [List.map_toArray, List.map_cons, List.map_nil]); first | done | rfl | (simp only [List.length_drop, List.length_take]; rfl)) ?_; (with_reducible refine (laws_toNoteS.calls kj8 _ _ l0 t114 _ ?side1 ?side2 A20.out).mono ?_); (case side1 => repeat (first | exact (Kd.C_below HR0.out HB.out) | (with_reducible refine Kd.C_alloc ?_ _) | (with_reducible refine Kd.C_drewN ?_ _) | (with_reducible refine Kd.C_drew ?_))); (case side2 => exact HC0.out); rintro e w23 ⟨v115, rfl, ho0, hb⟩; refine ⟨_, rfl, ?_⟩; have n0_ := Aside0.mk (Kd.R_elder' (by (with_reducible repeat (first | apply Kd.R_alloc | apply Kd.R_drewN | apply Kd.R_drew)); exact HO_7.out) (Kd.R_base ho0) hb); have n1_ := Aside0.mk (Kd.R_lower (Kd.R_new' ho0 (Kd.R_lt (by (with_reducible repeat (first | apply Kd.R_alloc | apply Kd.R_drewN | apply Kd.R_drew)); exact HO_7.out))) (below_size (by repeat (first | (with_reducible first | exact HB.out | apply below_alloc | apply pw_below_drewN | apply below_drew1) | exact HB.out)))); have n2_ := Aside0.mk (below_step (by repeat (first | (with_reducible first | exact HB.out | apply below_alloc | apply pw_below_drewN | apply below_drew1) | exact HB.out)) hb); clear HO_7; clear HB; have HO_7 := n0_; have HO116 := n1_; have HB := n2_; clear n0_ n1_ n2_; (try clear hb); (try clear hb2); (try clear hk); (try clear hi); (try clear ho0); obtain ⟨Ao24, co24, eo24⟩ := Kd.R_slice HO116.out; subst eo24) | ((with_reducible refine gate_callee (f := 34) rfl ?_); refine goesL_ (some 47) rfl rfl Try.func34 (by kernel_rfl) rfl #[.slice Ao15 t108.length co15, .slice Ao24 t114.length co24] rfl (by (try simp only [List.map_toArray, List.map_cons, List.map_nil]); first | done | rfl | (simp only [List.length_drop, List.length_take]; rfl)) ?_; (with_reducible refine (laws_eqNoteS.calls kj8 _ _ t108 _ _ t114 true _ ?side1 ?side2 ?side3 ?side4 A21.out).mono ?_); (case side1 => repeat (first | exact (Kd.R_reads' HO_7.out).2.2 | (with_reducible refine Kd.C_alloc ?_ _) | (with_reducible refine Kd.C_drewN ?_ _) | (with_reducible refine Kd.C_drew ?_))); (case side2 => exact (Kd.R_reads' HO_7.out).2.1); (case side3 => repeat (first | exact (Kd.R_reads' HO116.out).2.2 | (with_reducible refine Kd.C_alloc ?_ _) | (with_reducible refine Kd.C_drewN ?_ _) | (with_reducible refine Kd.C_drew ?_))); (case side4 => exact (Kd.R_reads' HO116.out).2.1); rintro e w25 ⟨rfl, hb⟩; refine ⟨_, rfl, ?_⟩; have n0_ := Aside0.mk (Kd.R_below (by (with_reducible repeat (first | apply Kd.R_alloc | apply Kd.R_drewN | apply Kd.R_drew)); exact HO_7.out) hb); have n1_ := Aside0.mk (Kd.R_below (by (with_reducible repeat (first | apply Kd.R_alloc | apply Kd.R_drewN | apply Kd.R_drew)); exact HO116.out) hb); have n2_ := Aside0.mk (below_step (by repeat (first | (with_reducible first | exact HB.out | apply below_alloc | apply pw_below_drewN | apply below_drew1) | exact HB.out)) hb); clear HO_7; clear HO116; clear HB; have HO_7 := n0_; have HO116 := n1_; have HB := n2_; clear n0_ n1_ n2_; (try clear hb); (try clear hb2); (try clear hk); (try clear hi)))
            go_ret
            exact ⟨by first | rfl | (simp [errW_none, errW_some] <;> rfl) | (simp [*, errW_none, errW_some] <;> rfl), by repeat (first | (with_reducible first | exact HB.out | apply below_alloc | apply pw_below_drewN | apply below_drew1) | exact HB.out)⟩
          · replace c22 := Bool.eq_false_iff.mpr c22
            subst c22
            have H1 : (some false) = some r := by rw [if_neg (show ¬ (false = true) by decide)] at H; exact H
            clear H
            have H := H1
            clear H1
            exact absurd (Option.some.inj H) (by rw [ht_.out]; decide)

/-- THE ONE PURE STATEMENT of laws_FnExactLongestGap. -/
def laws_FnExactLongestGap.Pure : Prop := ∀ (l0 : List (S34)), ((∀ a_, a_ ∈ l0 → gT34 a_) ∧ l0.length * 32 ≤ 140737488351232) → ∃ k, laws_FnExactLongestGap.f k l0 = some true
theorem laws_FnExactLongestGap.walk (P : laws_FnExactLongestGap.Pure) (A0 : Option Addr) (c0 : Nat) (l0 : List (S34)) (w : World) (hr0 : Kd.C k34 w A0 l0.length l0) (hc0 : l0.length ≤ c0) (b0 : ((∀ a_, a_ ∈ l0 → gT34 a_) ∧ l0.length * 32 ≤ 140737488351232)) :
    Calls Try.prog 10 #[.slice A0 l0.length c0] w fun e w' => e = .returned (.bool true) ∧ Below w.heap.size w w' := by
  obtain ⟨k, h⟩ := P l0 b0
  refine (laws_FnExactLongestGap.calls k A0 c0 l0 true w hr0 hc0 ⟨rfl⟩ h).mono ?_
  rintro e w' ⟨rfl, hd⟩
  exact ⟨rfl, hd⟩

end Go.Proofs.Ythmegimmnhkkhaa.G
