-- Written by this session's own program over the kit's print (wip/tools/myprint.py); Lean checks it.
import Derived.Test.YtphjmmaeolbggaaG0
import Derived.Test.YtphjmmaeolbggaaG20
import Derived.Test.YtphjmmaeolbggaaG21
import Derived.Test.YtphjmmaeolbggaaG22
import Derived.Test.YtphjmmaeolbggaaG25
import Derived.Test.YtphjmmaeolbggaaG27
import Derived.Test.YtphjmmaeolbggaaG34
import Derived.Test.YtphjmmaeolbggaaG50
import Derived.Test.YtphjmmaeolbggaaMOwn
namespace Go.Proofs.Ytphjmmaeolbggaa.G
open Go.RowKit Go.Proofs.YtphjmmaeolbggaaW.PrintWords Go.Proofs.YtphjmmaeolbggaaW.PrintLast Go.Proofs.YtphjmmaeolbggaaW.PrintMore
attribute [local go_sem] max2_int min2_int max_two min_two max_three min_three max_four min_four str_geq str_gtr str_leq   -- for this text's walks alone
set_option linter.unusedVariables false
set_option linter.unusedSimpArgs false

attribute [local go_sem high] eqA81
/-! ### slices_Index_Note: function 120 -/
def slices_Index_Note.l0 : Nat → List (S81) → Int → Int → Int → Int → ByteArray → Option (Int)
  | 0, _, _, _, _, _, _ => none
  | k + 1, x0, x7, x8, x102000, x102001, x102002 => if x8 < x7 then (if 0 ≤ x8 then (if x8 < (x0.length : Int) then (if (x102000 == ((rd_T81 x0 x8).f0) && (x102001 == ((rd_T81 x0 x8).f1) && (x102002.toList == (((rd_T81 x0 x8).f2).toList)))) = true then (some x8) else (slices_Index_Note.l0 k x0 x7 (wrap64 (x8 + 1)) x102000 x102001 x102002)) else (none)) else (none)) else (some (-1))
def slices_Index_Note.f (k : Nat) (l0 : List (S81)) (a1_0 : Int) (a1_1 : Int) (a1_2 : ByteArray) : Option (Int) := slices_Index_Note.l0 k l0 (l0.length : Int) 0 a1_0 a1_1 a1_2
theorem slices_Index_Note.mono_l : ∀ k, (∀ y0 y1 y2 y3 y4 y5, LeO (slices_Index_Note.l0 k y0 y1 y2 y3 y4 y5) (slices_Index_Note.l0 (k + 1) y0 y1 y2 y3 y4 y5))
  | 0 => fun _ _ _ _ _ _ r h => by simp [slices_Index_Note.l0] at h
  | k + 1 => by
    have ih0 := slices_Index_Note.mono_l k
    · intro y0 y1 y2 y3 y4 y5
      unfold slices_Index_Note.l0
      repeat' first
      | (with_reducible exact ih0 _ _ _ _ _ _)
      | (with_reducible exact LeO.refl _)
      | (with_reducible exact LeO.none _)
      | (with_reducible refine LeO.ite ?_ ?_)
      | (with_reducible refine LeO.bind ?_ (fun _ => ?_))
      | exact ih0 _ _ _ _ _ _
      | exact LeO.none _
      | refine LeO.ite ?_ ?_
      | refine LeO.bind ?_ (fun _ => ?_)
theorem slices_Index_Note.mono : ∀ a0 a1 a2 a3 k, LeO (slices_Index_Note.f k a0 a1 a2 a3) (slices_Index_Note.f (k + 1) a0 a1 a2 a3) := by
  intro a0 a1 a2 a3 k
  have ih0 := slices_Index_Note.mono_l k
  unfold slices_Index_Note.f
  repeat' first
      | (with_reducible exact ih0 _ _ _ _ _ _)
      | (with_reducible exact LeO.refl _)
      | (with_reducible exact LeO.none _)
      | (with_reducible refine LeO.ite ?_ ?_)
      | (with_reducible refine LeO.bind ?_ (fun _ => ?_))
      | exact ih0 _ _ _ _ _ _
      | exact LeO.none _
      | refine LeO.ite ?_ ?_
      | refine LeO.bind ?_ (fun _ => ?_)
set_option maxHeartbeats 8000000 in
set_option maxRecDepth 100000 in
theorem slices_Index_Note.calls (k : Nat) (A0 : Option Addr) (c0 : Nat) (l0 : List (S81)) (a1_0 : Int) (a1_1 : Int) (a1_2 : ByteArray) (r : Int) (w : World) (hr0 : Kd.C k81 w A0 l0.length l0) (hc0 : l0.length ≤ c0) (h : slices_Index_Note.f k l0 a1_0 a1_1 a1_2 = some r) :
    Calls Try.prog 120 #[.slice A0 l0.length c0, .agg #[.int .i64 a1_0, .int .i64 a1_1, .string a1_2]] w fun e w' => e = .returned (.int .i64 r) ∧ Below w.heap.size w w' := by
  have hu81 := Try.underlying81
  have HR0 := Aside0.mk hr0
  have HC0 := Aside0.mk hc0
  clear hr0 hc0
  have HB := Aside0.mk (Below.refl w.heap.size w)
  have H : (slices_Index_Note.l0 k l0 (l0.length : Int) 0 a1_0 a1_1 a1_2) = some r := h
  clear h
  have H' := Aside0.mk H
  clear H
  go_enter Try.func120, Try.ntmps120
  go_wp2_with (first | ((with_reducible refine gate_dst (N := 3) rfl ?_); refine box_event ?hg (N := 3) ?hd (cs := #[.int .i64 a1_0, .int .i64 a1_1, .string a1_2]) (t := 81) ?hr ?_; (case hd => rfl); (case hg => rfl); (case hr => first | (go_simp; done) | (go_simp; rfl)); intro gb101 hg w3 hbox hb; have n0_ := Aside0.mk (below_step (by repeat (first | (with_reducible first | exact HB.out | apply below_alloc | apply pw_below_drewN | apply below_drew1) | exact HB.out)) hb); have n1_ := Aside0.mk (hbox); have n2_ := Aside0.mk ((by rw [hg]; exact (below_size (by repeat (first | (with_reducible first | exact HB.out | apply below_alloc | apply pw_below_drewN | apply below_drew1) | exact HB.out))) : w.heap.size ≤ gb101)); have n3_ := Aside0.mk ((by rw [hg]; exact (below_size (by repeat (first | (with_reducible first | exact HB.out | apply below_alloc | apply pw_below_drewN | apply below_drew1) | exact HB.out))) : w.heap.size ≤ gb101)); clear HB; have HB := n0_; have BK101 := n1_; have GW101 := n2_; have GE101 := n3_; clear n0_ n1_ n2_ n3_; clear hb hbox hg))
  repeat (go_quiet (first | ((with_reducible refine gate_dst (N := 3) rfl ?_); refine box_event ?hg (N := 3) ?hd (cs := #[.int .i64 a1_0, .int .i64 a1_1, .string a1_2]) (t := 81) ?hr ?_; (case hd => rfl); (case hg => rfl); (case hr => first | (go_simp; done) | (go_simp; rfl)); intro gb101 hg w3 hbox hb; have n0_ := Aside0.mk (below_step (by repeat (first | (with_reducible first | exact HB.out | apply below_alloc | apply pw_below_drewN | apply below_drew1) | exact HB.out)) hb); have n1_ := Aside0.mk (hbox); have n2_ := Aside0.mk ((by rw [hg]; exact (below_size (by repeat (first | (with_reducible first | exact HB.out | apply below_alloc | apply pw_below_drewN | apply below_drew1) | exact HB.out))) : w.heap.size ≤ gb101)); have n3_ := Aside0.mk ((by rw [hg]; exact (below_size (by repeat (first | (with_reducible first | exact HB.out | apply below_alloc | apply pw_below_drewN | apply below_drew1) | exact HB.out))) : w.heap.size ≤ gb101)); clear HB; have HB := n0_; have BK101 := n1_; have GW101 := n2_; have GE101 := n3_; clear n0_ n1_ n2_ n3_; clear hb hbox hg)); try go_wp2_with (first | ((with_reducible refine gate_dst (N := 3) rfl ?_); refine box_event ?hg (N := 3) ?hd (cs := #[.int .i64 a1_0, .int .i64 a1_1, .string a1_2]) (t := 81) ?hr ?_; (case hd => rfl); (case hg => rfl); (case hr => first | (go_simp; done) | (go_simp; rfl)); intro gb101 hg w3 hbox hb; have n0_ := Aside0.mk (below_step (by repeat (first | (with_reducible first | exact HB.out | apply below_alloc | apply pw_below_drewN | apply below_drew1) | exact HB.out)) hb); have n1_ := Aside0.mk (hbox); have n2_ := Aside0.mk ((by rw [hg]; exact (below_size (by repeat (first | (with_reducible first | exact HB.out | apply below_alloc | apply pw_below_drewN | apply below_drew1) | exact HB.out))) : w.heap.size ≤ gb101)); have n3_ := Aside0.mk ((by rw [hg]; exact (below_size (by repeat (first | (with_reducible first | exact HB.out | apply below_alloc | apply pw_below_drewN | apply below_drew1) | exact HB.out))) : w.heap.size ≤ gb101)); clear HB; have HB := n0_; have BK101 := n1_; have GW101 := n2_; have GE101 := n3_; clear n0_ n1_ n2_ n3_; clear hb hbox hg)))
  go_loopg [8] k (fun kq v8 w' => ∃ (x8_1 : Int), v8 = .int .i64 x8_1 ∧ Aside0 (slices_Index_Note.l0 kq l0 (l0.length : Int) x8_1 a1_0 a1_1 a1_2 = some r) ∧ Aside0 (kq ≤ k) ∧ Aside0 (w'.heap[gb101]? = some (.cells #[.int .i64 a1_0, .int .i64 a1_1, .string a1_2] 81 (0, 0))) ∧ Aside0 (Below w.heap.size w w'))
  case atStart => exact ⟨(0), (by first | rfl | (simp; done) | (simp [*]; done)), H', ⟨Nat.le_refl _⟩, ⟨by (with_reducible repeat (first | refine blk_drewN ?_ _ | refine blk_drew ?_ | refine blk_alloc ?_ _)); exact BK101.out⟩, ⟨by repeat (first | (with_reducible first | exact HB.out | apply below_alloc | apply pw_below_drewN | apply below_drew1 | refine below_set ?_ GE101.out) | exact HB.out)⟩⟩
  case round =>
    clear H'
    try clear c1
    try clear p2
    obtain ⟨x8_1, rfl, HA, HK1, BK101, HB⟩ := hrel
    cases gk with
    | zero => exact absurd HA.out (by simp [slices_Index_Note.l0])
    | succ k1 =>
      have H := HA.out
      clear HA
      simp only [slices_Index_Note.l0] at H
      by_cases c4 : x8_1 < (l0.length : Int)
      · rw [if_pos c4] at H
        have c4b0 : decide (x8_1 < (l0.length : Int)) = true := decide_eq_true c4
        clear c4
        by_cases c5 : 0 ≤ x8_1
        · rw [if_pos c5] at H
          have c5b0 : decide (0 ≤ x8_1) = true := decide_eq_true c5
          clear c5
          by_cases c6 : x8_1 < (l0.length : Int)
          · rw [if_pos c6] at H
            have c6b0 : decide (x8_1 < (l0.length : Int)) = true := decide_eq_true c6
            clear c6
            by_cases c7 : (a1_0 == ((rd_T81 l0 x8_1).f0) && (a1_1 == ((rd_T81 l0 x8_1).f1) && (a1_2.toList == (((rd_T81 l0 x8_1).f2).toList)))) = true
            · rw [if_pos c7] at H
              have c7b0 : (a1_0 == ((rd_T81 l0 x8_1).f0) && (a1_1 == ((rd_T81 l0 x8_1).f1) && (a1_2.toList == (((rd_T81 l0 x8_1).f2).toList)))) = true := c7
              (try (have c7b1 : decide (a1_0 = ((rd_T81 l0 x8_1).f0) && (a1_1 == ((rd_T81 l0 x8_1).f1) && (a1_2.toList == (((rd_T81 l0 x8_1).f2).toList)))) = true := by simpa using c7))
              (try (have c7b2 : (a1_0 == ((rd_T81 l0 x8_1).f0) && (a1_1 == ((rd_T81 l0 x8_1).f1) && (a1_2.toList == (((rd_T81 l0 x8_1).f2).toList)))) = true := by simpa using c7))
              clear c7
              obtain rfl := Option.some.inj H
              have hcz8_0 : wr.cell? ⟨gb101, 0, none⟩ = some (.int .i64 a1_0) := (blk_cell BK101.out 0).trans rfl
              have hcz8_1 : wr.cell? ⟨gb101, 1, none⟩ = some (.int .i64 a1_1) := (blk_cell BK101.out 1).trans rfl
              have hcz8_2 : wr.cell? ⟨gb101, 2, none⟩ = some (.string a1_2) := (blk_cell BK101.out 2).trans rfl
              have hfz8_0 := blk_frozen BK101.out 0
              have hfz8_1 := blk_frozen BK101.out 1
              have hfz8_2 := blk_frozen BK101.out 2
              have p102 : 0 ≤ (x8_1 : Int) := of_decide_eq_true (by first | (with_reducible assumption) | assumption)
              have q102 : x8_1 < (l0.length : Int) := of_decide_eq_true (by first | (with_reducible assumption) | assumption)
              obtain ⟨ad102, e102, hx102_0, hx102_1, hx102_2⟩ := at_T81 HR0.out x8_1 p102 q102
              cases e102
              replace hx102_0 := (HB.out.cell (World.block_lt_of_cell? w _ hx102_0)).trans hx102_0
              replace hx102_1 := (HB.out.cell (World.block_lt_of_cell? w _ hx102_1)).trans hx102_1
              replace hx102_2 := (HB.out.cell (World.block_lt_of_cell? w _ hx102_2)).trans hx102_2
              replace p102 := eq_true p102
              replace q102 := eq_true q102
              go_wp2
              repeat (go_quiet (fail); try go_wp2)
              go_ret
              exact ⟨by first | rfl | (simp [errW_none, errW_some] <;> rfl) | (simp [*, errW_none, errW_some] <;> rfl), by repeat (first | (with_reducible first | exact HB.out | apply below_alloc | apply pw_below_drewN | apply below_drew1 | refine below_set ?_ GE101.out) | exact HB.out)⟩
            · rw [if_neg c7] at H
              have c7b0 : (a1_0 == ((rd_T81 l0 x8_1).f0) && (a1_1 == ((rd_T81 l0 x8_1).f1) && (a1_2.toList == (((rd_T81 l0 x8_1).f2).toList)))) = false := by simpa using c7
              (try (have c7b1 : decide (a1_0 = ((rd_T81 l0 x8_1).f0) && (a1_1 == ((rd_T81 l0 x8_1).f1) && (a1_2.toList == (((rd_T81 l0 x8_1).f2).toList)))) = false := by simpa using c7))
              (try (have c7b2 : (a1_0 == ((rd_T81 l0 x8_1).f0) && (a1_1 == ((rd_T81 l0 x8_1).f1) && (a1_2.toList == (((rd_T81 l0 x8_1).f2).toList)))) = false := by simpa using c7))
              (try (have c7b3 : ¬ (a1_0 = ((rd_T81 l0 x8_1).f0) && (a1_1 == ((rd_T81 l0 x8_1).f1) && (a1_2.toList == (((rd_T81 l0 x8_1).f2).toList)))) := by simpa using c7))
              clear c7
              have H' := Aside0.mk H
              clear H
              have hcz9_0 : wr.cell? ⟨gb101, 0, none⟩ = some (.int .i64 a1_0) := (blk_cell BK101.out 0).trans rfl
              have hcz9_1 : wr.cell? ⟨gb101, 1, none⟩ = some (.int .i64 a1_1) := (blk_cell BK101.out 1).trans rfl
              have hcz9_2 : wr.cell? ⟨gb101, 2, none⟩ = some (.string a1_2) := (blk_cell BK101.out 2).trans rfl
              have hfz9_0 := blk_frozen BK101.out 0
              have hfz9_1 := blk_frozen BK101.out 1
              have hfz9_2 := blk_frozen BK101.out 2
              have p102 : 0 ≤ (x8_1 : Int) := of_decide_eq_true (by first | (with_reducible assumption) | assumption)
              have q102 : x8_1 < (l0.length : Int) := of_decide_eq_true (by first | (with_reducible assumption) | assumption)
              obtain ⟨ad102, e102, hx102_0, hx102_1, hx102_2⟩ := at_T81 HR0.out x8_1 p102 q102
              cases e102
              replace hx102_0 := (HB.out.cell (World.block_lt_of_cell? w _ hx102_0)).trans hx102_0
              replace hx102_1 := (HB.out.cell (World.block_lt_of_cell? w _ hx102_1)).trans hx102_1
              replace hx102_2 := (HB.out.cell (World.block_lt_of_cell? w _ hx102_2)).trans hx102_2
              replace p102 := eq_true p102
              replace q102 := eq_true q102
              go_wp2
              repeat (go_quiet (fail); try go_wp2)
              go_roundg k1
              case measure => have := HK1.out; omega
              case rel => exact ⟨(wrap64 (x8_1 + 1)), (by first | rfl | (simp; done) | (simp [*]; done)), H', ⟨by have := HK1.out; omega⟩, ⟨by (with_reducible repeat (first | refine blk_drewN ?_ _ | refine blk_drew ?_ | refine blk_alloc ?_ _)); exact BK101.out⟩, ⟨by repeat (first | (with_reducible first | exact HB.out | apply below_alloc | apply pw_below_drewN | apply below_drew1 | refine below_set ?_ GE101.out) | exact HB.out)⟩⟩
          · rw [if_neg c6] at H
            exact absurd H (by simp)
        · rw [if_neg c5] at H
          exact absurd H (by simp)
      · rw [if_neg c4] at H
        have c4b0 : decide (x8_1 < (l0.length : Int)) = false := decide_eq_false c4
        clear c4
        obtain rfl := Option.some.inj H
        go_wp2
        repeat (go_quiet (fail); try go_wp2)
        go_ret
        exact ⟨by first | rfl | (simp [errW_none, errW_some] <;> rfl) | (simp [*, errW_none, errW_some] <;> rfl), by repeat (first | (with_reducible first | exact HB.out | apply below_alloc | apply pw_below_drewN | apply below_drew1 | refine below_set ?_ GE101.out) | exact HB.out)⟩

/-! ### slices_Contains_Note: function 93 -/
def slices_Contains_Note.f (k : Nat) (l0 : List (S81)) (a1_0 : Int) (a1_1 : Int) (a1_2 : ByteArray) : Option (Bool) := (slices_Index_Note.f k l0 a1_0 a1_1 a1_2).bind fun t102 => (some (decide (t102 ≥ 0)))
theorem slices_Contains_Note.mono : ∀ a0 a1 a2 a3 k, LeO (slices_Contains_Note.f k a0 a1 a2 a3) (slices_Contains_Note.f (k + 1) a0 a1 a2 a3) := by
  intro a0 a1 a2 a3 k
  unfold slices_Contains_Note.f
  repeat' first
      | (with_reducible exact slices_Index_Note.mono _ _ _ _ _)
      | (with_reducible exact LeO.refl _)
      | (with_reducible exact LeO.none _)
      | (with_reducible refine LeO.ite ?_ ?_)
      | (with_reducible refine LeO.bind ?_ (fun _ => ?_))
      | exact slices_Index_Note.mono _ _ _ _ _
      | exact LeO.none _
      | refine LeO.ite ?_ ?_
      | refine LeO.bind ?_ (fun _ => ?_)
set_option maxHeartbeats 8000000 in
set_option maxRecDepth 100000 in
theorem slices_Contains_Note.calls (k : Nat) (A0 : Option Addr) (c0 : Nat) (l0 : List (S81)) (a1_0 : Int) (a1_1 : Int) (a1_2 : ByteArray) (r : Bool) (w : World) (hr0 : Kd.C k81 w A0 l0.length l0) (hc0 : l0.length ≤ c0) (h : slices_Contains_Note.f k l0 a1_0 a1_1 a1_2 = some r) :
    Calls Try.prog 93 #[.slice A0 l0.length c0, .agg #[.int .i64 a1_0, .int .i64 a1_1, .string a1_2]] w fun e w' => e = .returned (.bool r) ∧ Below w.heap.size w w' := by
  have hu81 := Try.underlying81
  have HR0 := Aside0.mk hr0
  have HC0 := Aside0.mk hc0
  clear hr0 hc0
  have HB := Aside0.mk (Below.refl w.heap.size w)
  have H : ((slices_Index_Note.f k l0 a1_0 a1_1 a1_2).bind fun t102 => (some (decide (t102 ≥ 0)))) = some r := h
  clear h
  replace H := Option.bind_eq_some_iff.mp H
  obtain ⟨t102, A30, H⟩ := H
  replace H : (some (decide (t102 ≥ 0))) = some r := H
  have A3 := Aside0.mk A30
  clear A30
  obtain rfl := Option.some.inj H
  go_enter Try.func93, Try.ntmps93
  go_wp2_with (first | ((with_reducible refine gate_dst (N := 3) rfl ?_); refine box_event ?hg (N := 3) ?hd (cs := #[.int .i64 a1_0, .int .i64 a1_1, .string a1_2]) (t := 81) ?hr ?_; (case hd => rfl); (case hg => rfl); (case hr => first | (go_simp; done) | (go_simp; rfl)); intro gb101 hg w4 hbox hb; have n0_ := Aside0.mk (below_step (by repeat (first | (with_reducible first | exact HB.out | apply below_alloc | apply pw_below_drewN | apply below_drew1) | exact HB.out)) hb); have n1_ := Aside0.mk (hbox); have n2_ := Aside0.mk ((by rw [hg]; exact (below_size (by repeat (first | (with_reducible first | exact HB.out | apply below_alloc | apply pw_below_drewN | apply below_drew1) | exact HB.out))) : w.heap.size ≤ gb101)); have n3_ := Aside0.mk ((by rw [hg]; exact (below_size (by repeat (first | (with_reducible first | exact HB.out | apply below_alloc | apply pw_below_drewN | apply below_drew1) | exact HB.out))) : w.heap.size ≤ gb101)); clear HB; have HB := n0_; have BK101 := n1_; have GW101 := n2_; have GE101 := n3_; clear n0_ n1_ n2_ n3_; clear hb hbox hg; have hcz5_0 : w4.cell? ⟨gb101, 0, none⟩ = some (.int .i64 a1_0) := (blk_cell BK101.out 0).trans rfl; have hcz5_1 : w4.cell? ⟨gb101, 1, none⟩ = some (.int .i64 a1_1) := (blk_cell BK101.out 1).trans rfl; have hcz5_2 : w4.cell? ⟨gb101, 2, none⟩ = some (.string a1_2) := (blk_cell BK101.out 2).trans rfl; have hfz5_0 := blk_frozen BK101.out 0; have hfz5_1 := blk_frozen BK101.out 1; have hfz5_2 := blk_frozen BK101.out 2) | ((with_reducible refine gate_callee (f := 120) rfl ?_); refine goesL_ (some 7) rfl rfl Try.func120 (by kernel_rfl) rfl #[.slice A0 l0.length c0, .agg #[.int .i64 a1_0, .int .i64 a1_1, .string a1_2]] rfl (by (try simp only [List.map_toArray, List.map_cons, List.map_nil]); first | done | rfl | (simp only [List.length_drop, List.length_take]; rfl)) ?_; (with_reducible refine (slices_Index_Note.calls k _ _ l0 a1_0 a1_1 a1_2 t102 _ ?side1 ?side2 A3.out).mono ?_); (case side1 => repeat (first | exact (Kd.C_below HR0.out HB.out) | (with_reducible refine Kd.C_alloc ?_ _) | (with_reducible refine Kd.C_drewN ?_ _) | (with_reducible refine Kd.C_drew ?_))); (case side2 => exact HC0.out); rintro e w6 ⟨rfl, hb⟩; refine ⟨_, rfl, ?_⟩; have n0_ := Aside0.mk (blk_below (g := gb101) (o := .cells #[.int .i64 a1_0, .int .i64 a1_1, .string a1_2] 81 (0, 0)) (by (with_reducible repeat (first | refine blk_drewN ?_ _ | refine blk_drew ?_ | refine blk_alloc ?_ _)); exact BK101.out) hb); have n1_ := Aside0.mk (below_step (by repeat (first | (with_reducible first | exact HB.out | apply below_alloc | apply pw_below_drewN | apply below_drew1 | refine below_set ?_ GE101.out) | exact HB.out)) hb); clear BK101; clear HB; have BK101 := n0_; have HB := n1_; clear n0_ n1_; (try clear hb); (try clear hb2); (try clear hk); (try clear hi)))
  go_ret
  exact ⟨by first | rfl | (simp [errW_none, errW_some] <;> rfl) | (simp [*, errW_none, errW_some] <;> rfl), by repeat (first | (with_reducible first | exact HB.out | apply below_alloc | apply pw_below_drewN | apply below_drew1 | refine below_set ?_ GE101.out) | exact HB.out)⟩

/-! ### impl_CommonNotes: function 38 -/
/-- Whether a list has a note. -/
def impl_CommonNotes.has (l : List S81) (x : S81) : Bool := l.any (fun y => x.f0 == y.f0 && (x.f1 == y.f1 && x.f2.toList == y.f2.toList))
def impl_CommonNotes.p (l : List S81) (x : S81) : Bool := !impl_CommonNotes.has l x
def impl_CommonNotes.f (k : Nat) (l0 l1 : List S81) : Option (List S81 × Bool) := (impl_IsTier.f k l0).bind fun t => if t = true then ((impl_IsTier.f k l1).bind fun u => if u = true then (if l0.length * 32 ≤ 140737488355328 then some (l0.filter (fun x => !impl_CommonNotes.p l1 x), true) else none) else some ([], false)) else some ([], false)
theorem impl_CommonNotes.mono : ∀ a0 a1 k, LeO (impl_CommonNotes.f k a0 a1) (impl_CommonNotes.f (k + 1) a0 a1) := fun a0 a1 k => LeO.bind (impl_IsTier.mono a0 k) (fun t => by
  by_cases h : t = true
  · rw [if_pos h, if_pos h]; exact LeO.bind (impl_IsTier.mono a1 k) (fun _ => LeO.refl _)
  · rw [if_neg h, if_neg h]; exact LeO.refl _)
theorem impl_CommonNotes.look (l : List S81) (hl : l.length ≤ 9223372036854775807) (x : S81) : ∀ d j : Nat, j + d = l.length → ∃ r, slices_Index_Note.l0 (d + 1) l (l.length : Int) (j : Int) x.f0 x.f1 x.f2 = some r ∧ decide (r ≥ 0) = impl_CommonNotes.has (l.drop j) x
  | 0, j, hj => by
    rw [List.drop_eq_nil_of_le (by omega)]
    refine ⟨-1, ?_, rfl⟩
    rw [slices_Index_Note.l0, if_neg (by omega)]
  | d + 1, j, hj => by
    obtain ⟨r, h1, h2⟩ := impl_CommonNotes.look l hl x d (j + 1) (by omega)
    have hw : wrap64 ((j : Int) + 1) = ((j + 1 : Nat) : Int) := by unfold wrap64; omega
    have e : rd_T81 l (j : Int) = l[j]'(by omega) := by
      show l.getD j z81 = _
      rw [List.getD_eq_getElem?_getD, List.getElem?_eq_getElem (by omega)]
      rfl
    rw [slices_Index_Note.l0, if_pos (by omega), if_pos (by omega), if_pos (by omega), hw, h1, List.drop_eq_getElem_cons (show j < l.length by omega), impl_CommonNotes.has, List.any_cons, ← e]
    by_cases hq : (x.f0 == (rd_T81 l (j : Int)).f0 && (x.f1 == (rd_T81 l (j : Int)).f1 && (x.f2.toList == (rd_T81 l (j : Int)).f2.toList))) = true
    · rw [if_pos hq, hq]
      exact ⟨_, rfl, by simp⟩
    · rw [if_neg hq, Bool.eq_false_iff.2 hq, Bool.false_or]
      exact ⟨_, rfl, h2⟩
theorem impl_CommonNotes.contains (l : List S81) (hl : l.length ≤ 9223372036854775807) (x : S81) : slices_Contains_Note.f (l.length + 1) l x.f0 x.f1 x.f2 = some (impl_CommonNotes.has l x) := by
  obtain ⟨r, h1, h2⟩ := impl_CommonNotes.look l hl x l.length 0 (by omega)
  unfold slices_Contains_Note.f slices_Index_Note.f
  have h3 : slices_Index_Note.l0 (l.length + 1) l (l.length : Int) 0 x.f0 x.f1 x.f2 = some r := h1
  rw [h3]
  exact congrArg some h2
set_option maxHeartbeats 4000000 in
set_option maxRecDepth 100000 in
theorem impl_CommonNotes.pred (A1 : Option Addr) (c1 : Nat) (l1 : List S81) (B : Nat) (w : World) (hr1 : Kd.C k81 w A1 l1.length l1) (hc1 : l1.length ≤ c1) (hB : B < w.heap.size) (hb0 : w.cell? ⟨B, 0, none⟩ = some (.slice A1 l1.length c1)) (W : World) (x : S81) (hb : Below w.heap.size w W) :
    Calls Try.prog 92 (#[.agg #[.int .i64 x.f0, .int .i64 x.f1, .string x.f2]] ++ #[.pointer (some ⟨B, 0, none⟩)]) W fun e w' => e = .returned (.bool (impl_CommonNotes.p l1 x)) ∧ Below W.heap.size W w' := by
  have hb1 : W.cell? ⟨B, 0, none⟩ = some (.slice A1 l1.length c1) := (hb.cell (p := ⟨B, 0, none⟩) hB).trans hb0
  have hBW : B < W.heap.size := Nat.lt_of_lt_of_le hB hb.size
  have hne : B ≠ W.heap.size := by omega
  have HT := Aside0.mk (impl_CommonNotes.contains l1 hr1.2.1 x)
  have HC := Aside0.mk (show ∀ W2, Below W.heap.size W W2 → Calls Try.prog 93 #[.slice A1 l1.length c1, .agg #[.int .i64 x.f0, .int .i64 x.f1, .string x.f2]] W2 fun e w' => e = .returned (.bool (impl_CommonNotes.has l1 x)) ∧ Below W2.heap.size W2 w' from fun W2 h2 => slices_Contains_Note.calls _ A1 c1 l1 x.f0 x.f1 x.f2 _ W2 (Kd.C_below hr1 (hb.trans (h2.mono hb.size))) hc1 HT.out)
  clear hb0 hb hB hr1 hc1 HT
  unfold impl_CommonNotes.p
  generalize impl_CommonNotes.has l1 x = q at HC ⊢
  show Calls Try.prog 92 #[.agg #[.int .i64 x.f0, .int .i64 x.f1, .string x.f2], .pointer (some ⟨B, 0, none⟩)] W _
  go_enter Try.func92, Try.ntmps92
  go_wp2_with fail
  refine (HC.out _ ((Below.refl _ W).alloc (Nat.le_refl _) _)).mono ?_
  rintro e w' ⟨rfl, hb2⟩
  have HB2 := Aside0.mk (((Below.refl _ W).alloc (Nat.le_refl _) _).trans (hb2.mono (by simp)) : Below W.heap.size W w')
  clear hb2 HC
  go_wp2
  go_ret
  exact ⟨rfl, HB2.out⟩
set_option maxHeartbeats 8000000 in
set_option maxRecDepth 100000 in
theorem impl_CommonNotes.calls (k : Nat) (A0 : Option Addr) (c0 : Nat) (l0 : List S81) (A1 : Option Addr) (c1 : Nat) (l1 : List S81) (r1 : List S81) (r2 : Bool) (w : World) (hr0 : Kd.C k81 w A0 l0.length l0) (hc0 : l0.length ≤ c0) (hr1 : Kd.C k81 w A1 l1.length l1) (hc1 : l1.length ≤ c1) (h : impl_CommonNotes.f k l0 l1 = some (r1, r2)) :
    Calls Try.prog 38 #[.slice A0 l0.length c0, .slice A1 l1.length c1] w fun e w' => ∃ v0_ : Value, e = .returned (.tuple #[v0_, .bool r2]) ∧ Kd.R k81 81 w' w.heap.size (fun _ => True) v0_ r1 ∧ Below w.heap.size w w' := by
  obtain ⟨t, ht, h⟩ := Option.bind_eq_some_iff.mp h
  have eg : ∀ args w, (callFunc 92 args).run Try.prog w = .ok (.enter 92 args) w := goes_in Try.func92 (by kernel_rfl) rfl
  obtain ⟨w1, hw1⟩ : ∃ w1, w1 = w.alloc (.cells #[.slice A1 l1.length c1] 37) := ⟨_, rfl⟩
  have HW := Aside0.mk (show Below w.heap.size w w1 by rw [hw1]; exact (Below.refl _ w).alloc (Nat.le_refl _) (.cells #[.slice A1 l1.length c1] 37))
  have HSZ := Aside0.mk (show w1.heap.size = w.heap.size + 1 by rw [hw1]; simp)
  have hca := show w1.cell? ⟨w.heap.size, 0, none⟩ = some (.slice A1 l1.length c1) by rw [hw1]; simp
  have HCA := Aside0.mk hca
  have HT := Aside0.mk (impl_IsTier.calls k A0 c0 l0 t w1 (Kd.C_below hr0 HW.out) hc0 ht)
  have HR0 := Aside0.mk (Kd.C_below hr0 HW.out)
  have HR1 := Aside0.mk (Kd.C_below hr1 HW.out)
  have HC0 := Aside0.mk hc0
  have HC1 := Aside0.mk hc1
  have HTH := Aside0.mk (fun (A : Option Addr) (c : Nat) (W : World) (hb : Below w1.heap.size w1 W) (hR : Kd.R k81 81 W w1.heap.size (fun _ => True) (.slice A l0.length c) l0) =>
    slices_DeleteFunc_Note.with (impl_CommonNotes.p l1) 92 #[.pointer (some ⟨w.heap.size, 0, none⟩)] eg A c l0 w1 W hb hR
      (fun W2 x hb2 => impl_CommonNotes.pred A1 c1 l1 w.heap.size w1 HR1.out HC1.out (by have := HSZ.out; omega) HCA.out W2 x hb2))
  clear ht hr0 hc0 hr1 hc1 eg
  go_enter Try.func38, Try.ntmps38
  go_wp2_with fail
  rw [← hw1]
  refine HT.out.mono ?_
  clear HT hw1
  rintro e wa ⟨rfl, hb⟩
  have HB := Aside0.mk hb
  have hca2 := (hb.cell (p := ⟨w.heap.size, 0, none⟩) (by have := HSZ.out; show w.heap.size < _; omega)).trans HCA.out
  clear hb hca
  cases t with
  | false =>
    simp only [Bool.false_eq_true, if_false, Option.some.injEq, Prod.mk.injEq] at h
    obtain ⟨rfl, rfl⟩ := h
    go_wp2
    go_ret2
    exact ⟨_, rfl, Kd.R_nil _ _ _ _ _, HW.out.trans (HB.out.mono HW.out.size)⟩
  | true =>
    simp only [if_true] at h
    obtain ⟨u, hu, h⟩ := Option.bind_eq_some_iff.mp h
    have HU := Aside0.mk (fun (W : World) (hb : Below w1.heap.size w1 W) => impl_IsTier.calls k A1 c1 l1 u W (Kd.C_below HR1.out hb) HC1.out hu)
    clear hu
    go_wp2_with fail
    refine MOwn.named ?_
    intro wb hWb
    have HB1 := Aside0.mk (show Below w1.heap.size w1 wb by subst hWb; repeat (first | (with_reducible first | exact HB.out | apply pw_below_drewN | apply below_drew1) | exact HB.out))
    clear HB hWb
    refine (HU.out wb HB1.out).mono ?_
    clear HU
    rintro e wc ⟨rfl, hb⟩
    have HB := Aside0.mk (HB1.out.trans (hb.mono HB1.out.size))
    clear hb HB1
    cases u with
    | false =>
      simp only [Bool.false_eq_true, if_false, Option.some.injEq, Prod.mk.injEq] at h
      obtain ⟨rfl, rfl⟩ := h
      go_wp2
      go_ret2
      exact ⟨_, rfl, Kd.R_nil _ _ _ _ _, HW.out.trans (Below.mono (by repeat (first | (with_reducible first | exact HB.out | apply pw_below_drewN | apply below_drew1) | exact HB.out)) HW.out.size)⟩
    | true =>
      by_cases hL : l0.length * 32 ≤ 140737488355328
      case neg => simp [hL] at h
      simp only [if_true, if_pos hL, Option.some.injEq, Prod.mk.injEq] at h
      obtain ⟨rfl, rfl⟩ := h
      have HCL := Aside0.mk (show slices_Clone_Note.f l0 = some l0 by rw [slices_Clone_Note.f, if_pos hL])
      clear hL
      go_wp2_with fail
      refine MOwn.named ?_
      intro wd hWd
      have HB1 := Aside0.mk (show Below w1.heap.size w1 wd by subst hWd; repeat (first | (with_reducible first | exact HB.out | apply pw_below_drewN | apply below_drew1) | exact HB.out))
      clear HB hWd
      refine (slices_Clone_Note.calls _ c0 l0 l0 wd (Kd.C_below HR0.out HB1.out) HC0.out HCL.out).mono ?_
      rintro e we ⟨v, rfl, ho, hb⟩
      have HO := Aside0.mk (Kd.R_lower ho HB1.out.size)
      have HB := Aside0.mk (HB1.out.trans (hb.mono HB1.out.size))
      clear ho hb HB1
      obtain ⟨Ao, co, rfl⟩ := Kd.R_slice HO.out
      go_wp2_with fail
      refine MOwn.named ?_
      intro wf hWf
      have HB1 := Aside0.mk (show Below w1.heap.size w1 wf by subst hWf; repeat (first | (with_reducible first | exact HB.out | apply pw_below_drewN | apply below_drew1) | exact HB.out))
      have HO1 := Aside0.mk (show Kd.R k81 81 wf w1.heap.size (fun _ => True) (.slice Ao l0.length co) l0 by subst hWf; (with_reducible repeat (first | apply Kd.R_drewN | apply Kd.R_drew)); exact HO.out)
      clear HB HO hWf
      refine (HTH.out Ao co wf HB1.out HO1.out).mono ?_
      rintro e wg ⟨v, rfl, ho, hb⟩
      have HO := Aside0.mk (Kd.R_lower ho HW.out.size)
      have HB := Aside0.mk hb
      clear ho hb HB1 HO1
      go_wp2
      go_ret2
      exact ⟨_, rfl, by (with_reducible repeat (first | apply Kd.R_drewN | apply Kd.R_drew)); exact HO.out, HW.out.trans (Below.mono (by repeat (first | (with_reducible first | exact HB.out | apply pw_below_drewN | apply below_drew1) | exact HB.out)) HW.out.size)⟩

/-! ### laws_FnExactCommonNotes: function 8 -/
/-- THE ONE PURE STATEMENT of laws_FnExactCommonNotes: what its calls answer. -/
def laws_FnExactCommonNotes.Pure : Prop := ∀ (l0 : List (S79)) (l1 : List (S79)), ((∀ a_, a_ ∈ l0 → gT79 a_) ∧ l0.length * 32 ≤ 140737488351232) → ((∀ a_, a_ ∈ l1 → gT79 a_) ∧ l1.length * 32 ≤ 140737488351232) → ∃ k : Nat, ∃ z0 : Int, laws_szNoteS.f k l0 1048576 = some z0 ∧ (0 ≤ z0 → ∃ z1 : Int, laws_szNoteS.f k l1 z0 = some z1 ∧ (0 ≤ z1 → ∃ (x0 : List (S81)) (x1 : List (S81)) (r0 : List (S81)) (r1 : Bool) (m0 : Int) (y0 : List (S81)) (m1 : Int) (y1 : List (S81)) (n0 : Int) (s0 : List (S81)), laws_toNoteS.f k l0 = some x0 ∧ laws_toNoteS.f k l1 = some x1 ∧ spec_CommonNotes.f k x0 x1 = some (r0, r1) ∧ impl_CommonNotes.f k x0 x1 = some (r0, r1) ∧ laws_eqNoteS.f k r0 r0 = some true ∧ laws_eqNoteS.f k x0 x0 = some true ∧ laws_eqNoteS.f k x1 x1 = some true ∧ laws_markNoteS.f k x0 1 = some (m0, y0) ∧ laws_markNoteS.f k x1 m0 = some (m1, y1) ∧ 0 ≤ m1 ∧ laws_markNoteS.f k r0 1 = some (n0, s0) ∧ laws_heldNoteS.f k s0 1 = some n0 ∧ 0 ≤ n0))
set_option maxHeartbeats 40000000 in
set_option maxRecDepth 100000 in
theorem laws_FnExactCommonNotes.walk (P : laws_FnExactCommonNotes.Pure) (A0 : Option Addr) (c0 : Nat) (l0 : List (S79)) (A1 : Option Addr) (c1 : Nat) (l1 : List (S79)) (w : World) (hr0 : Kd.C k79 w A0 l0.length l0) (hc0 : l0.length ≤ c0) (hr1 : Kd.C k79 w A1 l1.length l1) (hc1 : l1.length ≤ c1) (b0 : ((∀ a_, a_ ∈ l0 → gT79 a_) ∧ l0.length * 32 ≤ 140737488351232)) (b1 : ((∀ a_, a_ ∈ l1 → gT79 a_) ∧ l1.length * 32 ≤ 140737488351232)) :
    Calls Try.prog 8 #[.slice A0 l0.length c0, .slice A1 l1.length c1] w fun e w' => e = .returned (.bool true) ∧ Below w.heap.size w w' := by
  obtain ⟨k, F⟩ := P l0 l1 b0 b1
  clear P b0 b1
  have HR0 := Aside0.mk hr0; have HC0 := Aside0.mk hc0; clear hr0 hc0
  have HR1 := Aside0.mk hr1; have HC1 := Aside0.mk hc1; clear hr1 hc1
  have HB := Aside0.mk (Below.refl w.heap.size w)
  obtain ⟨z0, Fz0, F⟩ := F
  have FZ0 := Aside0.mk Fz0; clear Fz0; have FF := Aside0.mk F; clear F
  go_enter Try.func8, Try.ntmps8
  go_wp2_with fail
  refine MOwn.named ?_
  intro wa1 hW
  have HB' := Aside0.mk (show Below w.heap.size w wa1 from (by subst hW; repeat (first | (with_reducible first | exact HB.out | apply below_alloc | apply pw_below_drewN | apply below_drew1) | exact HB.out))); clear HB; have HB := HB'; clear HB' hW
  refine (laws_szNoteS.calls k _ _ l0 1048576 z0 _ (Kd.C_below HR0.out HB.out) HC0.out FZ0.out).mono ?_
  rintro e wb1 ⟨rfl, hb⟩
  have HB' := Aside0.mk (below_step HB.out hb); clear HB; have HB := HB'; clear HB' hb
  by_cases hz : z0 < 0
  case pos =>
    have b1 : decide (z0 < 0) = true := decide_eq_true hz
    clear hz
    go_wp2
    go_ret
    exact ⟨rfl, by repeat (first | (with_reducible first | exact HB.out | apply below_alloc | apply pw_below_drewN | apply below_drew1) | exact HB.out)⟩
  have b1_0 : decide (z0 < 0) = false := decide_eq_false hz
  have F := FF.out (by omega); clear FF hz
  obtain ⟨z1, Fz1, F⟩ := F
  have FZ1 := Aside0.mk Fz1; clear Fz1; have FF := Aside0.mk F; clear F
  go_wp2_with fail
  refine MOwn.named ?_
  intro wa2 hW
  have HB' := Aside0.mk (show Below w.heap.size w wa2 from (by subst hW; repeat (first | (with_reducible first | exact HB.out | apply below_alloc | apply pw_below_drewN | apply below_drew1) | exact HB.out))); clear HB; have HB := HB'; clear HB' hW
  refine (laws_szNoteS.calls k _ _ l1 z0 z1 _ (Kd.C_below HR1.out HB.out) HC1.out FZ1.out).mono ?_
  rintro e wb2 ⟨rfl, hb⟩
  have HB' := Aside0.mk (below_step HB.out hb); clear HB; have HB := HB'; clear HB' hb
  by_cases hz : z1 < 0
  case pos =>
    have b1 : decide (z1 < 0) = true := decide_eq_true hz
    clear hz
    go_wp2
    go_ret
    exact ⟨rfl, by repeat (first | (with_reducible first | exact HB.out | apply below_alloc | apply pw_below_drewN | apply below_drew1) | exact HB.out)⟩
  have b1_1 : decide (z1 < 0) = false := decide_eq_false hz
  have F := FF.out (by omega); clear FF hz
  obtain ⟨x0, x1, r0, r1, m0, y0, m1, y1, n0, s0, Fto0, Fto1, Fsp, Fim, Feq0, Fex0, Fex1, Fmx0, Fmx1, Fm, Fmr0, Fhe0, Fn0⟩ := F
  have H_Fto0 := Aside0.mk Fto0; clear Fto0
  have H_Fto1 := Aside0.mk Fto1; clear Fto1
  have H_Fsp := Aside0.mk Fsp; clear Fsp
  have H_Fim := Aside0.mk Fim; clear Fim
  have H_Feq0 := Aside0.mk Feq0; clear Feq0
  have H_Fex0 := Aside0.mk Fex0; clear Fex0
  have H_Fex1 := Aside0.mk Fex1; clear Fex1
  have H_Fmx0 := Aside0.mk Fmx0; clear Fmx0
  have H_Fmx1 := Aside0.mk Fmx1; clear Fmx1
  have H_Fm := Aside0.mk Fm; clear Fm
  have H_Fmr0 := Aside0.mk Fmr0; clear Fmr0
  have H_Fhe0 := Aside0.mk Fhe0; clear Fhe0
  have H_Fn0 := Aside0.mk Fn0; clear Fn0
  have b2 : decide (m1 < 0) = false := decide_eq_false (by have := H_Fm.out; omega)
  have b3_0 : decide (n0 < 0) = false := decide_eq_false (by have := H_Fn0.out; omega)
  go_wp2_with fail
  refine MOwn.named ?_
  intro wa3 hW
  have HB' := Aside0.mk (show Below w.heap.size w wa3 from (by subst hW; repeat (first | (with_reducible first | exact HB.out | apply below_alloc | apply pw_below_drewN | apply below_drew1) | exact HB.out))); clear HB; have HB := HB'; clear HB' hW
  refine (laws_toNoteS.calls k _ _ l0 x0 _ (Kd.C_below HR0.out HB.out) HC0.out H_Fto0.out).mono ?_
  rintro e wb3 ⟨vp0, rfl, hop0, hb⟩
  obtain ⟨lp0_, up0_, hl_, hr_⟩ : ∃ lo hi, lo = _ ∧ MOwn.RR k81 81 wb3 w.heap.size lo hi vp0 x0 := ⟨_, _, rfl, MOwn.RR.new hop0 (below_size HB.out)⟩
  have Hp0 := Aside0.mk hr_; clear hr_ hl_ hop0
  obtain ⟨Ap0_, cp0_, rfl⟩ := Hp0.out.form
  have HB' := Aside0.mk (below_step HB.out hb); clear HB; have HB := HB'; clear HB' hb
  go_wp2_with fail
  refine MOwn.named ?_
  intro wa4 hW
  have H' := Aside0.mk (Hp0.out.at (W := wa4) (by subst hW; rfl)); clear Hp0; have Hp0 := H'; clear H'
  have HB' := Aside0.mk (show Below w.heap.size w wa4 from (by subst hW; repeat (first | (with_reducible first | exact HB.out | apply below_alloc | apply pw_below_drewN | apply below_drew1) | exact HB.out))); clear HB; have HB := HB'; clear HB' hW
  refine (laws_toNoteS.calls k _ _ l1 x1 _ (Kd.C_below HR1.out HB.out) HC1.out H_Fto1.out).mono ?_
  rintro e wb4 ⟨vp1, rfl, hop1, hb⟩
  obtain ⟨lp1_, up1_, hl_, hr_⟩ : ∃ lo hi, lo = _ ∧ MOwn.RR k81 81 wb4 w.heap.size lo hi vp1 x1 := ⟨_, _, rfl, MOwn.RR.new hop1 (below_size HB.out)⟩
  have Sp0_p1 := Aside0.mk (show up0_ ≤ lp1_ by rw [hl_]; exact Hp0.out.2)
  have Hp1 := Aside0.mk hr_; clear hr_ hl_ hop1
  have H' := Aside0.mk (Hp0.out.below hb); clear Hp0; have Hp0 := H'; clear H'
  obtain ⟨Ap1_, cp1_, rfl⟩ := Hp1.out.form
  have HB' := Aside0.mk (below_step HB.out hb); clear HB; have HB := HB'; clear HB' hb
  go_wp2_with fail
  refine MOwn.named ?_
  intro wa5 hW
  have H' := Aside0.mk (Hp0.out.at (W := wa5) (by subst hW; rfl)); clear Hp0; have Hp0 := H'; clear H'
  have H' := Aside0.mk (Hp1.out.at (W := wa5) (by subst hW; rfl)); clear Hp1; have Hp1 := H'; clear H'
  have HB' := Aside0.mk (show Below w.heap.size w wa5 from (by subst hW; repeat (first | (with_reducible first | exact HB.out | apply below_alloc | apply pw_below_drewN | apply below_drew1) | exact HB.out))); clear HB; have HB := HB'; clear HB' hW
  refine (spec_CommonNotes.calls k _ _ x0 _ _ x1 r0 r1 _ Hp0.out.reads.2.2 Hp0.out.reads.2.1 Hp1.out.reads.2.2 Hp1.out.reads.2.1 H_Fsp.out).mono ?_
  rintro e wb5 ⟨vs0, rfl, hos0, hb⟩
  obtain ⟨ls0_, us0_, hl_, hr_⟩ : ∃ lo hi, lo = _ ∧ MOwn.RR k81 81 wb5 w.heap.size lo hi vs0 r0 := ⟨_, _, rfl, MOwn.RR.new hos0 (below_size HB.out)⟩
  have Sp0_s0 := Aside0.mk (show up0_ ≤ ls0_ by rw [hl_]; exact Hp0.out.2)
  have Sp1_s0 := Aside0.mk (show up1_ ≤ ls0_ by rw [hl_]; exact Hp1.out.2)
  have Hs0 := Aside0.mk hr_; clear hr_ hl_ hos0
  have H' := Aside0.mk (Hp0.out.below hb); clear Hp0; have Hp0 := H'; clear H'
  have H' := Aside0.mk (Hp1.out.below hb); clear Hp1; have Hp1 := H'; clear H'
  obtain ⟨As0_, cs0_, rfl⟩ := Hs0.out.form
  have HB' := Aside0.mk (below_step HB.out hb); clear HB; have HB := HB'; clear HB' hb
  clear Hp0
  clear Hp1
  go_wp2_with fail
  refine MOwn.named ?_
  intro wa6 hW
  have H' := Aside0.mk (Hs0.out.at (W := wa6) (by subst hW; rfl)); clear Hs0; have Hs0 := H'; clear H'
  have HB' := Aside0.mk (show Below w.heap.size w wa6 from (by subst hW; repeat (first | (with_reducible first | exact HB.out | apply below_alloc | apply pw_below_drewN | apply below_drew1) | exact HB.out))); clear HB; have HB := HB'; clear HB' hW
  refine (laws_toNoteS.calls k _ _ l0 x0 _ (Kd.C_below HR0.out HB.out) HC0.out H_Fto0.out).mono ?_
  rintro e wb6 ⟨vx0, rfl, hox0, hb⟩
  obtain ⟨lx0_, ux0_, hl_, hr_⟩ : ∃ lo hi, lo = _ ∧ MOwn.RR k81 81 wb6 w.heap.size lo hi vx0 x0 := ⟨_, _, rfl, MOwn.RR.new hox0 (below_size HB.out)⟩
  have Ss0_x0 := Aside0.mk (show us0_ ≤ lx0_ by rw [hl_]; exact Hs0.out.2)
  have Hx0 := Aside0.mk hr_; clear hr_ hl_ hox0
  have H' := Aside0.mk (Hs0.out.below hb); clear Hs0; have Hs0 := H'; clear H'
  obtain ⟨Ax0_, cx0_, rfl⟩ := Hx0.out.form
  have HB' := Aside0.mk (below_step HB.out hb); clear HB; have HB := HB'; clear HB' hb
  go_wp2_with fail
  refine MOwn.named ?_
  intro wa7 hW
  have H' := Aside0.mk (Hs0.out.at (W := wa7) (by subst hW; rfl)); clear Hs0; have Hs0 := H'; clear H'
  have H' := Aside0.mk (Hx0.out.at (W := wa7) (by subst hW; rfl)); clear Hx0; have Hx0 := H'; clear H'
  have HB' := Aside0.mk (show Below w.heap.size w wa7 from (by subst hW; repeat (first | (with_reducible first | exact HB.out | apply below_alloc | apply pw_below_drewN | apply below_drew1) | exact HB.out))); clear HB; have HB := HB'; clear HB' hW
  refine (laws_toNoteS.calls k _ _ l1 x1 _ (Kd.C_below HR1.out HB.out) HC1.out H_Fto1.out).mono ?_
  rintro e wb7 ⟨vx1, rfl, hox1, hb⟩
  obtain ⟨lx1_, ux1_, hl_, hr_⟩ : ∃ lo hi, lo = _ ∧ MOwn.RR k81 81 wb7 w.heap.size lo hi vx1 x1 := ⟨_, _, rfl, MOwn.RR.new hox1 (below_size HB.out)⟩
  have Ss0_x1 := Aside0.mk (show us0_ ≤ lx1_ by rw [hl_]; exact Hs0.out.2)
  have Sx0_x1 := Aside0.mk (show ux0_ ≤ lx1_ by rw [hl_]; exact Hx0.out.2)
  have Hx1 := Aside0.mk hr_; clear hr_ hl_ hox1
  have H' := Aside0.mk (Hs0.out.below hb); clear Hs0; have Hs0 := H'; clear H'
  have H' := Aside0.mk (Hx0.out.below hb); clear Hx0; have Hx0 := H'; clear H'
  obtain ⟨Ax1_, cx1_, rfl⟩ := Hx1.out.form
  have HB' := Aside0.mk (below_step HB.out hb); clear HB; have HB := HB'; clear HB' hb
  go_wp2_with fail
  refine MOwn.named ?_
  intro wa8 hW
  have H' := Aside0.mk (Hs0.out.at (W := wa8) (by subst hW; rfl)); clear Hs0; have Hs0 := H'; clear H'
  have H' := Aside0.mk (Hx0.out.at (W := wa8) (by subst hW; rfl)); clear Hx0; have Hx0 := H'; clear H'
  have H' := Aside0.mk (Hx1.out.at (W := wa8) (by subst hW; rfl)); clear Hx1; have Hx1 := H'; clear H'
  have HB' := Aside0.mk (show Below w.heap.size w wa8 from (by subst hW; repeat (first | (with_reducible first | exact HB.out | apply below_alloc | apply pw_below_drewN | apply below_drew1) | exact HB.out))); clear HB; have HB := HB'; clear HB' hW
  refine (impl_CommonNotes.calls k _ _ x0 _ _ x1 r0 r1 _ Hx0.out.reads.2.2 Hx0.out.reads.2.1 Hx1.out.reads.2.2 Hx1.out.reads.2.1 H_Fim.out).mono ?_
  rintro e wb8 ⟨vg0, rfl, hog0, hb⟩
  obtain ⟨lg0_, ug0_, hl_, hr_⟩ : ∃ lo hi, lo = _ ∧ MOwn.RR k81 81 wb8 w.heap.size lo hi vg0 r0 := ⟨_, _, rfl, MOwn.RR.new hog0 (below_size HB.out)⟩
  have Ss0_g0 := Aside0.mk (show us0_ ≤ lg0_ by rw [hl_]; exact Hs0.out.2)
  have Sx0_g0 := Aside0.mk (show ux0_ ≤ lg0_ by rw [hl_]; exact Hx0.out.2)
  have Sx1_g0 := Aside0.mk (show ux1_ ≤ lg0_ by rw [hl_]; exact Hx1.out.2)
  have Hg0 := Aside0.mk hr_; clear hr_ hl_ hog0
  have H' := Aside0.mk (Hs0.out.below hb); clear Hs0; have Hs0 := H'; clear H'
  have H' := Aside0.mk (Hx0.out.below hb); clear Hx0; have Hx0 := H'; clear H'
  have H' := Aside0.mk (Hx1.out.below hb); clear Hx1; have Hx1 := H'; clear H'
  obtain ⟨Ag0_, cg0_, rfl⟩ := Hg0.out.form
  have HB' := Aside0.mk (below_step HB.out hb); clear HB; have HB := HB'; clear HB' hb
  go_wp2_with fail
  refine MOwn.named ?_
  intro wa9 hW
  have H' := Aside0.mk (Hs0.out.at (W := wa9) (by subst hW; rfl)); clear Hs0; have Hs0 := H'; clear H'
  have H' := Aside0.mk (Hx0.out.at (W := wa9) (by subst hW; rfl)); clear Hx0; have Hx0 := H'; clear H'
  have H' := Aside0.mk (Hx1.out.at (W := wa9) (by subst hW; rfl)); clear Hx1; have Hx1 := H'; clear H'
  have H' := Aside0.mk (Hg0.out.at (W := wa9) (by subst hW; rfl)); clear Hg0; have Hg0 := H'; clear H'
  have HB' := Aside0.mk (show Below w.heap.size w wa9 from (by subst hW; repeat (first | (with_reducible first | exact HB.out | apply below_alloc | apply pw_below_drewN | apply below_drew1) | exact HB.out))); clear HB; have HB := HB'; clear HB' hW
  refine (laws_eqNoteS.calls k _ _ r0 _ _ r0 true _ Hg0.out.reads.2.2 Hg0.out.reads.2.1 Hs0.out.reads.2.2 Hs0.out.reads.2.1 H_Feq0.out).mono ?_
  rintro e wb9 ⟨rfl, hb⟩
  have H' := Aside0.mk (Hs0.out.below hb); clear Hs0; have Hs0 := H'; clear H'
  have H' := Aside0.mk (Hx0.out.below hb); clear Hx0; have Hx0 := H'; clear H'
  have H' := Aside0.mk (Hx1.out.below hb); clear Hx1; have Hx1 := H'; clear H'
  have H' := Aside0.mk (Hg0.out.below hb); clear Hg0; have Hg0 := H'; clear H'
  have HB' := Aside0.mk (below_step HB.out hb); clear HB; have HB := HB'; clear HB' hb
  go_wp2_with fail
  refine MOwn.named ?_
  intro wa10 hW
  have H' := Aside0.mk (Hs0.out.at (W := wa10) (by subst hW; rfl)); clear Hs0; have Hs0 := H'; clear H'
  have H' := Aside0.mk (Hx0.out.at (W := wa10) (by subst hW; rfl)); clear Hx0; have Hx0 := H'; clear H'
  have H' := Aside0.mk (Hx1.out.at (W := wa10) (by subst hW; rfl)); clear Hx1; have Hx1 := H'; clear H'
  have H' := Aside0.mk (Hg0.out.at (W := wa10) (by subst hW; rfl)); clear Hg0; have Hg0 := H'; clear H'
  have HB' := Aside0.mk (show Below w.heap.size w wa10 from (by subst hW; repeat (first | (with_reducible first | exact HB.out | apply below_alloc | apply pw_below_drewN | apply below_drew1) | exact HB.out))); clear HB; have HB := HB'; clear HB' hW
  refine (laws_toNoteS.calls k _ _ l0 x0 _ (Kd.C_below HR0.out HB.out) HC0.out H_Fto0.out).mono ?_
  rintro e wb10 ⟨vt0, rfl, hot0, hb⟩
  obtain ⟨lt0_, ut0_, hl_, hr_⟩ : ∃ lo hi, lo = _ ∧ MOwn.RR k81 81 wb10 w.heap.size lo hi vt0 x0 := ⟨_, _, rfl, MOwn.RR.new hot0 (below_size HB.out)⟩
  have Ss0_t0 := Aside0.mk (show us0_ ≤ lt0_ by rw [hl_]; exact Hs0.out.2)
  have Sx0_t0 := Aside0.mk (show ux0_ ≤ lt0_ by rw [hl_]; exact Hx0.out.2)
  have Sx1_t0 := Aside0.mk (show ux1_ ≤ lt0_ by rw [hl_]; exact Hx1.out.2)
  have Sg0_t0 := Aside0.mk (show ug0_ ≤ lt0_ by rw [hl_]; exact Hg0.out.2)
  have Ht0 := Aside0.mk hr_; clear hr_ hl_ hot0
  have H' := Aside0.mk (Hs0.out.below hb); clear Hs0; have Hs0 := H'; clear H'
  have H' := Aside0.mk (Hx0.out.below hb); clear Hx0; have Hx0 := H'; clear H'
  have H' := Aside0.mk (Hx1.out.below hb); clear Hx1; have Hx1 := H'; clear H'
  have H' := Aside0.mk (Hg0.out.below hb); clear Hg0; have Hg0 := H'; clear H'
  obtain ⟨At0_, ct0_, rfl⟩ := Ht0.out.form
  have HB' := Aside0.mk (below_step HB.out hb); clear HB; have HB := HB'; clear HB' hb
  go_wp2_with fail
  refine MOwn.named ?_
  intro wa11 hW
  have H' := Aside0.mk (Hs0.out.at (W := wa11) (by subst hW; rfl)); clear Hs0; have Hs0 := H'; clear H'
  have H' := Aside0.mk (Hx0.out.at (W := wa11) (by subst hW; rfl)); clear Hx0; have Hx0 := H'; clear H'
  have H' := Aside0.mk (Hx1.out.at (W := wa11) (by subst hW; rfl)); clear Hx1; have Hx1 := H'; clear H'
  have H' := Aside0.mk (Hg0.out.at (W := wa11) (by subst hW; rfl)); clear Hg0; have Hg0 := H'; clear H'
  have H' := Aside0.mk (Ht0.out.at (W := wa11) (by subst hW; rfl)); clear Ht0; have Ht0 := H'; clear H'
  have HB' := Aside0.mk (show Below w.heap.size w wa11 from (by subst hW; repeat (first | (with_reducible first | exact HB.out | apply below_alloc | apply pw_below_drewN | apply below_drew1) | exact HB.out))); clear HB; have HB := HB'; clear HB' hW
  refine (laws_eqNoteS.calls k _ _ x0 _ _ x0 true _ Hx0.out.reads.2.2 Hx0.out.reads.2.1 Ht0.out.reads.2.2 Ht0.out.reads.2.1 H_Fex0.out).mono ?_
  rintro e wb11 ⟨rfl, hb⟩
  have H' := Aside0.mk (Hs0.out.below hb); clear Hs0; have Hs0 := H'; clear H'
  have H' := Aside0.mk (Hx0.out.below hb); clear Hx0; have Hx0 := H'; clear H'
  have H' := Aside0.mk (Hx1.out.below hb); clear Hx1; have Hx1 := H'; clear H'
  have H' := Aside0.mk (Hg0.out.below hb); clear Hg0; have Hg0 := H'; clear H'
  have H' := Aside0.mk (Ht0.out.below hb); clear Ht0; have Ht0 := H'; clear H'
  have HB' := Aside0.mk (below_step HB.out hb); clear HB; have HB := HB'; clear HB' hb
  clear Ht0
  go_wp2_with fail
  refine MOwn.named ?_
  intro wa12 hW
  have H' := Aside0.mk (Hs0.out.at (W := wa12) (by subst hW; rfl)); clear Hs0; have Hs0 := H'; clear H'
  have H' := Aside0.mk (Hx0.out.at (W := wa12) (by subst hW; rfl)); clear Hx0; have Hx0 := H'; clear H'
  have H' := Aside0.mk (Hx1.out.at (W := wa12) (by subst hW; rfl)); clear Hx1; have Hx1 := H'; clear H'
  have H' := Aside0.mk (Hg0.out.at (W := wa12) (by subst hW; rfl)); clear Hg0; have Hg0 := H'; clear H'
  have HB' := Aside0.mk (show Below w.heap.size w wa12 from (by subst hW; repeat (first | (with_reducible first | exact HB.out | apply below_alloc | apply pw_below_drewN | apply below_drew1) | exact HB.out))); clear HB; have HB := HB'; clear HB' hW
  refine (laws_toNoteS.calls k _ _ l1 x1 _ (Kd.C_below HR1.out HB.out) HC1.out H_Fto1.out).mono ?_
  rintro e wb12 ⟨vt1, rfl, hot1, hb⟩
  obtain ⟨lt1_, ut1_, hl_, hr_⟩ : ∃ lo hi, lo = _ ∧ MOwn.RR k81 81 wb12 w.heap.size lo hi vt1 x1 := ⟨_, _, rfl, MOwn.RR.new hot1 (below_size HB.out)⟩
  have Ss0_t1 := Aside0.mk (show us0_ ≤ lt1_ by rw [hl_]; exact Hs0.out.2)
  have Sx0_t1 := Aside0.mk (show ux0_ ≤ lt1_ by rw [hl_]; exact Hx0.out.2)
  have Sx1_t1 := Aside0.mk (show ux1_ ≤ lt1_ by rw [hl_]; exact Hx1.out.2)
  have Sg0_t1 := Aside0.mk (show ug0_ ≤ lt1_ by rw [hl_]; exact Hg0.out.2)
  have Ht1 := Aside0.mk hr_; clear hr_ hl_ hot1
  have H' := Aside0.mk (Hs0.out.below hb); clear Hs0; have Hs0 := H'; clear H'
  have H' := Aside0.mk (Hx0.out.below hb); clear Hx0; have Hx0 := H'; clear H'
  have H' := Aside0.mk (Hx1.out.below hb); clear Hx1; have Hx1 := H'; clear H'
  have H' := Aside0.mk (Hg0.out.below hb); clear Hg0; have Hg0 := H'; clear H'
  obtain ⟨At1_, ct1_, rfl⟩ := Ht1.out.form
  have HB' := Aside0.mk (below_step HB.out hb); clear HB; have HB := HB'; clear HB' hb
  go_wp2_with fail
  refine MOwn.named ?_
  intro wa13 hW
  have H' := Aside0.mk (Hs0.out.at (W := wa13) (by subst hW; rfl)); clear Hs0; have Hs0 := H'; clear H'
  have H' := Aside0.mk (Hx0.out.at (W := wa13) (by subst hW; rfl)); clear Hx0; have Hx0 := H'; clear H'
  have H' := Aside0.mk (Hx1.out.at (W := wa13) (by subst hW; rfl)); clear Hx1; have Hx1 := H'; clear H'
  have H' := Aside0.mk (Hg0.out.at (W := wa13) (by subst hW; rfl)); clear Hg0; have Hg0 := H'; clear H'
  have H' := Aside0.mk (Ht1.out.at (W := wa13) (by subst hW; rfl)); clear Ht1; have Ht1 := H'; clear H'
  have HB' := Aside0.mk (show Below w.heap.size w wa13 from (by subst hW; repeat (first | (with_reducible first | exact HB.out | apply below_alloc | apply pw_below_drewN | apply below_drew1) | exact HB.out))); clear HB; have HB := HB'; clear HB' hW
  refine (laws_eqNoteS.calls k _ _ x1 _ _ x1 true _ Hx1.out.reads.2.2 Hx1.out.reads.2.1 Ht1.out.reads.2.2 Ht1.out.reads.2.1 H_Fex1.out).mono ?_
  rintro e wb13 ⟨rfl, hb⟩
  have H' := Aside0.mk (Hs0.out.below hb); clear Hs0; have Hs0 := H'; clear H'
  have H' := Aside0.mk (Hx0.out.below hb); clear Hx0; have Hx0 := H'; clear H'
  have H' := Aside0.mk (Hx1.out.below hb); clear Hx1; have Hx1 := H'; clear H'
  have H' := Aside0.mk (Hg0.out.below hb); clear Hg0; have Hg0 := H'; clear H'
  have H' := Aside0.mk (Ht1.out.below hb); clear Ht1; have Ht1 := H'; clear H'
  have HB' := Aside0.mk (below_step HB.out hb); clear HB; have HB := HB'; clear HB' hb
  clear Ht1
  go_wp2_with fail
  refine MOwn.named ?_
  intro wa14 hW
  have H' := Aside0.mk (Hs0.out.at (W := wa14) (by subst hW; rfl)); clear Hs0; have Hs0 := H'; clear H'
  have H' := Aside0.mk (Hx0.out.at (W := wa14) (by subst hW; rfl)); clear Hx0; have Hx0 := H'; clear H'
  have H' := Aside0.mk (Hx1.out.at (W := wa14) (by subst hW; rfl)); clear Hx1; have Hx1 := H'; clear H'
  have H' := Aside0.mk (Hg0.out.at (W := wa14) (by subst hW; rfl)); clear Hg0; have Hg0 := H'; clear H'
  have HB' := Aside0.mk (show Below w.heap.size w wa14 from (by subst hW; repeat (first | (with_reducible first | exact HB.out | apply below_alloc | apply pw_below_drewN | apply below_drew1) | exact HB.out))); clear HB; have HB := HB'; clear HB' hW
  refine (laws_markNoteS.calls k (fun k_ => lx0_ ≤ k_ ∧ k_ < ux0_) _ x0 1 _ _ w _ HB.out Hx0.out.1 H_Fmx0.out).mono ?_
  rintro e wb14 ⟨rfl, hy, hb, hkp⟩
  have H' := Aside0.mk (Hs0.out.kept hkp (fun k_ h1 h2 h3 => by have := Ss0_x0.out; omega)); clear Hs0; have Hs0 := H'; clear H'
  have H' := Aside0.mk (MOwn.RR.back rfl Hx0.out hy hkp.1); clear Hx0; have Hx0 := H'; clear H' hy
  have H' := Aside0.mk (Hx1.out.kept hkp (fun k_ h1 h2 h3 => by have := Sx0_x1.out; omega)); clear Hx1; have Hx1 := H'; clear H'
  have H' := Aside0.mk (Hg0.out.kept hkp (fun k_ h1 h2 h3 => by have := Sx0_g0.out; omega)); clear Hg0; have Hg0 := H'; clear H'
  have HB' := Aside0.mk hb; clear HB; have HB := HB'; clear HB' hb hkp
  go_wp2_with fail
  refine MOwn.named ?_
  intro wa15 hW
  have H' := Aside0.mk (Hs0.out.at (W := wa15) (by subst hW; rfl)); clear Hs0; have Hs0 := H'; clear H'
  have H' := Aside0.mk (Hx0.out.at (W := wa15) (by subst hW; rfl)); clear Hx0; have Hx0 := H'; clear H'
  have H' := Aside0.mk (Hx1.out.at (W := wa15) (by subst hW; rfl)); clear Hx1; have Hx1 := H'; clear H'
  have H' := Aside0.mk (Hg0.out.at (W := wa15) (by subst hW; rfl)); clear Hg0; have Hg0 := H'; clear H'
  have HB' := Aside0.mk (show Below w.heap.size w wa15 from (by subst hW; repeat (first | (with_reducible first | exact HB.out | apply below_alloc | apply pw_below_drewN | apply below_drew1) | exact HB.out))); clear HB; have HB := HB'; clear HB' hW
  refine (laws_markNoteS.calls k (fun k_ => lx1_ ≤ k_ ∧ k_ < ux1_) _ x1 m0 _ _ w _ HB.out Hx1.out.1 H_Fmx1.out).mono ?_
  rintro e wb15 ⟨rfl, hy, hb, hkp⟩
  have H' := Aside0.mk (Hs0.out.kept hkp (fun k_ h1 h2 h3 => by have := Ss0_x1.out; omega)); clear Hs0; have Hs0 := H'; clear H'
  have H' := Aside0.mk (Hx0.out.kept hkp (fun k_ h1 h2 h3 => by have := Sx0_x1.out; omega)); clear Hx0; have Hx0 := H'; clear H'
  have H' := Aside0.mk (MOwn.RR.back rfl Hx1.out hy hkp.1); clear Hx1; have Hx1 := H'; clear H' hy
  have H' := Aside0.mk (Hg0.out.kept hkp (fun k_ h1 h2 h3 => by have := Sx1_g0.out; omega)); clear Hg0; have Hg0 := H'; clear H'
  have HB' := Aside0.mk hb; clear HB; have HB := HB'; clear HB' hb hkp
  clear Hx0
  clear Hx1
  go_wp2_with fail
  refine MOwn.named ?_
  intro wa16 hW
  have H' := Aside0.mk (Hs0.out.at (W := wa16) (by subst hW; rfl)); clear Hs0; have Hs0 := H'; clear H'
  have H' := Aside0.mk (Hg0.out.at (W := wa16) (by subst hW; rfl)); clear Hg0; have Hg0 := H'; clear H'
  have HB' := Aside0.mk (show Below w.heap.size w wa16 from (by subst hW; repeat (first | (with_reducible first | exact HB.out | apply below_alloc | apply pw_below_drewN | apply below_drew1) | exact HB.out))); clear HB; have HB := HB'; clear HB' hW
  refine (laws_eqNoteS.calls k _ _ r0 _ _ r0 true _ Hg0.out.reads.2.2 Hg0.out.reads.2.1 Hs0.out.reads.2.2 Hs0.out.reads.2.1 H_Feq0.out).mono ?_
  rintro e wb16 ⟨rfl, hb⟩
  have H' := Aside0.mk (Hs0.out.below hb); clear Hs0; have Hs0 := H'; clear H'
  have H' := Aside0.mk (Hg0.out.below hb); clear Hg0; have Hg0 := H'; clear H'
  have HB' := Aside0.mk (below_step HB.out hb); clear HB; have HB := HB'; clear HB' hb
  go_wp2_with fail
  refine MOwn.named ?_
  intro wa17 hW
  have H' := Aside0.mk (Hs0.out.at (W := wa17) (by subst hW; rfl)); clear Hs0; have Hs0 := H'; clear H'
  have H' := Aside0.mk (Hg0.out.at (W := wa17) (by subst hW; rfl)); clear Hg0; have Hg0 := H'; clear H'
  have HB' := Aside0.mk (show Below w.heap.size w wa17 from (by subst hW; repeat (first | (with_reducible first | exact HB.out | apply below_alloc | apply pw_below_drewN | apply below_drew1) | exact HB.out))); clear HB; have HB := HB'; clear HB' hW
  refine (laws_markNoteS.calls k (fun k_ => lg0_ ≤ k_ ∧ k_ < ug0_) _ r0 1 _ _ w _ HB.out Hg0.out.1 H_Fmr0.out).mono ?_
  rintro e wb17 ⟨rfl, hy, hb, hkp⟩
  have H' := Aside0.mk (Hs0.out.kept hkp (fun k_ h1 h2 h3 => by have := Ss0_g0.out; omega)); clear Hs0; have Hs0 := H'; clear H'
  have H' := Aside0.mk (MOwn.RR.back rfl Hg0.out hy hkp.1); clear Hg0; have Hg0 := H'; clear H' hy
  have HB' := Aside0.mk hb; clear HB; have HB := HB'; clear HB' hb hkp
  go_wp2_with fail
  refine MOwn.named ?_
  intro wa18 hW
  have H' := Aside0.mk (Hs0.out.at (W := wa18) (by subst hW; rfl)); clear Hs0; have Hs0 := H'; clear H'
  have H' := Aside0.mk (Hg0.out.at (W := wa18) (by subst hW; rfl)); clear Hg0; have Hg0 := H'; clear H'
  have HB' := Aside0.mk (show Below w.heap.size w wa18 from (by subst hW; repeat (first | (with_reducible first | exact HB.out | apply below_alloc | apply pw_below_drewN | apply below_drew1) | exact HB.out))); clear HB; have HB := HB'; clear HB' hW
  refine calls_of_args (args' := #[.slice Ag0_ s0.length cg0_, .int .i64 1]) (by rw [Hg0.out.reads.1]) ?_
  refine (laws_heldNoteS.calls k _ _ s0 1 n0 _ (by have h_ := Hg0.out.reads; exact h_.2.2) (by have h_ := Hg0.out.reads; omega) H_Fhe0.out).mono ?_
  rintro e wb18 ⟨rfl, hb⟩
  have H' := Aside0.mk (Hs0.out.below hb); clear Hs0; have Hs0 := H'; clear H'
  have H' := Aside0.mk (Hg0.out.below hb); clear Hg0; have Hg0 := H'; clear H'
  have HB' := Aside0.mk (below_step HB.out hb); clear HB; have HB := HB'; clear HB' hb
  go_wp2_with fail
  refine MOwn.named ?_
  intro wa19 hW
  have H' := Aside0.mk (Hs0.out.at (W := wa19) (by subst hW; rfl)); clear Hs0; have Hs0 := H'; clear H'
  have H' := Aside0.mk (Hg0.out.at (W := wa19) (by subst hW; rfl)); clear Hg0; have Hg0 := H'; clear H'
  have HB' := Aside0.mk (show Below w.heap.size w wa19 from (by subst hW; repeat (first | (with_reducible first | exact HB.out | apply below_alloc | apply pw_below_drewN | apply below_drew1) | exact HB.out))); clear HB; have HB := HB'; clear HB' hW
  refine (laws_toNoteS.calls k _ _ l0 x0 _ (Kd.C_below HR0.out HB.out) HC0.out H_Fto0.out).mono ?_
  rintro e wb19 ⟨vh0, rfl, hoh0, hb⟩
  obtain ⟨lh0_, uh0_, hl_, hr_⟩ : ∃ lo hi, lo = _ ∧ MOwn.RR k81 81 wb19 w.heap.size lo hi vh0 x0 := ⟨_, _, rfl, MOwn.RR.new hoh0 (below_size HB.out)⟩
  have Ss0_h0 := Aside0.mk (show us0_ ≤ lh0_ by rw [hl_]; exact Hs0.out.2)
  have Sg0_h0 := Aside0.mk (show ug0_ ≤ lh0_ by rw [hl_]; exact Hg0.out.2)
  have Hh0 := Aside0.mk hr_; clear hr_ hl_ hoh0
  have H' := Aside0.mk (Hs0.out.below hb); clear Hs0; have Hs0 := H'; clear H'
  have H' := Aside0.mk (Hg0.out.below hb); clear Hg0; have Hg0 := H'; clear H'
  obtain ⟨Ah0_, ch0_, rfl⟩ := Hh0.out.form
  have HB' := Aside0.mk (below_step HB.out hb); clear HB; have HB := HB'; clear HB' hb
  go_wp2_with fail
  refine MOwn.named ?_
  intro wa20 hW
  have H' := Aside0.mk (Hs0.out.at (W := wa20) (by subst hW; rfl)); clear Hs0; have Hs0 := H'; clear H'
  have H' := Aside0.mk (Hg0.out.at (W := wa20) (by subst hW; rfl)); clear Hg0; have Hg0 := H'; clear H'
  have H' := Aside0.mk (Hh0.out.at (W := wa20) (by subst hW; rfl)); clear Hh0; have Hh0 := H'; clear H'
  have HB' := Aside0.mk (show Below w.heap.size w wa20 from (by subst hW; repeat (first | (with_reducible first | exact HB.out | apply below_alloc | apply pw_below_drewN | apply below_drew1) | exact HB.out))); clear HB; have HB := HB'; clear HB' hW
  refine (laws_toNoteS.calls k _ _ l1 x1 _ (Kd.C_below HR1.out HB.out) HC1.out H_Fto1.out).mono ?_
  rintro e wb20 ⟨vh1, rfl, hoh1, hb⟩
  obtain ⟨lh1_, uh1_, hl_, hr_⟩ : ∃ lo hi, lo = _ ∧ MOwn.RR k81 81 wb20 w.heap.size lo hi vh1 x1 := ⟨_, _, rfl, MOwn.RR.new hoh1 (below_size HB.out)⟩
  have Ss0_h1 := Aside0.mk (show us0_ ≤ lh1_ by rw [hl_]; exact Hs0.out.2)
  have Sg0_h1 := Aside0.mk (show ug0_ ≤ lh1_ by rw [hl_]; exact Hg0.out.2)
  have Sh0_h1 := Aside0.mk (show uh0_ ≤ lh1_ by rw [hl_]; exact Hh0.out.2)
  have Hh1 := Aside0.mk hr_; clear hr_ hl_ hoh1
  have H' := Aside0.mk (Hs0.out.below hb); clear Hs0; have Hs0 := H'; clear H'
  have H' := Aside0.mk (Hg0.out.below hb); clear Hg0; have Hg0 := H'; clear H'
  have H' := Aside0.mk (Hh0.out.below hb); clear Hh0; have Hh0 := H'; clear H'
  obtain ⟨Ah1_, ch1_, rfl⟩ := Hh1.out.form
  have HB' := Aside0.mk (below_step HB.out hb); clear HB; have HB := HB'; clear HB' hb
  go_wp2_with fail
  refine MOwn.named ?_
  intro wa21 hW
  have H' := Aside0.mk (Hs0.out.at (W := wa21) (by subst hW; rfl)); clear Hs0; have Hs0 := H'; clear H'
  have H' := Aside0.mk (Hg0.out.at (W := wa21) (by subst hW; rfl)); clear Hg0; have Hg0 := H'; clear H'
  have H' := Aside0.mk (Hh0.out.at (W := wa21) (by subst hW; rfl)); clear Hh0; have Hh0 := H'; clear H'
  have H' := Aside0.mk (Hh1.out.at (W := wa21) (by subst hW; rfl)); clear Hh1; have Hh1 := H'; clear H'
  have HB' := Aside0.mk (show Below w.heap.size w wa21 from (by subst hW; repeat (first | (with_reducible first | exact HB.out | apply below_alloc | apply pw_below_drewN | apply below_drew1) | exact HB.out))); clear HB; have HB := HB'; clear HB' hW
  refine (impl_CommonNotes.calls k _ _ x0 _ _ x1 r0 r1 _ Hh0.out.reads.2.2 Hh0.out.reads.2.1 Hh1.out.reads.2.2 Hh1.out.reads.2.1 H_Fim.out).mono ?_
  rintro e wb21 ⟨vk0, rfl, hok0, hb⟩
  obtain ⟨lk0_, uk0_, hl_, hr_⟩ : ∃ lo hi, lo = _ ∧ MOwn.RR k81 81 wb21 w.heap.size lo hi vk0 r0 := ⟨_, _, rfl, MOwn.RR.new hok0 (below_size HB.out)⟩
  have Ss0_k0 := Aside0.mk (show us0_ ≤ lk0_ by rw [hl_]; exact Hs0.out.2)
  have Sg0_k0 := Aside0.mk (show ug0_ ≤ lk0_ by rw [hl_]; exact Hg0.out.2)
  have Sh0_k0 := Aside0.mk (show uh0_ ≤ lk0_ by rw [hl_]; exact Hh0.out.2)
  have Sh1_k0 := Aside0.mk (show uh1_ ≤ lk0_ by rw [hl_]; exact Hh1.out.2)
  have Hk0 := Aside0.mk hr_; clear hr_ hl_ hok0
  have H' := Aside0.mk (Hs0.out.below hb); clear Hs0; have Hs0 := H'; clear H'
  have H' := Aside0.mk (Hg0.out.below hb); clear Hg0; have Hg0 := H'; clear H'
  have H' := Aside0.mk (Hh0.out.below hb); clear Hh0; have Hh0 := H'; clear H'
  have H' := Aside0.mk (Hh1.out.below hb); clear Hh1; have Hh1 := H'; clear H'
  obtain ⟨Ak0_, ck0_, rfl⟩ := Hk0.out.form
  have HB' := Aside0.mk (below_step HB.out hb); clear HB; have HB := HB'; clear HB' hb
  clear Hh0
  clear Hh1
  go_wp2_with fail
  refine MOwn.named ?_
  intro wa22 hW
  have H' := Aside0.mk (Hs0.out.at (W := wa22) (by subst hW; rfl)); clear Hs0; have Hs0 := H'; clear H'
  have H' := Aside0.mk (Hg0.out.at (W := wa22) (by subst hW; rfl)); clear Hg0; have Hg0 := H'; clear H'
  have H' := Aside0.mk (Hk0.out.at (W := wa22) (by subst hW; rfl)); clear Hk0; have Hk0 := H'; clear H'
  have HB' := Aside0.mk (show Below w.heap.size w wa22 from (by subst hW; repeat (first | (with_reducible first | exact HB.out | apply below_alloc | apply pw_below_drewN | apply below_drew1) | exact HB.out))); clear HB; have HB := HB'; clear HB' hW
  refine (laws_eqNoteS.calls k _ _ r0 _ _ r0 true _ Hk0.out.reads.2.2 Hk0.out.reads.2.1 Hs0.out.reads.2.2 Hs0.out.reads.2.1 H_Feq0.out).mono ?_
  rintro e wb22 ⟨rfl, hb⟩
  have H' := Aside0.mk (Hs0.out.below hb); clear Hs0; have Hs0 := H'; clear H'
  have H' := Aside0.mk (Hg0.out.below hb); clear Hg0; have Hg0 := H'; clear H'
  have H' := Aside0.mk (Hk0.out.below hb); clear Hk0; have Hk0 := H'; clear H'
  have HB' := Aside0.mk (below_step HB.out hb); clear HB; have HB := HB'; clear HB' hb
  go_wp2_with fail
  refine MOwn.named ?_
  intro wa23 hW
  have H' := Aside0.mk (Hs0.out.at (W := wa23) (by subst hW; rfl)); clear Hs0; have Hs0 := H'; clear H'
  have H' := Aside0.mk (Hg0.out.at (W := wa23) (by subst hW; rfl)); clear Hg0; have Hg0 := H'; clear H'
  have H' := Aside0.mk (Hk0.out.at (W := wa23) (by subst hW; rfl)); clear Hk0; have Hk0 := H'; clear H'
  have HB' := Aside0.mk (show Below w.heap.size w wa23 from (by subst hW; repeat (first | (with_reducible first | exact HB.out | apply below_alloc | apply pw_below_drewN | apply below_drew1) | exact HB.out))); clear HB; have HB := HB'; clear HB' hW
  refine calls_of_args (args' := #[.slice Ag0_ s0.length cg0_, .int .i64 1]) (by rw [Hg0.out.reads.1]) ?_
  refine (laws_heldNoteS.calls k _ _ s0 1 n0 _ (by have h_ := Hg0.out.reads; exact h_.2.2) (by have h_ := Hg0.out.reads; omega) H_Fhe0.out).mono ?_
  rintro e wb23 ⟨rfl, hb⟩
  have H' := Aside0.mk (Hs0.out.below hb); clear Hs0; have Hs0 := H'; clear H'
  have H' := Aside0.mk (Hg0.out.below hb); clear Hg0; have Hg0 := H'; clear H'
  have H' := Aside0.mk (Hk0.out.below hb); clear Hk0; have Hk0 := H'; clear H'
  have HB' := Aside0.mk (below_step HB.out hb); clear HB; have HB := HB'; clear HB' hb
  go_wp2
  go_ret
  exact ⟨rfl, by repeat (first | (with_reducible first | exact HB.out | apply below_alloc | apply pw_below_drewN | apply below_drew1) | exact HB.out)⟩

end Go.Proofs.Ytphjmmaeolbggaa.G
