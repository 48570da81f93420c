-- Written by this session's own program over the kit's print (wip/tools/myprint.py); Lean checks it.
import Derived.Test.YtphjmmaeolbggaaG0
import Derived.Test.YtphjmmaeolbggaaG1
import Derived.Test.YtphjmmaeolbggaaG5
import Derived.Test.YtphjmmaeolbggaaG6
import Derived.Test.YtphjmmaeolbggaaG8
import Derived.Test.YtphjmmaeolbggaaG9
import Derived.Test.YtphjmmaeolbggaaG17
import Derived.Test.YtphjmmaeolbggaaG47
import Derived.Test.YtphjmmaeolbggaaMOwn
namespace Go.Proofs.Ytphjmmaeolbggaa.G
open Go.RowKit Go.Proofs.YtphjmmaeolbggaaW.PrintWords Go.Proofs.YtphjmmaeolbggaaW.PrintLast Go.Proofs.YtphjmmaeolbggaaW.PrintMore
attribute [local go_sem] max2_int min2_int max_two min_two max_three min_three max_four min_four str_geq str_gtr str_leq   -- for this text's walks alone
set_option linter.unusedVariables false
set_option linter.unusedSimpArgs false

/-! ### impl_FewestChanges: function 34 -/
def impl_FewestChanges.f (k : Nat) (l0 : List (S69)) : Option (List Int × Bool) := (impl_ArePeople.f k l0).bind fun t101 => (if t101 = true then ((impl_changes.f l0).bind fun t102 => (some (t102, true))) else (some (([] : List Int), false)))
theorem impl_FewestChanges.mono : ∀ a0 k, LeO (impl_FewestChanges.f k a0) (impl_FewestChanges.f (k + 1) a0) := by
  intro a0 k
  unfold impl_FewestChanges.f
  repeat' first
      | (with_reducible exact impl_ArePeople.mono _ _)
      | (with_reducible exact LeO.refl _)
      | (with_reducible exact LeO.none _)
      | (with_reducible refine LeO.ite ?_ ?_)
      | (with_reducible refine LeO.bind ?_ (fun _ => ?_))
      | exact impl_ArePeople.mono _ _
      | exact LeO.none _
      | refine LeO.ite ?_ ?_
      | refine LeO.bind ?_ (fun _ => ?_)
set_option maxHeartbeats 8000000 in
set_option maxRecDepth 100000 in
theorem impl_FewestChanges.calls (k : Nat) (A0 : Option Addr) (c0 : Nat) (l0 : List (S69)) (r1 : List Int) (r2 : Bool) (w : World) (hr0 : Kd.C k69 w A0 l0.length l0) (hc0 : l0.length ≤ c0) (h : impl_FewestChanges.f k l0 = some (r1, r2)) :
    Calls Try.prog 34 #[.slice A0 l0.length c0] w fun e w' => ∃ v0_ : Value, e = .returned (.tuple #[v0_, .bool r2]) ∧ Kd.R (Kd.int .i64) 3 w' w.heap.size (fun _ => True) v0_ r1 ∧ Below w.heap.size w w' := by
  have HR0 := Aside0.mk hr0
  have HC0 := Aside0.mk hc0
  clear hr0 hc0
  have HB := Aside0.mk (Below.refl w.heap.size w)
  have H : ((impl_ArePeople.f k l0).bind fun t101 => (if t101 = true then ((impl_changes.f l0).bind fun t102 => (some (t102, true))) else (some (([] : List Int), false)))) = some (r1, r2) := h
  clear h
  replace H := Option.bind_eq_some_iff.mp H
  obtain ⟨t101, A20, H⟩ := H
  replace H : (if t101 = true then ((impl_changes.f l0).bind fun t102 => (some (t102, true))) else (some (([] : List Int), false))) = some (r1, r2) := H
  have A2 := Aside0.mk A20
  clear A20
  by_cases c3 : t101 = true
  · subst c3
    have H1 : ((impl_changes.f l0).bind fun t102 => (some (t102, true))) = some (r1, r2) := by rw [if_pos rfl] at H; exact H
    clear H
    have H := H1
    clear H1
    replace H := Option.bind_eq_some_iff.mp H
    obtain ⟨t102, A40, H⟩ := H
    replace H : (some (t102, true)) = some (r1, r2) := H
    have A4 := Aside0.mk A40
    clear A40
    simp only [Option.some.injEq, Prod.mk.injEq] at H
    obtain ⟨rfl, rfl⟩ := H
    go_enter Try.func34, Try.ntmps34
    go_wp2_with (first | ((with_reducible refine gate_callee (f := 60) rfl ?_); refine goesL_ (some 5) rfl rfl Try.func60 (by kernel_rfl) rfl #[.slice A0 l0.length c0] rfl (by (try simp only [List.map_toArray, List.map_cons, List.map_nil]); first | done | rfl | (simp only [List.length_drop, List.length_take]; rfl)) ?_; (with_reducible refine (impl_ArePeople.calls k _ _ l0 true _ ?side1 ?side2 A2.out).mono ?_); (case side1 => repeat (first | exact HR0.out | (with_reducible refine Kd.C_alloc ?_ _) | (with_reducible refine Kd.C_drewN ?_ _) | (with_reducible refine Kd.C_drew ?_))); (case side2 => exact HC0.out); rintro e w5 ⟨rfl, hb⟩; refine ⟨_, rfl, ?_⟩; have n0_ := Aside0.mk (below_step (by repeat (first | (with_reducible first | exact HB.out | apply below_alloc | apply pw_below_drewN | apply below_drew1) | exact HB.out)) hb); clear HB; have HB := n0_; clear n0_; (try clear hb); (try clear hb2); (try clear hk); (try clear hi)) | ((with_reducible refine gate_callee (f := 84) rfl ?_); refine goesL_ (some 8) rfl rfl Try.func84 (by kernel_rfl) rfl #[.slice A0 l0.length c0] rfl (by (try simp only [List.map_toArray, List.map_cons, List.map_nil]); first | done | rfl | (simp only [List.length_drop, List.length_take]; rfl)) ?_; (with_reducible refine (impl_changes.calls _ _ l0 t102 _ ?side1 ?side2 A4.out).mono ?_); (case side1 => repeat (first | exact (Kd.C_below HR0.out HB.out) | (with_reducible refine Kd.C_alloc ?_ _) | (with_reducible refine Kd.C_drewN ?_ _) | (with_reducible refine Kd.C_drew ?_))); (case side2 => exact HC0.out); rintro e w6 ⟨v103, rfl, ho0, hb⟩; refine ⟨_, rfl, ?_⟩; have n0_ := Aside0.mk (Kd.R_lower ho0 (below_size (by repeat (first | (with_reducible first | exact HB.out | apply below_alloc | apply pw_below_drewN | apply below_drew1) | exact HB.out)))); have n1_ := Aside0.mk (below_step (by repeat (first | (with_reducible first | exact HB.out | apply below_alloc | apply pw_below_drewN | apply below_drew1) | exact HB.out)) hb); clear HB; have HO104 := n0_; have HB := n1_; clear n0_ n1_; (try clear hb); (try clear hb2); (try clear hk); (try clear hi); (try clear ho0)))
    go_ret2
    exact ⟨_, by first | rfl | (simp [errW_none, errW_some] <;> rfl) | (simp [*, errW_none, errW_some] <;> rfl), by (with_reducible repeat (first | apply Kd.R_alloc | apply Kd.R_drewN | apply Kd.R_drew)); exact HO104.out, by repeat (first | (with_reducible first | exact HB.out | apply below_alloc | apply pw_below_drewN | apply below_drew1) | exact HB.out)⟩
  · replace c3 := Bool.eq_false_iff.mpr c3
    subst c3
    have H1 : (some (([] : List Int), false)) = some (r1, r2) := by rw [if_neg (show ¬ (false = true) by decide)] at H; exact H
    clear H
    have H := H1
    clear H1
    simp only [Option.some.injEq, Prod.mk.injEq] at H
    obtain ⟨rfl, rfl⟩ := H
    go_enter Try.func34, Try.ntmps34
    go_wp2_with (first | ((with_reducible refine gate_callee (f := 60) rfl ?_); refine goesL_ (some 5) rfl rfl Try.func60 (by kernel_rfl) rfl #[.slice A0 l0.length c0] rfl (by (try simp only [List.map_toArray, List.map_cons, List.map_nil]); first | done | rfl | (simp only [List.length_drop, List.length_take]; rfl)) ?_; (with_reducible refine (impl_ArePeople.calls k _ _ l0 false _ ?side1 ?side2 A2.out).mono ?_); (case side1 => repeat (first | exact HR0.out | (with_reducible refine Kd.C_alloc ?_ _) | (with_reducible refine Kd.C_drewN ?_ _) | (with_reducible refine Kd.C_drew ?_))); (case side2 => exact HC0.out); rintro e w7 ⟨rfl, hb⟩; refine ⟨_, rfl, ?_⟩; have n0_ := Aside0.mk (below_step (by repeat (first | (with_reducible first | exact HB.out | apply below_alloc | apply pw_below_drewN | apply below_drew1) | exact HB.out)) hb); clear HB; have HB := n0_; clear n0_; (try clear hb); (try clear hb2); (try clear hk); (try clear hi)))
    go_ret2
    exact ⟨_, by first | rfl | (simp [errW_none, errW_some] <;> rfl) | (simp [*, errW_none, errW_some] <;> rfl), by first | exact Kd.R_nil _ _ _ _ _ | exact Kd.N_nil _ _ _ _ _ | exact Kd.V_nil _ _ _ _ _ | exact Kd.Q_nil _ _ _ _ _ | exact Kd.S_nil _ _ _ _ _, by repeat (first | (with_reducible first | exact HB.out | apply below_alloc | apply pw_below_drewN | apply below_drew1) | exact HB.out)⟩

/-! ### laws_FnExactFewestChanges: function 6 -/
/-- THE ONE PURE STATEMENT of laws_FnExactFewestChanges: what its calls answer. -/
def laws_FnExactFewestChanges.Pure : Prop := ∀ (l0 : List (S66)), ((∀ a_, a_ ∈ l0 → gT66 a_) ∧ l0.length * 40 ≤ 140737488351232) → ∃ k : Nat, ∃ z0 : Int, laws_szPersonS.f k l0 1048576 = some z0 ∧ (0 ≤ z0 → ∃ (x0 : List (S69)) (r0 : List Int) (r1 : Bool) (m0 : Int) (y0 : List (S69)) (n0 : Int) (s0 : List Int), laws_toPersonS.f k l0 = some x0 ∧ spec_FewestChanges.f k x0 = some (r0, r1) ∧ impl_FewestChanges.f k x0 = some (r0, r1) ∧ laws_eqIntS.f k r0 r0 = some true ∧ laws_eqPersonS.f k x0 x0 = some true ∧ laws_markPersonS.f k x0 1 = some (m0, y0) ∧ 0 ≤ m0 ∧ laws_markIntS.f k r0 1 = some (n0, s0) ∧ laws_heldIntS.f k s0 1 = some n0 ∧ 0 ≤ n0)
set_option maxHeartbeats 40000000 in
set_option maxRecDepth 100000 in
theorem laws_FnExactFewestChanges.walk (P : laws_FnExactFewestChanges.Pure) (A0 : Option Addr) (c0 : Nat) (l0 : List (S66)) (w : World) (hr0 : Kd.C k66 w A0 l0.length l0) (hc0 : l0.length ≤ c0) (b0 : ((∀ a_, a_ ∈ l0 → gT66 a_) ∧ l0.length * 40 ≤ 140737488351232)) :
    Calls Try.prog 6 #[.slice A0 l0.length c0] w fun e w' => e = .returned (.bool true) ∧ Below w.heap.size w w' := by
  obtain ⟨k, F⟩ := P l0 b0
  clear P b0
  have HR0 := Aside0.mk hr0; have HC0 := Aside0.mk hc0; clear hr0 hc0
  have HB := Aside0.mk (Below.refl w.heap.size w)
  obtain ⟨z0, Fz0, F⟩ := F
  have FZ0 := Aside0.mk Fz0; clear Fz0; have FF := Aside0.mk F; clear F
  go_enter Try.func6, Try.ntmps6
  go_wp2_with fail
  refine MOwn.named ?_
  intro wa1 hW
  have HB' := Aside0.mk (show Below w.heap.size w wa1 from (by subst hW; repeat (first | (with_reducible first | exact HB.out | apply below_alloc | apply pw_below_drewN | apply below_drew1) | exact HB.out))); clear HB; have HB := HB'; clear HB' hW
  refine (laws_szPersonS.calls k _ _ l0 1048576 z0 _ (Kd.C_below HR0.out HB.out) HC0.out FZ0.out).mono ?_
  rintro e wb1 ⟨rfl, hb⟩
  have HB' := Aside0.mk (below_step HB.out hb); clear HB; have HB := HB'; clear HB' hb
  by_cases hz : z0 < 0
  case pos =>
    have b1 : decide (z0 < 0) = true := decide_eq_true hz
    clear hz
    go_wp2
    go_ret
    exact ⟨rfl, by repeat (first | (with_reducible first | exact HB.out | apply below_alloc | apply pw_below_drewN | apply below_drew1) | exact HB.out)⟩
  have b1_0 : decide (z0 < 0) = false := decide_eq_false hz
  have F := FF.out (by omega); clear FF hz
  obtain ⟨x0, r0, r1, m0, y0, n0, s0, Fto0, Fsp, Fim, Feq0, Fex0, Fmx0, Fm, Fmr0, Fhe0, Fn0⟩ := F
  have H_Fto0 := Aside0.mk Fto0; clear Fto0
  have H_Fsp := Aside0.mk Fsp; clear Fsp
  have H_Fim := Aside0.mk Fim; clear Fim
  have H_Feq0 := Aside0.mk Feq0; clear Feq0
  have H_Fex0 := Aside0.mk Fex0; clear Fex0
  have H_Fmx0 := Aside0.mk Fmx0; clear Fmx0
  have H_Fm := Aside0.mk Fm; clear Fm
  have H_Fmr0 := Aside0.mk Fmr0; clear Fmr0
  have H_Fhe0 := Aside0.mk Fhe0; clear Fhe0
  have H_Fn0 := Aside0.mk Fn0; clear Fn0
  have b2 : decide (m0 < 0) = false := decide_eq_false (by have := H_Fm.out; omega)
  have b3_0 : decide (n0 < 0) = false := decide_eq_false (by have := H_Fn0.out; omega)
  go_wp2_with fail
  refine MOwn.named ?_
  intro wa2 hW
  have HB' := Aside0.mk (show Below w.heap.size w wa2 from (by subst hW; repeat (first | (with_reducible first | exact HB.out | apply below_alloc | apply pw_below_drewN | apply below_drew1) | exact HB.out))); clear HB; have HB := HB'; clear HB' hW
  refine (laws_toPersonS.calls k _ _ l0 x0 _ (Kd.C_below HR0.out HB.out) HC0.out H_Fto0.out).mono ?_
  rintro e wb2 ⟨vp0, rfl, hop0, hb⟩
  obtain ⟨lp0_, up0_, hl_, hr_⟩ : ∃ lo hi, lo = _ ∧ MOwn.RR k69 69 wb2 w.heap.size lo hi vp0 x0 := ⟨_, _, rfl, MOwn.RR.new hop0 (below_size HB.out)⟩
  have Hp0 := Aside0.mk hr_; clear hr_ hl_ hop0
  obtain ⟨Ap0_, cp0_, rfl⟩ := Hp0.out.form
  have HB' := Aside0.mk (below_step HB.out hb); clear HB; have HB := HB'; clear HB' hb
  go_wp2_with fail
  refine MOwn.named ?_
  intro wa3 hW
  have H' := Aside0.mk (Hp0.out.at (W := wa3) (by subst hW; rfl)); clear Hp0; have Hp0 := H'; clear H'
  have HB' := Aside0.mk (show Below w.heap.size w wa3 from (by subst hW; repeat (first | (with_reducible first | exact HB.out | apply below_alloc | apply pw_below_drewN | apply below_drew1) | exact HB.out))); clear HB; have HB := HB'; clear HB' hW
  refine (spec_FewestChanges.calls k _ _ x0 r0 r1 _ Hp0.out.reads.2.2 Hp0.out.reads.2.1 H_Fsp.out).mono ?_
  rintro e wb3 ⟨vs0, rfl, hos0, hb⟩
  obtain ⟨ls0_, us0_, hl_, hr_⟩ : ∃ lo hi, lo = _ ∧ MOwn.RR (Kd.int .i64) 3 wb3 w.heap.size lo hi vs0 r0 := ⟨_, _, rfl, MOwn.RR.new hos0 (below_size HB.out)⟩
  have Sp0_s0 := Aside0.mk (show up0_ ≤ ls0_ by rw [hl_]; exact Hp0.out.2)
  have Hs0 := Aside0.mk hr_; clear hr_ hl_ hos0
  have H' := Aside0.mk (Hp0.out.below hb); clear Hp0; have Hp0 := H'; clear H'
  obtain ⟨As0_, cs0_, rfl⟩ := Hs0.out.form
  have HB' := Aside0.mk (below_step HB.out hb); clear HB; have HB := HB'; clear HB' hb
  clear Hp0
  go_wp2_with fail
  refine MOwn.named ?_
  intro wa4 hW
  have H' := Aside0.mk (Hs0.out.at (W := wa4) (by subst hW; rfl)); clear Hs0; have Hs0 := H'; clear H'
  have HB' := Aside0.mk (show Below w.heap.size w wa4 from (by subst hW; repeat (first | (with_reducible first | exact HB.out | apply below_alloc | apply pw_below_drewN | apply below_drew1) | exact HB.out))); clear HB; have HB := HB'; clear HB' hW
  refine (laws_toPersonS.calls k _ _ l0 x0 _ (Kd.C_below HR0.out HB.out) HC0.out H_Fto0.out).mono ?_
  rintro e wb4 ⟨vx0, rfl, hox0, hb⟩
  obtain ⟨lx0_, ux0_, hl_, hr_⟩ : ∃ lo hi, lo = _ ∧ MOwn.RR k69 69 wb4 w.heap.size lo hi vx0 x0 := ⟨_, _, rfl, MOwn.RR.new hox0 (below_size HB.out)⟩
  have Ss0_x0 := Aside0.mk (show us0_ ≤ lx0_ by rw [hl_]; exact Hs0.out.2)
  have Hx0 := Aside0.mk hr_; clear hr_ hl_ hox0
  have H' := Aside0.mk (Hs0.out.below hb); clear Hs0; have Hs0 := H'; clear H'
  obtain ⟨Ax0_, cx0_, rfl⟩ := Hx0.out.form
  have HB' := Aside0.mk (below_step HB.out hb); clear HB; have HB := HB'; clear HB' hb
  go_wp2_with fail
  refine MOwn.named ?_
  intro wa5 hW
  have H' := Aside0.mk (Hs0.out.at (W := wa5) (by subst hW; rfl)); clear Hs0; have Hs0 := H'; clear H'
  have H' := Aside0.mk (Hx0.out.at (W := wa5) (by subst hW; rfl)); clear Hx0; have Hx0 := H'; clear H'
  have HB' := Aside0.mk (show Below w.heap.size w wa5 from (by subst hW; repeat (first | (with_reducible first | exact HB.out | apply below_alloc | apply pw_below_drewN | apply below_drew1) | exact HB.out))); clear HB; have HB := HB'; clear HB' hW
  refine (impl_FewestChanges.calls k _ _ x0 r0 r1 _ Hx0.out.reads.2.2 Hx0.out.reads.2.1 H_Fim.out).mono ?_
  rintro e wb5 ⟨vg0, rfl, hog0, hb⟩
  obtain ⟨lg0_, ug0_, hl_, hr_⟩ : ∃ lo hi, lo = _ ∧ MOwn.RR (Kd.int .i64) 3 wb5 w.heap.size lo hi vg0 r0 := ⟨_, _, rfl, MOwn.RR.new hog0 (below_size HB.out)⟩
  have Ss0_g0 := Aside0.mk (show us0_ ≤ lg0_ by rw [hl_]; exact Hs0.out.2)
  have Sx0_g0 := Aside0.mk (show ux0_ ≤ lg0_ by rw [hl_]; exact Hx0.out.2)
  have Hg0 := Aside0.mk hr_; clear hr_ hl_ hog0
  have H' := Aside0.mk (Hs0.out.below hb); clear Hs0; have Hs0 := H'; clear H'
  have H' := Aside0.mk (Hx0.out.below hb); clear Hx0; have Hx0 := H'; clear H'
  obtain ⟨Ag0_, cg0_, rfl⟩ := Hg0.out.form
  have HB' := Aside0.mk (below_step HB.out hb); clear HB; have HB := HB'; clear HB' hb
  go_wp2_with fail
  refine MOwn.named ?_
  intro wa6 hW
  have H' := Aside0.mk (Hs0.out.at (W := wa6) (by subst hW; rfl)); clear Hs0; have Hs0 := H'; clear H'
  have H' := Aside0.mk (Hx0.out.at (W := wa6) (by subst hW; rfl)); clear Hx0; have Hx0 := H'; clear H'
  have H' := Aside0.mk (Hg0.out.at (W := wa6) (by subst hW; rfl)); clear Hg0; have Hg0 := H'; clear H'
  have HB' := Aside0.mk (show Below w.heap.size w wa6 from (by subst hW; repeat (first | (with_reducible first | exact HB.out | apply below_alloc | apply pw_below_drewN | apply below_drew1) | exact HB.out))); clear HB; have HB := HB'; clear HB' hW
  refine (laws_eqIntS.calls k _ _ r0 _ _ r0 true _ Hg0.out.reads.2.2 Hg0.out.reads.2.1 Hs0.out.reads.2.2 Hs0.out.reads.2.1 H_Feq0.out).mono ?_
  rintro e wb6 ⟨rfl, hd⟩
  have hb := hd.below; clear hd
  have H' := Aside0.mk (Hs0.out.below hb); clear Hs0; have Hs0 := H'; clear H'
  have H' := Aside0.mk (Hx0.out.below hb); clear Hx0; have Hx0 := H'; clear H'
  have H' := Aside0.mk (Hg0.out.below hb); clear Hg0; have Hg0 := H'; clear H'
  have HB' := Aside0.mk (below_step HB.out hb); clear HB; have HB := HB'; clear HB' hb
  go_wp2_with fail
  refine MOwn.named ?_
  intro wa7 hW
  have H' := Aside0.mk (Hs0.out.at (W := wa7) (by subst hW; rfl)); clear Hs0; have Hs0 := H'; clear H'
  have H' := Aside0.mk (Hx0.out.at (W := wa7) (by subst hW; rfl)); clear Hx0; have Hx0 := H'; clear H'
  have H' := Aside0.mk (Hg0.out.at (W := wa7) (by subst hW; rfl)); clear Hg0; have Hg0 := H'; clear H'
  have HB' := Aside0.mk (show Below w.heap.size w wa7 from (by subst hW; repeat (first | (with_reducible first | exact HB.out | apply below_alloc | apply pw_below_drewN | apply below_drew1) | exact HB.out))); clear HB; have HB := HB'; clear HB' hW
  refine (laws_toPersonS.calls k _ _ l0 x0 _ (Kd.C_below HR0.out HB.out) HC0.out H_Fto0.out).mono ?_
  rintro e wb7 ⟨vt0, rfl, hot0, hb⟩
  obtain ⟨lt0_, ut0_, hl_, hr_⟩ : ∃ lo hi, lo = _ ∧ MOwn.RR k69 69 wb7 w.heap.size lo hi vt0 x0 := ⟨_, _, rfl, MOwn.RR.new hot0 (below_size HB.out)⟩
  have Ss0_t0 := Aside0.mk (show us0_ ≤ lt0_ by rw [hl_]; exact Hs0.out.2)
  have Sx0_t0 := Aside0.mk (show ux0_ ≤ lt0_ by rw [hl_]; exact Hx0.out.2)
  have Sg0_t0 := Aside0.mk (show ug0_ ≤ lt0_ by rw [hl_]; exact Hg0.out.2)
  have Ht0 := Aside0.mk hr_; clear hr_ hl_ hot0
  have H' := Aside0.mk (Hs0.out.below hb); clear Hs0; have Hs0 := H'; clear H'
  have H' := Aside0.mk (Hx0.out.below hb); clear Hx0; have Hx0 := H'; clear H'
  have H' := Aside0.mk (Hg0.out.below hb); clear Hg0; have Hg0 := H'; clear H'
  obtain ⟨At0_, ct0_, rfl⟩ := Ht0.out.form
  have HB' := Aside0.mk (below_step HB.out hb); clear HB; have HB := HB'; clear HB' hb
  go_wp2_with fail
  refine MOwn.named ?_
  intro wa8 hW
  have H' := Aside0.mk (Hs0.out.at (W := wa8) (by subst hW; rfl)); clear Hs0; have Hs0 := H'; clear H'
  have H' := Aside0.mk (Hx0.out.at (W := wa8) (by subst hW; rfl)); clear Hx0; have Hx0 := H'; clear H'
  have H' := Aside0.mk (Hg0.out.at (W := wa8) (by subst hW; rfl)); clear Hg0; have Hg0 := H'; clear H'
  have H' := Aside0.mk (Ht0.out.at (W := wa8) (by subst hW; rfl)); clear Ht0; have Ht0 := H'; clear H'
  have HB' := Aside0.mk (show Below w.heap.size w wa8 from (by subst hW; repeat (first | (with_reducible first | exact HB.out | apply below_alloc | apply pw_below_drewN | apply below_drew1) | exact HB.out))); clear HB; have HB := HB'; clear HB' hW
  refine (laws_eqPersonS.calls k _ _ x0 _ _ x0 true _ Hx0.out.reads.2.2 Hx0.out.reads.2.1 Ht0.out.reads.2.2 Ht0.out.reads.2.1 H_Fex0.out).mono ?_
  rintro e wb8 ⟨rfl, hb⟩
  have H' := Aside0.mk (Hs0.out.below hb); clear Hs0; have Hs0 := H'; clear H'
  have H' := Aside0.mk (Hx0.out.below hb); clear Hx0; have Hx0 := H'; clear H'
  have H' := Aside0.mk (Hg0.out.below hb); clear Hg0; have Hg0 := H'; clear H'
  have H' := Aside0.mk (Ht0.out.below hb); clear Ht0; have Ht0 := H'; clear H'
  have HB' := Aside0.mk (below_step HB.out hb); clear HB; have HB := HB'; clear HB' hb
  clear Ht0
  go_wp2_with fail
  refine MOwn.named ?_
  intro wa9 hW
  have H' := Aside0.mk (Hs0.out.at (W := wa9) (by subst hW; rfl)); clear Hs0; have Hs0 := H'; clear H'
  have H' := Aside0.mk (Hx0.out.at (W := wa9) (by subst hW; rfl)); clear Hx0; have Hx0 := H'; clear H'
  have H' := Aside0.mk (Hg0.out.at (W := wa9) (by subst hW; rfl)); clear Hg0; have Hg0 := H'; clear H'
  have HB' := Aside0.mk (show Below w.heap.size w wa9 from (by subst hW; repeat (first | (with_reducible first | exact HB.out | apply below_alloc | apply pw_below_drewN | apply below_drew1) | exact HB.out))); clear HB; have HB := HB'; clear HB' hW
  refine (laws_markPersonS.calls k (fun k_ => lx0_ ≤ k_ ∧ k_ < ux0_) _ x0 1 _ _ w _ HB.out Hx0.out.1 H_Fmx0.out).mono ?_
  rintro e wb9 ⟨rfl, hy, hb, hkp⟩
  have H' := Aside0.mk (Hs0.out.kept hkp (fun k_ h1 h2 h3 => by have := Ss0_x0.out; omega)); clear Hs0; have Hs0 := H'; clear H'
  have H' := Aside0.mk (MOwn.RR.back rfl Hx0.out hy hkp.1); clear Hx0; have Hx0 := H'; clear H' hy
  have H' := Aside0.mk (Hg0.out.kept hkp (fun k_ h1 h2 h3 => by have := Sx0_g0.out; omega)); clear Hg0; have Hg0 := H'; clear H'
  have HB' := Aside0.mk hb; clear HB; have HB := HB'; clear HB' hb hkp
  clear Hx0
  go_wp2_with fail
  refine MOwn.named ?_
  intro wa10 hW
  have H' := Aside0.mk (Hs0.out.at (W := wa10) (by subst hW; rfl)); clear Hs0; have Hs0 := H'; clear H'
  have H' := Aside0.mk (Hg0.out.at (W := wa10) (by subst hW; rfl)); clear Hg0; have Hg0 := H'; clear H'
  have HB' := Aside0.mk (show Below w.heap.size w wa10 from (by subst hW; repeat (first | (with_reducible first | exact HB.out | apply below_alloc | apply pw_below_drewN | apply below_drew1) | exact HB.out))); clear HB; have HB := HB'; clear HB' hW
  refine (laws_eqIntS.calls k _ _ r0 _ _ r0 true _ Hg0.out.reads.2.2 Hg0.out.reads.2.1 Hs0.out.reads.2.2 Hs0.out.reads.2.1 H_Feq0.out).mono ?_
  rintro e wb10 ⟨rfl, hd⟩
  have hb := hd.below; clear hd
  have H' := Aside0.mk (Hs0.out.below hb); clear Hs0; have Hs0 := H'; clear H'
  have H' := Aside0.mk (Hg0.out.below hb); clear Hg0; have Hg0 := H'; clear H'
  have HB' := Aside0.mk (below_step HB.out hb); clear HB; have HB := HB'; clear HB' hb
  go_wp2_with fail
  refine MOwn.named ?_
  intro wa11 hW
  have H' := Aside0.mk (Hs0.out.at (W := wa11) (by subst hW; rfl)); clear Hs0; have Hs0 := H'; clear H'
  have H' := Aside0.mk (Hg0.out.at (W := wa11) (by subst hW; rfl)); clear Hg0; have Hg0 := H'; clear H'
  have HB' := Aside0.mk (show Below w.heap.size w wa11 from (by subst hW; repeat (first | (with_reducible first | exact HB.out | apply below_alloc | apply pw_below_drewN | apply below_drew1) | exact HB.out))); clear HB; have HB := HB'; clear HB' hW
  refine (laws_markIntS.calls k (fun k_ => lg0_ ≤ k_ ∧ k_ < ug0_) _ r0 1 _ _ w _ HB.out Hg0.out.1 H_Fmr0.out).mono ?_
  rintro e wb11 ⟨rfl, hy, hb, hkp⟩
  have H' := Aside0.mk (Hs0.out.kept hkp (fun k_ h1 h2 h3 => by have := Ss0_g0.out; omega)); clear Hs0; have Hs0 := H'; clear H'
  have H' := Aside0.mk (MOwn.RR.back rfl Hg0.out hy hkp.1); clear Hg0; have Hg0 := H'; clear H' hy
  have HB' := Aside0.mk hb; clear HB; have HB := HB'; clear HB' hb hkp
  go_wp2_with fail
  refine MOwn.named ?_
  intro wa12 hW
  have H' := Aside0.mk (Hs0.out.at (W := wa12) (by subst hW; rfl)); clear Hs0; have Hs0 := H'; clear H'
  have H' := Aside0.mk (Hg0.out.at (W := wa12) (by subst hW; rfl)); clear Hg0; have Hg0 := H'; clear H'
  have HB' := Aside0.mk (show Below w.heap.size w wa12 from (by subst hW; repeat (first | (with_reducible first | exact HB.out | apply below_alloc | apply pw_below_drewN | apply below_drew1) | exact HB.out))); clear HB; have HB := HB'; clear HB' hW
  refine calls_of_args (args' := #[.slice Ag0_ s0.length cg0_, .int .i64 1]) (by rw [Hg0.out.reads.1]) ?_
  refine (laws_heldIntS.calls k _ _ s0 1 n0 _ (by have h_ := Hg0.out.reads; exact h_.2.2) (by have h_ := Hg0.out.reads; omega) H_Fhe0.out).mono ?_
  rintro e wb12 ⟨rfl, hd⟩
  have hb := hd.below; clear hd
  have H' := Aside0.mk (Hs0.out.below hb); clear Hs0; have Hs0 := H'; clear H'
  have H' := Aside0.mk (Hg0.out.below hb); clear Hg0; have Hg0 := H'; clear H'
  have HB' := Aside0.mk (below_step HB.out hb); clear HB; have HB := HB'; clear HB' hb
  go_wp2_with fail
  refine MOwn.named ?_
  intro wa13 hW
  have H' := Aside0.mk (Hs0.out.at (W := wa13) (by subst hW; rfl)); clear Hs0; have Hs0 := H'; clear H'
  have H' := Aside0.mk (Hg0.out.at (W := wa13) (by subst hW; rfl)); clear Hg0; have Hg0 := H'; clear H'
  have HB' := Aside0.mk (show Below w.heap.size w wa13 from (by subst hW; repeat (first | (with_reducible first | exact HB.out | apply below_alloc | apply pw_below_drewN | apply below_drew1) | exact HB.out))); clear HB; have HB := HB'; clear HB' hW
  refine (laws_toPersonS.calls k _ _ l0 x0 _ (Kd.C_below HR0.out HB.out) HC0.out H_Fto0.out).mono ?_
  rintro e wb13 ⟨vh0, rfl, hoh0, hb⟩
  obtain ⟨lh0_, uh0_, hl_, hr_⟩ : ∃ lo hi, lo = _ ∧ MOwn.RR k69 69 wb13 w.heap.size lo hi vh0 x0 := ⟨_, _, rfl, MOwn.RR.new hoh0 (below_size HB.out)⟩
  have Ss0_h0 := Aside0.mk (show us0_ ≤ lh0_ by rw [hl_]; exact Hs0.out.2)
  have Sg0_h0 := Aside0.mk (show ug0_ ≤ lh0_ by rw [hl_]; exact Hg0.out.2)
  have Hh0 := Aside0.mk hr_; clear hr_ hl_ hoh0
  have H' := Aside0.mk (Hs0.out.below hb); clear Hs0; have Hs0 := H'; clear H'
  have H' := Aside0.mk (Hg0.out.below hb); clear Hg0; have Hg0 := H'; clear H'
  obtain ⟨Ah0_, ch0_, rfl⟩ := Hh0.out.form
  have HB' := Aside0.mk (below_step HB.out hb); clear HB; have HB := HB'; clear HB' hb
  go_wp2_with fail
  refine MOwn.named ?_
  intro wa14 hW
  have H' := Aside0.mk (Hs0.out.at (W := wa14) (by subst hW; rfl)); clear Hs0; have Hs0 := H'; clear H'
  have H' := Aside0.mk (Hg0.out.at (W := wa14) (by subst hW; rfl)); clear Hg0; have Hg0 := H'; clear H'
  have H' := Aside0.mk (Hh0.out.at (W := wa14) (by subst hW; rfl)); clear Hh0; have Hh0 := H'; clear H'
  have HB' := Aside0.mk (show Below w.heap.size w wa14 from (by subst hW; repeat (first | (with_reducible first | exact HB.out | apply below_alloc | apply pw_below_drewN | apply below_drew1) | exact HB.out))); clear HB; have HB := HB'; clear HB' hW
  refine (impl_FewestChanges.calls k _ _ x0 r0 r1 _ Hh0.out.reads.2.2 Hh0.out.reads.2.1 H_Fim.out).mono ?_
  rintro e wb14 ⟨vk0, rfl, hok0, hb⟩
  obtain ⟨lk0_, uk0_, hl_, hr_⟩ : ∃ lo hi, lo = _ ∧ MOwn.RR (Kd.int .i64) 3 wb14 w.heap.size lo hi vk0 r0 := ⟨_, _, rfl, MOwn.RR.new hok0 (below_size HB.out)⟩
  have Ss0_k0 := Aside0.mk (show us0_ ≤ lk0_ by rw [hl_]; exact Hs0.out.2)
  have Sg0_k0 := Aside0.mk (show ug0_ ≤ lk0_ by rw [hl_]; exact Hg0.out.2)
  have Sh0_k0 := Aside0.mk (show uh0_ ≤ lk0_ by rw [hl_]; exact Hh0.out.2)
  have Hk0 := Aside0.mk hr_; clear hr_ hl_ hok0
  have H' := Aside0.mk (Hs0.out.below hb); clear Hs0; have Hs0 := H'; clear H'
  have H' := Aside0.mk (Hg0.out.below hb); clear Hg0; have Hg0 := H'; clear H'
  have H' := Aside0.mk (Hh0.out.below hb); clear Hh0; have Hh0 := H'; clear H'
  obtain ⟨Ak0_, ck0_, rfl⟩ := Hk0.out.form
  have HB' := Aside0.mk (below_step HB.out hb); clear HB; have HB := HB'; clear HB' hb
  clear Hh0
  go_wp2_with fail
  refine MOwn.named ?_
  intro wa15 hW
  have H' := Aside0.mk (Hs0.out.at (W := wa15) (by subst hW; rfl)); clear Hs0; have Hs0 := H'; clear H'
  have H' := Aside0.mk (Hg0.out.at (W := wa15) (by subst hW; rfl)); clear Hg0; have Hg0 := H'; clear H'
  have H' := Aside0.mk (Hk0.out.at (W := wa15) (by subst hW; rfl)); clear Hk0; have Hk0 := H'; clear H'
  have HB' := Aside0.mk (show Below w.heap.size w wa15 from (by subst hW; repeat (first | (with_reducible first | exact HB.out | apply below_alloc | apply pw_below_drewN | apply below_drew1) | exact HB.out))); clear HB; have HB := HB'; clear HB' hW
  refine (laws_eqIntS.calls k _ _ r0 _ _ r0 true _ Hk0.out.reads.2.2 Hk0.out.reads.2.1 Hs0.out.reads.2.2 Hs0.out.reads.2.1 H_Feq0.out).mono ?_
  rintro e wb15 ⟨rfl, hd⟩
  have hb := hd.below; clear hd
  have H' := Aside0.mk (Hs0.out.below hb); clear Hs0; have Hs0 := H'; clear H'
  have H' := Aside0.mk (Hg0.out.below hb); clear Hg0; have Hg0 := H'; clear H'
  have H' := Aside0.mk (Hk0.out.below hb); clear Hk0; have Hk0 := H'; clear H'
  have HB' := Aside0.mk (below_step HB.out hb); clear HB; have HB := HB'; clear HB' hb
  go_wp2_with fail
  refine MOwn.named ?_
  intro wa16 hW
  have H' := Aside0.mk (Hs0.out.at (W := wa16) (by subst hW; rfl)); clear Hs0; have Hs0 := H'; clear H'
  have H' := Aside0.mk (Hg0.out.at (W := wa16) (by subst hW; rfl)); clear Hg0; have Hg0 := H'; clear H'
  have H' := Aside0.mk (Hk0.out.at (W := wa16) (by subst hW; rfl)); clear Hk0; have Hk0 := H'; clear H'
  have HB' := Aside0.mk (show Below w.heap.size w wa16 from (by subst hW; repeat (first | (with_reducible first | exact HB.out | apply below_alloc | apply pw_below_drewN | apply below_drew1) | exact HB.out))); clear HB; have HB := HB'; clear HB' hW
  refine calls_of_args (args' := #[.slice Ag0_ s0.length cg0_, .int .i64 1]) (by rw [Hg0.out.reads.1]) ?_
  refine (laws_heldIntS.calls k _ _ s0 1 n0 _ (by have h_ := Hg0.out.reads; exact h_.2.2) (by have h_ := Hg0.out.reads; omega) H_Fhe0.out).mono ?_
  rintro e wb16 ⟨rfl, hd⟩
  have hb := hd.below; clear hd
  have H' := Aside0.mk (Hs0.out.below hb); clear Hs0; have Hs0 := H'; clear H'
  have H' := Aside0.mk (Hg0.out.below hb); clear Hg0; have Hg0 := H'; clear H'
  have H' := Aside0.mk (Hk0.out.below hb); clear Hk0; have Hk0 := H'; clear H'
  have HB' := Aside0.mk (below_step HB.out hb); clear HB; have HB := HB'; clear HB' hb
  go_wp2
  go_ret
  exact ⟨rfl, by repeat (first | (with_reducible first | exact HB.out | apply below_alloc | apply pw_below_drewN | apply below_drew1) | exact HB.out)⟩

end Go.Proofs.Ytphjmmaeolbggaa.G
