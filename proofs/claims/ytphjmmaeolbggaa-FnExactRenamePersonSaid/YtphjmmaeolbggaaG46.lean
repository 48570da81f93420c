-- Written by this session's own program over the kit's print (wip/tools/myprint.py); Lean checks it.
import Derived.Test.YtphjmmaeolbggaaG0
import Derived.Test.YtphjmmaeolbggaaG1
import Derived.Test.YtphjmmaeolbggaaG5
import Derived.Test.YtphjmmaeolbggaaG9
import Derived.Test.YtphjmmaeolbggaaG13
import Derived.Test.YtphjmmaeolbggaaG15
import Derived.Test.YtphjmmaeolbggaaG45
import Derived.Test.YtphjmmaeolbggaaMOwn
namespace Go.Proofs.Ytphjmmaeolbggaa.G
open Go.RowKit Go.Proofs.YtphjmmaeolbggaaW.PrintWords Go.Proofs.YtphjmmaeolbggaaW.PrintLast Go.Proofs.YtphjmmaeolbggaaW.PrintMore
attribute [local go_sem] max2_int min2_int max_two min_two max_three min_three max_four min_four str_geq str_gtr str_leq   -- for this text's walks alone
set_option linter.unusedVariables false
set_option linter.unusedSimpArgs false

/-! ### laws_FnExactRenamePerson: function 5 -/
/-- THE ONE PURE STATEMENT of laws_FnExactRenamePerson: what its calls answer. -/
def laws_FnExactRenamePerson.Pure : Prop := ∀ (l0 : List (S66)) (a1 : Int) (a2 : Int) (a3 : Int) (a4 : Int), ((∀ a_, a_ ∈ l0 → gT66 a_) ∧ l0.length * 40 ≤ 140737488351232) → (Lit.int .i64 a1).wf = true → (Lit.int .i64 a2).wf = true → (Lit.int .i64 a3).wf = true → (Lit.int .i64 a4).wf = true → ∃ k : Nat, ∃ z0 : Int, laws_szPersonS.f k l0 1048576 = some z0 ∧ (0 ≤ z0 → ∃ (x0 : List (S69)) (r0 : List (S69)) (r1 : Bool) (m0 : Int) (y0 : List (S69)) (n0 : Int) (s0 : List (S69)), laws_toPersonS.f k l0 = some x0 ∧ spec_RenamePerson.f k x0 a1 a2 a3 a4 = some (r0, r1) ∧ impl_RenamePerson.f k x0 a1 a2 a3 a4 = some (r0, r1) ∧ laws_eqPersonS.f k r0 r0 = some true ∧ laws_eqPersonS.f k x0 x0 = some true ∧ laws_markPersonS.f k x0 1 = some (m0, y0) ∧ 0 ≤ m0 ∧ laws_markPersonS.f k r0 1 = some (n0, s0) ∧ laws_heldPersonS.f k s0 1 = some n0 ∧ 0 ≤ n0)
set_option maxHeartbeats 40000000 in
set_option maxRecDepth 100000 in
theorem laws_FnExactRenamePerson.walk (P : laws_FnExactRenamePerson.Pure) (A0 : Option Addr) (c0 : Nat) (l0 : List (S66)) (a1 : Int) (a2 : Int) (a3 : Int) (a4 : Int) (w : World) (hr0 : Kd.C k66 w A0 l0.length l0) (hc0 : l0.length ≤ c0) (b0 : ((∀ a_, a_ ∈ l0 → gT66 a_) ∧ l0.length * 40 ≤ 140737488351232)) (b1 : (Lit.int .i64 a1).wf = true) (b2 : (Lit.int .i64 a2).wf = true) (b3 : (Lit.int .i64 a3).wf = true) (b4 : (Lit.int .i64 a4).wf = true) :
    Calls Try.prog 5 #[.slice A0 l0.length c0, .int .i64 a1, .int .i64 a2, .int .i64 a3, .int .i64 a4] w fun e w' => e = .returned (.bool true) ∧ Below w.heap.size w w' := by
  obtain ⟨k, F⟩ := P l0 a1 a2 a3 a4 b0 b1 b2 b3 b4
  clear P b0 b1 b2 b3 b4
  have HR0 := Aside0.mk hr0; have HC0 := Aside0.mk hc0; clear hr0 hc0
  have HB := Aside0.mk (Below.refl w.heap.size w)
  obtain ⟨z0, Fz0, F⟩ := F
  have FZ0 := Aside0.mk Fz0; clear Fz0; have FF := Aside0.mk F; clear F
  go_enter Try.func5, Try.ntmps5
  go_wp2_with fail
  refine MOwn.named ?_
  intro wa1 hW
  have HB' := Aside0.mk (show Below w.heap.size w wa1 from (by subst hW; repeat (first | (with_reducible first | exact HB.out | apply below_alloc | apply pw_below_drewN | apply below_drew1) | exact HB.out))); clear HB; have HB := HB'; clear HB' hW
  refine (laws_szPersonS.calls k _ _ l0 1048576 z0 _ (Kd.C_below HR0.out HB.out) HC0.out FZ0.out).mono ?_
  rintro e wb1 ⟨rfl, hb⟩
  have HB' := Aside0.mk (below_step HB.out hb); clear HB; have HB := HB'; clear HB' hb
  by_cases hz : z0 < 0
  case pos =>
    have b1 : decide (z0 < 0) = true := decide_eq_true hz
    clear hz
    go_wp2
    go_ret
    exact ⟨rfl, by repeat (first | (with_reducible first | exact HB.out | apply below_alloc | apply pw_below_drewN | apply below_drew1) | exact HB.out)⟩
  have b1_0 : decide (z0 < 0) = false := decide_eq_false hz
  have F := FF.out (by omega); clear FF hz
  obtain ⟨x0, r0, r1, m0, y0, n0, s0, Fto0, Fsp, Fim, Feq0, Fex0, Fmx0, Fm, Fmr0, Fhe0, Fn0⟩ := F
  have H_Fto0 := Aside0.mk Fto0; clear Fto0
  have H_Fsp := Aside0.mk Fsp; clear Fsp
  have H_Fim := Aside0.mk Fim; clear Fim
  have H_Feq0 := Aside0.mk Feq0; clear Feq0
  have H_Fex0 := Aside0.mk Fex0; clear Fex0
  have H_Fmx0 := Aside0.mk Fmx0; clear Fmx0
  have H_Fm := Aside0.mk Fm; clear Fm
  have H_Fmr0 := Aside0.mk Fmr0; clear Fmr0
  have H_Fhe0 := Aside0.mk Fhe0; clear Fhe0
  have H_Fn0 := Aside0.mk Fn0; clear Fn0
  have b2 : decide (m0 < 0) = false := decide_eq_false (by have := H_Fm.out; omega)
  have b3_0 : decide (n0 < 0) = false := decide_eq_false (by have := H_Fn0.out; omega)
  go_wp2_with fail
  refine MOwn.named ?_
  intro wa2 hW
  have HB' := Aside0.mk (show Below w.heap.size w wa2 from (by subst hW; repeat (first | (with_reducible first | exact HB.out | apply below_alloc | apply pw_below_drewN | apply below_drew1) | exact HB.out))); clear HB; have HB := HB'; clear HB' hW
  refine (laws_toPersonS.calls k _ _ l0 x0 _ (Kd.C_below HR0.out HB.out) HC0.out H_Fto0.out).mono ?_
  rintro e wb2 ⟨vp0, rfl, hop0, hb⟩
  obtain ⟨lp0_, up0_, hl_, hr_⟩ : ∃ lo hi, lo = _ ∧ MOwn.RR k69 69 wb2 w.heap.size lo hi vp0 x0 := ⟨_, _, rfl, MOwn.RR.new hop0 (below_size HB.out)⟩
  have Hp0 := Aside0.mk hr_; clear hr_ hl_ hop0
  obtain ⟨Ap0_, cp0_, rfl⟩ := Hp0.out.form
  have HB' := Aside0.mk (below_step HB.out hb); clear HB; have HB := HB'; clear HB' hb
  go_wp2_with fail
  refine MOwn.named ?_
  intro wa3 hW
  have H' := Aside0.mk (Hp0.out.at (W := wa3) (by subst hW; rfl)); clear Hp0; have Hp0 := H'; clear H'
  have HB' := Aside0.mk (show Below w.heap.size w wa3 from (by subst hW; repeat (first | (with_reducible first | exact HB.out | apply below_alloc | apply pw_below_drewN | apply below_drew1) | exact HB.out))); clear HB; have HB := HB'; clear HB' hW
  refine (spec_RenamePerson.calls k _ _ x0 a1 a2 a3 a4 r0 r1 _ Hp0.out.reads.2.2 Hp0.out.reads.2.1 H_Fsp.out).mono ?_
  rintro e wb3 ⟨vs0, rfl, hos0, hb⟩
  obtain ⟨ls0_, us0_, hl_, hr_⟩ : ∃ lo hi, lo = _ ∧ MOwn.RR k69 69 wb3 w.heap.size lo hi vs0 r0 := ⟨_, _, rfl, MOwn.RR.new hos0 (below_size HB.out)⟩
  have Sp0_s0 := Aside0.mk (show up0_ ≤ ls0_ by rw [hl_]; exact Hp0.out.2)
  have Hs0 := Aside0.mk hr_; clear hr_ hl_ hos0
  have H' := Aside0.mk (Hp0.out.below hb); clear Hp0; have Hp0 := H'; clear H'
  obtain ⟨As0_, cs0_, rfl⟩ := Hs0.out.form
  have HB' := Aside0.mk (below_step HB.out hb); clear HB; have HB := HB'; clear HB' hb
  clear Hp0
  go_wp2_with fail
  refine MOwn.named ?_
  intro wa4 hW
  have H' := Aside0.mk (Hs0.out.at (W := wa4) (by subst hW; rfl)); clear Hs0; have Hs0 := H'; clear H'
  have HB' := Aside0.mk (show Below w.heap.size w wa4 from (by subst hW; repeat (first | (with_reducible first | exact HB.out | apply below_alloc | apply pw_below_drewN | apply below_drew1) | exact HB.out))); clear HB; have HB := HB'; clear HB' hW
  refine (laws_toPersonS.calls k _ _ l0 x0 _ (Kd.C_below HR0.out HB.out) HC0.out H_Fto0.out).mono ?_
  rintro e wb4 ⟨vx0, rfl, hox0, hb⟩
  obtain ⟨lx0_, ux0_, hl_, hr_⟩ : ∃ lo hi, lo = _ ∧ MOwn.RR k69 69 wb4 w.heap.size lo hi vx0 x0 := ⟨_, _, rfl, MOwn.RR.new hox0 (below_size HB.out)⟩
  have Ss0_x0 := Aside0.mk (show us0_ ≤ lx0_ by rw [hl_]; exact Hs0.out.2)
  have Hx0 := Aside0.mk hr_; clear hr_ hl_ hox0
  have H' := Aside0.mk (Hs0.out.below hb); clear Hs0; have Hs0 := H'; clear H'
  obtain ⟨Ax0_, cx0_, rfl⟩ := Hx0.out.form
  have HB' := Aside0.mk (below_step HB.out hb); clear HB; have HB := HB'; clear HB' hb
  go_wp2_with fail
  refine MOwn.named ?_
  intro wa5 hW
  have H' := Aside0.mk (Hs0.out.at (W := wa5) (by subst hW; rfl)); clear Hs0; have Hs0 := H'; clear H'
  have H' := Aside0.mk (Hx0.out.at (W := wa5) (by subst hW; rfl)); clear Hx0; have Hx0 := H'; clear H'
  have HB' := Aside0.mk (show Below w.heap.size w wa5 from (by subst hW; repeat (first | (with_reducible first | exact HB.out | apply below_alloc | apply pw_below_drewN | apply below_drew1) | exact HB.out))); clear HB; have HB := HB'; clear HB' hW
  refine (impl_RenamePerson.calls k _ _ x0 a1 a2 a3 a4 r0 r1 _ Hx0.out.reads.2.2 Hx0.out.reads.2.1 H_Fim.out).mono ?_
  rintro e wb5 ⟨vg0, rfl, hog0, hb⟩
  obtain ⟨lg0_, ug0_, hl_, hr_⟩ : ∃ lo hi, lo = _ ∧ MOwn.RR k69 69 wb5 w.heap.size lo hi vg0 r0 := ⟨_, _, rfl, MOwn.RR.new hog0 (below_size HB.out)⟩
  have Ss0_g0 := Aside0.mk (show us0_ ≤ lg0_ by rw [hl_]; exact Hs0.out.2)
  have Sx0_g0 := Aside0.mk (show ux0_ ≤ lg0_ by rw [hl_]; exact Hx0.out.2)
  have Hg0 := Aside0.mk hr_; clear hr_ hl_ hog0
  have H' := Aside0.mk (Hs0.out.below hb); clear Hs0; have Hs0 := H'; clear H'
  have H' := Aside0.mk (Hx0.out.below hb); clear Hx0; have Hx0 := H'; clear H'
  obtain ⟨Ag0_, cg0_, rfl⟩ := Hg0.out.form
  have HB' := Aside0.mk (below_step HB.out hb); clear HB; have HB := HB'; clear HB' hb
  go_wp2_with fail
  refine MOwn.named ?_
  intro wa6 hW
  have H' := Aside0.mk (Hs0.out.at (W := wa6) (by subst hW; rfl)); clear Hs0; have Hs0 := H'; clear H'
  have H' := Aside0.mk (Hx0.out.at (W := wa6) (by subst hW; rfl)); clear Hx0; have Hx0 := H'; clear H'
  have H' := Aside0.mk (Hg0.out.at (W := wa6) (by subst hW; rfl)); clear Hg0; have Hg0 := H'; clear H'
  have HB' := Aside0.mk (show Below w.heap.size w wa6 from (by subst hW; repeat (first | (with_reducible first | exact HB.out | apply below_alloc | apply pw_below_drewN | apply below_drew1) | exact HB.out))); clear HB; have HB := HB'; clear HB' hW
  refine (laws_eqPersonS.calls k _ _ r0 _ _ r0 true _ Hg0.out.reads.2.2 Hg0.out.reads.2.1 Hs0.out.reads.2.2 Hs0.out.reads.2.1 H_Feq0.out).mono ?_
  rintro e wb6 ⟨rfl, hb⟩
  have H' := Aside0.mk (Hs0.out.below hb); clear Hs0; have Hs0 := H'; clear H'
  have H' := Aside0.mk (Hx0.out.below hb); clear Hx0; have Hx0 := H'; clear H'
  have H' := Aside0.mk (Hg0.out.below hb); clear Hg0; have Hg0 := H'; clear H'
  have HB' := Aside0.mk (below_step HB.out hb); clear HB; have HB := HB'; clear HB' hb
  go_wp2_with fail
  refine MOwn.named ?_
  intro wa7 hW
  have H' := Aside0.mk (Hs0.out.at (W := wa7) (by subst hW; rfl)); clear Hs0; have Hs0 := H'; clear H'
  have H' := Aside0.mk (Hx0.out.at (W := wa7) (by subst hW; rfl)); clear Hx0; have Hx0 := H'; clear H'
  have H' := Aside0.mk (Hg0.out.at (W := wa7) (by subst hW; rfl)); clear Hg0; have Hg0 := H'; clear H'
  have HB' := Aside0.mk (show Below w.heap.size w wa7 from (by subst hW; repeat (first | (with_reducible first | exact HB.out | apply below_alloc | apply pw_below_drewN | apply below_drew1) | exact HB.out))); clear HB; have HB := HB'; clear HB' hW
  refine (laws_toPersonS.calls k _ _ l0 x0 _ (Kd.C_below HR0.out HB.out) HC0.out H_Fto0.out).mono ?_
  rintro e wb7 ⟨vt0, rfl, hot0, hb⟩
  obtain ⟨lt0_, ut0_, hl_, hr_⟩ : ∃ lo hi, lo = _ ∧ MOwn.RR k69 69 wb7 w.heap.size lo hi vt0 x0 := ⟨_, _, rfl, MOwn.RR.new hot0 (below_size HB.out)⟩
  have Ss0_t0 := Aside0.mk (show us0_ ≤ lt0_ by rw [hl_]; exact Hs0.out.2)
  have Sx0_t0 := Aside0.mk (show ux0_ ≤ lt0_ by rw [hl_]; exact Hx0.out.2)
  have Sg0_t0 := Aside0.mk (show ug0_ ≤ lt0_ by rw [hl_]; exact Hg0.out.2)
  have Ht0 := Aside0.mk hr_; clear hr_ hl_ hot0
  have H' := Aside0.mk (Hs0.out.below hb); clear Hs0; have Hs0 := H'; clear H'
  have H' := Aside0.mk (Hx0.out.below hb); clear Hx0; have Hx0 := H'; clear H'
  have H' := Aside0.mk (Hg0.out.below hb); clear Hg0; have Hg0 := H'; clear H'
  obtain ⟨At0_, ct0_, rfl⟩ := Ht0.out.form
  have HB' := Aside0.mk (below_step HB.out hb); clear HB; have HB := HB'; clear HB' hb
  go_wp2_with fail
  refine MOwn.named ?_
  intro wa8 hW
  have H' := Aside0.mk (Hs0.out.at (W := wa8) (by subst hW; rfl)); clear Hs0; have Hs0 := H'; clear H'
  have H' := Aside0.mk (Hx0.out.at (W := wa8) (by subst hW; rfl)); clear Hx0; have Hx0 := H'; clear H'
  have H' := Aside0.mk (Hg0.out.at (W := wa8) (by subst hW; rfl)); clear Hg0; have Hg0 := H'; clear H'
  have H' := Aside0.mk (Ht0.out.at (W := wa8) (by subst hW; rfl)); clear Ht0; have Ht0 := H'; clear H'
  have HB' := Aside0.mk (show Below w.heap.size w wa8 from (by subst hW; repeat (first | (with_reducible first | exact HB.out | apply below_alloc | apply pw_below_drewN | apply below_drew1) | exact HB.out))); clear HB; have HB := HB'; clear HB' hW
  refine (laws_eqPersonS.calls k _ _ x0 _ _ x0 true _ Hx0.out.reads.2.2 Hx0.out.reads.2.1 Ht0.out.reads.2.2 Ht0.out.reads.2.1 H_Fex0.out).mono ?_
  rintro e wb8 ⟨rfl, hb⟩
  have H' := Aside0.mk (Hs0.out.below hb); clear Hs0; have Hs0 := H'; clear H'
  have H' := Aside0.mk (Hx0.out.below hb); clear Hx0; have Hx0 := H'; clear H'
  have H' := Aside0.mk (Hg0.out.below hb); clear Hg0; have Hg0 := H'; clear H'
  have H' := Aside0.mk (Ht0.out.below hb); clear Ht0; have Ht0 := H'; clear H'
  have HB' := Aside0.mk (below_step HB.out hb); clear HB; have HB := HB'; clear HB' hb
  clear Ht0
  go_wp2_with fail
  refine MOwn.named ?_
  intro wa9 hW
  have H' := Aside0.mk (Hs0.out.at (W := wa9) (by subst hW; rfl)); clear Hs0; have Hs0 := H'; clear H'
  have H' := Aside0.mk (Hx0.out.at (W := wa9) (by subst hW; rfl)); clear Hx0; have Hx0 := H'; clear H'
  have H' := Aside0.mk (Hg0.out.at (W := wa9) (by subst hW; rfl)); clear Hg0; have Hg0 := H'; clear H'
  have HB' := Aside0.mk (show Below w.heap.size w wa9 from (by subst hW; repeat (first | (with_reducible first | exact HB.out | apply below_alloc | apply pw_below_drewN | apply below_drew1) | exact HB.out))); clear HB; have HB := HB'; clear HB' hW
  refine (laws_markPersonS.calls k (fun k_ => lx0_ ≤ k_ ∧ k_ < ux0_) _ x0 1 _ _ w _ HB.out Hx0.out.1 H_Fmx0.out).mono ?_
  rintro e wb9 ⟨rfl, hy, hb, hkp⟩
  have H' := Aside0.mk (Hs0.out.kept hkp (fun k_ h1 h2 h3 => by have := Ss0_x0.out; omega)); clear Hs0; have Hs0 := H'; clear H'
  have H' := Aside0.mk (MOwn.RR.back rfl Hx0.out hy hkp.1); clear Hx0; have Hx0 := H'; clear H' hy
  have H' := Aside0.mk (Hg0.out.kept hkp (fun k_ h1 h2 h3 => by have := Sx0_g0.out; omega)); clear Hg0; have Hg0 := H'; clear H'
  have HB' := Aside0.mk hb; clear HB; have HB := HB'; clear HB' hb hkp
  clear Hx0
  go_wp2_with fail
  refine MOwn.named ?_
  intro wa10 hW
  have H' := Aside0.mk (Hs0.out.at (W := wa10) (by subst hW; rfl)); clear Hs0; have Hs0 := H'; clear H'
  have H' := Aside0.mk (Hg0.out.at (W := wa10) (by subst hW; rfl)); clear Hg0; have Hg0 := H'; clear H'
  have HB' := Aside0.mk (show Below w.heap.size w wa10 from (by subst hW; repeat (first | (with_reducible first | exact HB.out | apply below_alloc | apply pw_below_drewN | apply below_drew1) | exact HB.out))); clear HB; have HB := HB'; clear HB' hW
  refine (laws_eqPersonS.calls k _ _ r0 _ _ r0 true _ Hg0.out.reads.2.2 Hg0.out.reads.2.1 Hs0.out.reads.2.2 Hs0.out.reads.2.1 H_Feq0.out).mono ?_
  rintro e wb10 ⟨rfl, hb⟩
  have H' := Aside0.mk (Hs0.out.below hb); clear Hs0; have Hs0 := H'; clear H'
  have H' := Aside0.mk (Hg0.out.below hb); clear Hg0; have Hg0 := H'; clear H'
  have HB' := Aside0.mk (below_step HB.out hb); clear HB; have HB := HB'; clear HB' hb
  go_wp2_with fail
  refine MOwn.named ?_
  intro wa11 hW
  have H' := Aside0.mk (Hs0.out.at (W := wa11) (by subst hW; rfl)); clear Hs0; have Hs0 := H'; clear H'
  have H' := Aside0.mk (Hg0.out.at (W := wa11) (by subst hW; rfl)); clear Hg0; have Hg0 := H'; clear H'
  have HB' := Aside0.mk (show Below w.heap.size w wa11 from (by subst hW; repeat (first | (with_reducible first | exact HB.out | apply below_alloc | apply pw_below_drewN | apply below_drew1) | exact HB.out))); clear HB; have HB := HB'; clear HB' hW
  refine (laws_markPersonS.calls k (fun k_ => lg0_ ≤ k_ ∧ k_ < ug0_) _ r0 1 _ _ w _ HB.out Hg0.out.1 H_Fmr0.out).mono ?_
  rintro e wb11 ⟨rfl, hy, hb, hkp⟩
  have H' := Aside0.mk (Hs0.out.kept hkp (fun k_ h1 h2 h3 => by have := Ss0_g0.out; omega)); clear Hs0; have Hs0 := H'; clear H'
  have H' := Aside0.mk (MOwn.RR.back rfl Hg0.out hy hkp.1); clear Hg0; have Hg0 := H'; clear H' hy
  have HB' := Aside0.mk hb; clear HB; have HB := HB'; clear HB' hb hkp
  go_wp2_with fail
  refine MOwn.named ?_
  intro wa12 hW
  have H' := Aside0.mk (Hs0.out.at (W := wa12) (by subst hW; rfl)); clear Hs0; have Hs0 := H'; clear H'
  have H' := Aside0.mk (Hg0.out.at (W := wa12) (by subst hW; rfl)); clear Hg0; have Hg0 := H'; clear H'
  have HB' := Aside0.mk (show Below w.heap.size w wa12 from (by subst hW; repeat (first | (with_reducible first | exact HB.out | apply below_alloc | apply pw_below_drewN | apply below_drew1) | exact HB.out))); clear HB; have HB := HB'; clear HB' hW
  refine calls_of_args (args' := #[.slice Ag0_ s0.length cg0_, .int .i64 1]) (by rw [Hg0.out.reads.1]) ?_
  refine (laws_heldPersonS.calls k _ _ s0 1 n0 _ (by have h_ := Hg0.out.reads; exact h_.2.2) (by have h_ := Hg0.out.reads; omega) H_Fhe0.out).mono ?_
  rintro e wb12 ⟨rfl, hb⟩
  have H' := Aside0.mk (Hs0.out.below hb); clear Hs0; have Hs0 := H'; clear H'
  have H' := Aside0.mk (Hg0.out.below hb); clear Hg0; have Hg0 := H'; clear H'
  have HB' := Aside0.mk (below_step HB.out hb); clear HB; have HB := HB'; clear HB' hb
  go_wp2_with fail
  refine MOwn.named ?_
  intro wa13 hW
  have H' := Aside0.mk (Hs0.out.at (W := wa13) (by subst hW; rfl)); clear Hs0; have Hs0 := H'; clear H'
  have H' := Aside0.mk (Hg0.out.at (W := wa13) (by subst hW; rfl)); clear Hg0; have Hg0 := H'; clear H'
  have HB' := Aside0.mk (show Below w.heap.size w wa13 from (by subst hW; repeat (first | (with_reducible first | exact HB.out | apply below_alloc | apply pw_below_drewN | apply below_drew1) | exact HB.out))); clear HB; have HB := HB'; clear HB' hW
  refine (laws_toPersonS.calls k _ _ l0 x0 _ (Kd.C_below HR0.out HB.out) HC0.out H_Fto0.out).mono ?_
  rintro e wb13 ⟨vh0, rfl, hoh0, hb⟩
  obtain ⟨lh0_, uh0_, hl_, hr_⟩ : ∃ lo hi, lo = _ ∧ MOwn.RR k69 69 wb13 w.heap.size lo hi vh0 x0 := ⟨_, _, rfl, MOwn.RR.new hoh0 (below_size HB.out)⟩
  have Ss0_h0 := Aside0.mk (show us0_ ≤ lh0_ by rw [hl_]; exact Hs0.out.2)
  have Sg0_h0 := Aside0.mk (show ug0_ ≤ lh0_ by rw [hl_]; exact Hg0.out.2)
  have Hh0 := Aside0.mk hr_; clear hr_ hl_ hoh0
  have H' := Aside0.mk (Hs0.out.below hb); clear Hs0; have Hs0 := H'; clear H'
  have H' := Aside0.mk (Hg0.out.below hb); clear Hg0; have Hg0 := H'; clear H'
  obtain ⟨Ah0_, ch0_, rfl⟩ := Hh0.out.form
  have HB' := Aside0.mk (below_step HB.out hb); clear HB; have HB := HB'; clear HB' hb
  go_wp2_with fail
  refine MOwn.named ?_
  intro wa14 hW
  have H' := Aside0.mk (Hs0.out.at (W := wa14) (by subst hW; rfl)); clear Hs0; have Hs0 := H'; clear H'
  have H' := Aside0.mk (Hg0.out.at (W := wa14) (by subst hW; rfl)); clear Hg0; have Hg0 := H'; clear H'
  have H' := Aside0.mk (Hh0.out.at (W := wa14) (by subst hW; rfl)); clear Hh0; have Hh0 := H'; clear H'
  have HB' := Aside0.mk (show Below w.heap.size w wa14 from (by subst hW; repeat (first | (with_reducible first | exact HB.out | apply below_alloc | apply pw_below_drewN | apply below_drew1) | exact HB.out))); clear HB; have HB := HB'; clear HB' hW
  refine (impl_RenamePerson.calls k _ _ x0 a1 a2 a3 a4 r0 r1 _ Hh0.out.reads.2.2 Hh0.out.reads.2.1 H_Fim.out).mono ?_
  rintro e wb14 ⟨vk0, rfl, hok0, hb⟩
  obtain ⟨lk0_, uk0_, hl_, hr_⟩ : ∃ lo hi, lo = _ ∧ MOwn.RR k69 69 wb14 w.heap.size lo hi vk0 r0 := ⟨_, _, rfl, MOwn.RR.new hok0 (below_size HB.out)⟩
  have Ss0_k0 := Aside0.mk (show us0_ ≤ lk0_ by rw [hl_]; exact Hs0.out.2)
  have Sg0_k0 := Aside0.mk (show ug0_ ≤ lk0_ by rw [hl_]; exact Hg0.out.2)
  have Sh0_k0 := Aside0.mk (show uh0_ ≤ lk0_ by rw [hl_]; exact Hh0.out.2)
  have Hk0 := Aside0.mk hr_; clear hr_ hl_ hok0
  have H' := Aside0.mk (Hs0.out.below hb); clear Hs0; have Hs0 := H'; clear H'
  have H' := Aside0.mk (Hg0.out.below hb); clear Hg0; have Hg0 := H'; clear H'
  have H' := Aside0.mk (Hh0.out.below hb); clear Hh0; have Hh0 := H'; clear H'
  obtain ⟨Ak0_, ck0_, rfl⟩ := Hk0.out.form
  have HB' := Aside0.mk (below_step HB.out hb); clear HB; have HB := HB'; clear HB' hb
  clear Hh0
  go_wp2_with fail
  refine MOwn.named ?_
  intro wa15 hW
  have H' := Aside0.mk (Hs0.out.at (W := wa15) (by subst hW; rfl)); clear Hs0; have Hs0 := H'; clear H'
  have H' := Aside0.mk (Hg0.out.at (W := wa15) (by subst hW; rfl)); clear Hg0; have Hg0 := H'; clear H'
  have H' := Aside0.mk (Hk0.out.at (W := wa15) (by subst hW; rfl)); clear Hk0; have Hk0 := H'; clear H'
  have HB' := Aside0.mk (show Below w.heap.size w wa15 from (by subst hW; repeat (first | (with_reducible first | exact HB.out | apply below_alloc | apply pw_below_drewN | apply below_drew1) | exact HB.out))); clear HB; have HB := HB'; clear HB' hW
  refine (laws_eqPersonS.calls k _ _ r0 _ _ r0 true _ Hk0.out.reads.2.2 Hk0.out.reads.2.1 Hs0.out.reads.2.2 Hs0.out.reads.2.1 H_Feq0.out).mono ?_
  rintro e wb15 ⟨rfl, hb⟩
  have H' := Aside0.mk (Hs0.out.below hb); clear Hs0; have Hs0 := H'; clear H'
  have H' := Aside0.mk (Hg0.out.below hb); clear Hg0; have Hg0 := H'; clear H'
  have H' := Aside0.mk (Hk0.out.below hb); clear Hk0; have Hk0 := H'; clear H'
  have HB' := Aside0.mk (below_step HB.out hb); clear HB; have HB := HB'; clear HB' hb
  go_wp2_with fail
  refine MOwn.named ?_
  intro wa16 hW
  have H' := Aside0.mk (Hs0.out.at (W := wa16) (by subst hW; rfl)); clear Hs0; have Hs0 := H'; clear H'
  have H' := Aside0.mk (Hg0.out.at (W := wa16) (by subst hW; rfl)); clear Hg0; have Hg0 := H'; clear H'
  have H' := Aside0.mk (Hk0.out.at (W := wa16) (by subst hW; rfl)); clear Hk0; have Hk0 := H'; clear H'
  have HB' := Aside0.mk (show Below w.heap.size w wa16 from (by subst hW; repeat (first | (with_reducible first | exact HB.out | apply below_alloc | apply pw_below_drewN | apply below_drew1) | exact HB.out))); clear HB; have HB := HB'; clear HB' hW
  refine calls_of_args (args' := #[.slice Ag0_ s0.length cg0_, .int .i64 1]) (by rw [Hg0.out.reads.1]) ?_
  refine (laws_heldPersonS.calls k _ _ s0 1 n0 _ (by have h_ := Hg0.out.reads; exact h_.2.2) (by have h_ := Hg0.out.reads; omega) H_Fhe0.out).mono ?_
  rintro e wb16 ⟨rfl, hb⟩
  have H' := Aside0.mk (Hs0.out.below hb); clear Hs0; have Hs0 := H'; clear H'
  have H' := Aside0.mk (Hg0.out.below hb); clear Hg0; have Hg0 := H'; clear H'
  have H' := Aside0.mk (Hk0.out.below hb); clear Hk0; have Hk0 := H'; clear H'
  have HB' := Aside0.mk (below_step HB.out hb); clear HB; have HB := HB'; clear HB' hb
  go_wp2
  go_ret
  exact ⟨rfl, by repeat (first | (with_reducible first | exact HB.out | apply below_alloc | apply pw_below_drewN | apply below_drew1) | exact HB.out)⟩

end Go.Proofs.Ytphjmmaeolbggaa.G
