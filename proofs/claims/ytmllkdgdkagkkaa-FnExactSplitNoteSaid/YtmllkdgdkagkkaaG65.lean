-- Written by this session's own program over the kit's print (wip/tools/myprint.py); Lean checks it.
import Derived.Test.YtmllkdgdkagkkaaMBase
import Derived.Test.YtmllkdgdkagkkaaG0
import Derived.Test.YtmllkdgdkagkkaaG1
import Derived.Test.YtmllkdgdkagkkaaG2
import Derived.Test.YtmllkdgdkagkkaaG4
import Derived.Test.YtmllkdgdkagkkaaG5
import Derived.Test.YtmllkdgdkagkkaaG57
import Derived.Test.YtmllkdgdkagkkaaG64
namespace Go.Proofs.Ytmllkdgdkagkkaa.G
open Go.RowKit Go.Proofs.YtmllkdgdkagkkaaW.PrintWords Go.Proofs.YtmllkdgdkagkkaaW.PrintLast Go.Proofs.YtmllkdgdkagkkaaW.PrintMore
attribute [local go_sem] max2_int min2_int max_two min_two max_three min_three max_four min_four str_geq str_gtr str_leq   -- for this text's walks alone
set_option linter.unusedVariables false
set_option linter.unusedSimpArgs false

/-! ### laws_FnExactSplitNote: function 8 -/
/-- THE ONE PURE STATEMENT of laws_FnExactSplitNote: what its calls answer. -/
def laws_FnExactSplitNote.Pure : Prop := ∀ (l0 : List (S60)) (a1 : Int) (a2 : Int), ((∀ a_, a_ ∈ l0 → gT60 a_) ∧ l0.length * 32 ≤ 140737488351232) → (Lit.int .i64 a1).wf = true → (Lit.int .i64 a2).wf = true → ∃ k : Nat, ∃ z0 : Int, laws_szNoteS.f k l0 1048576 = some z0 ∧ (0 ≤ z0 → ∃ (x0 : List (S63)) (r0 : List (S63)) (r1 : Bool) (m0 : Int) (y0 : List (S63)) (n0 : Int) (s0 : List (S63)), laws_toNoteS.f k l0 = some x0 ∧ spec_SplitNote.f k x0 a1 a2 = some (r0, r1) ∧ impl_SplitNote.f k x0 a1 a2 = some (r0, r1) ∧ laws_eqNoteS.f k r0 r0 = some true ∧ laws_eqNoteS.f k x0 x0 = some true ∧ laws_markNoteS.f k x0 1 = some (m0, y0) ∧ 0 ≤ m0 ∧ laws_markNoteS.f k r0 1 = some (n0, s0) ∧ laws_heldNoteS.f k s0 1 = some n0 ∧ 0 ≤ n0)
set_option maxHeartbeats 40000000 in
set_option maxRecDepth 100000 in
theorem laws_FnExactSplitNote.walk (P : laws_FnExactSplitNote.Pure) (A0 : Option Addr) (c0 : Nat) (l0 : List (S60)) (a1 : Int) (a2 : Int) (w : World) (hr0 : Kd.C k60 w A0 l0.length l0) (hc0 : l0.length ≤ c0) (b0 : ((∀ a_, a_ ∈ l0 → gT60 a_) ∧ l0.length * 32 ≤ 140737488351232)) (b1 : (Lit.int .i64 a1).wf = true) (b2 : (Lit.int .i64 a2).wf = true) :
    Calls Try.prog 8 #[.slice A0 l0.length c0, .int .i64 a1, .int .i64 a2] w fun e w' => e = .returned (.bool true) ∧ Below w.heap.size w w' := by
  obtain ⟨k, F⟩ := P l0 a1 a2 b0 b1 b2
  clear P b0 b1 b2
  have HR0 := Aside0.mk hr0; have HC0 := Aside0.mk hc0; clear hr0 hc0
  have HB := Aside0.mk (Below.refl w.heap.size w)
  obtain ⟨z0, Fz0, F⟩ := F
  have FZ0 := Aside0.mk Fz0; clear Fz0; have FF := Aside0.mk F; clear F
  go_enter Try.func8, Try.ntmps8
  go_wp2_with fail
  refine MOwn.named ?_
  intro wa1 hW
  have HB' := Aside0.mk (show Below w.heap.size w wa1 from (q14_)); clear HB; have HB := HB'; clear HB' hW
  refine (laws_szNoteS.calls k _ _ l0 1048576 z0 _ (Kd.C_below HR0.out HB.out) HC0.out FZ0.out).mono ?_
  rintro e wb1 ⟨rfl, hb⟩
  have HB' := Aside0.mk (below_step HB.out hb); clear HB; have HB := HB'; clear HB' hb
  by_cases hz : z0 < 0
  case pos =>
    have b1 : decide (z0 < 0) = true := decide_eq_true hz
    clear hz
    go_wp2
    go_ret
    exact ⟨rfl, q11_⟩
  have b1_0 : decide (z0 < 0) = false := decide_eq_false hz
  have F := FF.out (by omega); clear FF hz
  obtain ⟨x0, r0, r1, m0, y0, n0, s0, Fto0, Fsp, Fim, Feq0, Fex0, Fmx0, Fm, Fmr0, Fhe0, Fn0⟩ := F
  have H_Fto0 := Aside0.mk Fto0; clear Fto0
  have H_Fsp := Aside0.mk Fsp; clear Fsp
  have H_Fim := Aside0.mk Fim; clear Fim
  have H_Feq0 := Aside0.mk Feq0; clear Feq0
  have H_Fex0 := Aside0.mk Fex0; clear Fex0
  have H_Fmx0 := Aside0.mk Fmx0; clear Fmx0
  have H_Fm := Aside0.mk Fm; clear Fm
  have H_Fmr0 := Aside0.mk Fmr0; clear Fmr0
  have H_Fhe0 := Aside0.mk Fhe0; clear Fhe0
  have H_Fn0 := Aside0.mk Fn0; clear Fn0
  have b2 : decide (m0 < 0) = false := decide_eq_false (by have := H_Fm.out; omega)
  have b3_0 : decide (n0 < 0) = false := decide_eq_false (by have := H_Fn0.out; omega)
  go_wp2_with fail
  refine MOwn.named ?_
  intro wa2 hW
  have HB' := Aside0.mk (show Below w.heap.size w wa2 from (q14_)); clear HB; have HB := HB'; clear HB' hW
  refine (laws_toNoteS.calls k _ _ l0 x0 _ (Kd.C_below HR0.out HB.out) HC0.out H_Fto0.out).mono ?_
  rintro e wb2 ⟨vp0, rfl, hop0, hb⟩
  obtain ⟨pp0_, hrp0_, hlp0_, htp0_⟩ := MOwn.RR.new hop0 (below_size HB.out)
  have Hp0 := Aside0.mk hrp0_; clear hrp0_ hlp0_ hop0
  clear htp0_
  obtain ⟨Ap0_, cp0_, rfl⟩ := Hp0.out.form
  have HB' := Aside0.mk (below_step HB.out hb); clear HB; have HB := HB'; clear HB' hb
  go_wp2_with fail
  refine MOwn.named ?_
  intro wa3 hW
  have H' := Aside0.mk (Hp0.out.at (W := wa3) (by subst hW; rfl)); clear Hp0; have Hp0 := H'; clear H'
  have HB' := Aside0.mk (show Below w.heap.size w wa3 from (q14_)); clear HB; have HB := HB'; clear HB' hW
  refine (spec_SplitNote.calls k _ _ x0 a1 a2 r0 r1 _ Hp0.out.reads.2.2 Hp0.out.reads.2.1 H_Fsp.out).mono ?_
  rintro e wb3 ⟨vs0, rfl, hos0, hb⟩
  obtain ⟨ps0_, hrs0_, hls0_, hts0_⟩ := MOwn.RR.new hos0 (below_size HB.out)
  have Sp0_s0 := Aside0.mk (fun k_ (h1 : pp0_ k_) (h2 : ps0_ k_) => Nat.lt_irrefl k_ (Nat.lt_of_lt_of_le (Hp0.out.2 k_ h1) (hls0_ k_ h2)))
  have Hs0 := Aside0.mk hrs0_; clear hrs0_ hls0_ hos0
  clear hts0_
  have H' := Aside0.mk (Hp0.out.below hb); clear Hp0; have Hp0 := H'; clear H'
  obtain ⟨As0_, cs0_, rfl⟩ := Hs0.out.form
  have HB' := Aside0.mk (below_step HB.out hb); clear HB; have HB := HB'; clear HB' hb
  clear Hp0
  go_wp2_with fail
  refine MOwn.named ?_
  intro wa4 hW
  have H' := Aside0.mk (Hs0.out.at (W := wa4) (by subst hW; rfl)); clear Hs0; have Hs0 := H'; clear H'
  have HB' := Aside0.mk (show Below w.heap.size w wa4 from (q14_)); clear HB; have HB := HB'; clear HB' hW
  refine (laws_toNoteS.calls k _ _ l0 x0 _ (Kd.C_below HR0.out HB.out) HC0.out H_Fto0.out).mono ?_
  rintro e wb4 ⟨vx0, rfl, hox0, hb⟩
  obtain ⟨px0_, hrx0_, hlx0_, htx0_⟩ := MOwn.RR.new hox0 (below_size HB.out)
  have Ss0_x0 := Aside0.mk (fun k_ (h1 : ps0_ k_) (h2 : px0_ k_) => Nat.lt_irrefl k_ (Nat.lt_of_lt_of_le (Hs0.out.2 k_ h1) (hlx0_ k_ h2)))
  have Hx0 := Aside0.mk hrx0_; clear hrx0_ hlx0_ hox0
  clear htx0_
  have H' := Aside0.mk (Hs0.out.below hb); clear Hs0; have Hs0 := H'; clear H'
  obtain ⟨Ax0_, cx0_, rfl⟩ := Hx0.out.form
  have HB' := Aside0.mk (below_step HB.out hb); clear HB; have HB := HB'; clear HB' hb
  go_wp2_with fail
  refine MOwn.named ?_
  intro wa5 hW
  have H' := Aside0.mk (Hs0.out.at (W := wa5) (by subst hW; rfl)); clear Hs0; have Hs0 := H'; clear H'
  have H' := Aside0.mk (Hx0.out.at (W := wa5) (by subst hW; rfl)); clear Hx0; have Hx0 := H'; clear H'
  have HB' := Aside0.mk (show Below w.heap.size w wa5 from (q14_)); clear HB; have HB := HB'; clear HB' hW
  refine (impl_SplitNote.calls k _ _ x0 a1 a2 r0 r1 _ Hx0.out.reads.2.2 Hx0.out.reads.2.1 H_Fim.out).mono ?_
  rintro e wb5 ⟨vg0, rfl, hog0, hb⟩
  obtain ⟨pg0_, hrg0_, hlg0_, htg0_⟩ := MOwn.RR.new hog0 (below_size HB.out)
  have Ss0_g0 := Aside0.mk (fun k_ (h1 : ps0_ k_) (h2 : pg0_ k_) => Nat.lt_irrefl k_ (Nat.lt_of_lt_of_le (Hs0.out.2 k_ h1) (hlg0_ k_ h2)))
  have Sx0_g0 := Aside0.mk (fun k_ (h1 : px0_ k_) (h2 : pg0_ k_) => Nat.lt_irrefl k_ (Nat.lt_of_lt_of_le (Hx0.out.2 k_ h1) (hlg0_ k_ h2)))
  have Hg0 := Aside0.mk hrg0_; clear hrg0_ hlg0_ hog0
  clear htg0_
  have H' := Aside0.mk (Hs0.out.below hb); clear Hs0; have Hs0 := H'; clear H'
  have H' := Aside0.mk (Hx0.out.below hb); clear Hx0; have Hx0 := H'; clear H'
  obtain ⟨Ag0_, cg0_, rfl⟩ := Hg0.out.form
  have HB' := Aside0.mk (below_step HB.out hb); clear HB; have HB := HB'; clear HB' hb
  go_wp2_with fail
  refine MOwn.named ?_
  intro wa6 hW
  have H' := Aside0.mk (Hs0.out.at (W := wa6) (by subst hW; rfl)); clear Hs0; have Hs0 := H'; clear H'
  have H' := Aside0.mk (Hx0.out.at (W := wa6) (by subst hW; rfl)); clear Hx0; have Hx0 := H'; clear H'
  have H' := Aside0.mk (Hg0.out.at (W := wa6) (by subst hW; rfl)); clear Hg0; have Hg0 := H'; clear H'
  have HB' := Aside0.mk (show Below w.heap.size w wa6 from (q14_)); clear HB; have HB := HB'; clear HB' hW
  refine (laws_eqNoteS.calls k _ _ r0 _ _ r0 true _ Hg0.out.reads.2.2 Hg0.out.reads.2.1 Hs0.out.reads.2.2 Hs0.out.reads.2.1 H_Feq0.out).mono ?_
  rintro e wb6 ⟨rfl, hb⟩
  have H' := Aside0.mk (Hs0.out.below hb); clear Hs0; have Hs0 := H'; clear H'
  have H' := Aside0.mk (Hx0.out.below hb); clear Hx0; have Hx0 := H'; clear H'
  have H' := Aside0.mk (Hg0.out.below hb); clear Hg0; have Hg0 := H'; clear H'
  have HB' := Aside0.mk (below_step HB.out hb); clear HB; have HB := HB'; clear HB' hb
  go_wp2_with fail
  refine MOwn.named ?_
  intro wa7 hW
  have H' := Aside0.mk (Hs0.out.at (W := wa7) (by subst hW; rfl)); clear Hs0; have Hs0 := H'; clear H'
  have H' := Aside0.mk (Hx0.out.at (W := wa7) (by subst hW; rfl)); clear Hx0; have Hx0 := H'; clear H'
  have H' := Aside0.mk (Hg0.out.at (W := wa7) (by subst hW; rfl)); clear Hg0; have Hg0 := H'; clear H'
  have HB' := Aside0.mk (show Below w.heap.size w wa7 from (q14_)); clear HB; have HB := HB'; clear HB' hW
  refine (laws_toNoteS.calls k _ _ l0 x0 _ (Kd.C_below HR0.out HB.out) HC0.out H_Fto0.out).mono ?_
  rintro e wb7 ⟨vt0, rfl, hot0, hb⟩
  obtain ⟨pt0_, hrt0_, hlt0_, htt0_⟩ := MOwn.RR.new hot0 (below_size HB.out)
  have Ss0_t0 := Aside0.mk (fun k_ (h1 : ps0_ k_) (h2 : pt0_ k_) => Nat.lt_irrefl k_ (Nat.lt_of_lt_of_le (Hs0.out.2 k_ h1) (hlt0_ k_ h2)))
  have Sx0_t0 := Aside0.mk (fun k_ (h1 : px0_ k_) (h2 : pt0_ k_) => Nat.lt_irrefl k_ (Nat.lt_of_lt_of_le (Hx0.out.2 k_ h1) (hlt0_ k_ h2)))
  have Sg0_t0 := Aside0.mk (fun k_ (h1 : pg0_ k_) (h2 : pt0_ k_) => Nat.lt_irrefl k_ (Nat.lt_of_lt_of_le (Hg0.out.2 k_ h1) (hlt0_ k_ h2)))
  have Ht0 := Aside0.mk hrt0_; clear hrt0_ hlt0_ hot0
  clear htt0_
  have H' := Aside0.mk (Hs0.out.below hb); clear Hs0; have Hs0 := H'; clear H'
  have H' := Aside0.mk (Hx0.out.below hb); clear Hx0; have Hx0 := H'; clear H'
  have H' := Aside0.mk (Hg0.out.below hb); clear Hg0; have Hg0 := H'; clear H'
  obtain ⟨At0_, ct0_, rfl⟩ := Ht0.out.form
  have HB' := Aside0.mk (below_step HB.out hb); clear HB; have HB := HB'; clear HB' hb
  go_wp2_with fail
  refine MOwn.named ?_
  intro wa8 hW
  have H' := Aside0.mk (Hs0.out.at (W := wa8) (by subst hW; rfl)); clear Hs0; have Hs0 := H'; clear H'
  have H' := Aside0.mk (Hx0.out.at (W := wa8) (by subst hW; rfl)); clear Hx0; have Hx0 := H'; clear H'
  have H' := Aside0.mk (Hg0.out.at (W := wa8) (by subst hW; rfl)); clear Hg0; have Hg0 := H'; clear H'
  have H' := Aside0.mk (Ht0.out.at (W := wa8) (by subst hW; rfl)); clear Ht0; have Ht0 := H'; clear H'
  have HB' := Aside0.mk (show Below w.heap.size w wa8 from (q14_)); clear HB; have HB := HB'; clear HB' hW
  refine (laws_eqNoteS.calls k _ _ x0 _ _ x0 true _ Hx0.out.reads.2.2 Hx0.out.reads.2.1 Ht0.out.reads.2.2 Ht0.out.reads.2.1 H_Fex0.out).mono ?_
  rintro e wb8 ⟨rfl, hb⟩
  have H' := Aside0.mk (Hs0.out.below hb); clear Hs0; have Hs0 := H'; clear H'
  have H' := Aside0.mk (Hx0.out.below hb); clear Hx0; have Hx0 := H'; clear H'
  have H' := Aside0.mk (Hg0.out.below hb); clear Hg0; have Hg0 := H'; clear H'
  have H' := Aside0.mk (Ht0.out.below hb); clear Ht0; have Ht0 := H'; clear H'
  have HB' := Aside0.mk (below_step HB.out hb); clear HB; have HB := HB'; clear HB' hb
  clear Ht0
  go_wp2_with fail
  refine MOwn.named ?_
  intro wa9 hW
  have H' := Aside0.mk (Hs0.out.at (W := wa9) (by subst hW; rfl)); clear Hs0; have Hs0 := H'; clear H'
  have H' := Aside0.mk (Hx0.out.at (W := wa9) (by subst hW; rfl)); clear Hx0; have Hx0 := H'; clear H'
  have H' := Aside0.mk (Hg0.out.at (W := wa9) (by subst hW; rfl)); clear Hg0; have Hg0 := H'; clear H'
  have HB' := Aside0.mk (show Below w.heap.size w wa9 from (q14_)); clear HB; have HB := HB'; clear HB' hW
  refine (laws_markNoteS.calls k px0_ _ x0 1 _ _ w _ HB.out Hx0.out.1 H_Fmx0.out).mono ?_
  rintro e wb9 ⟨rfl, hy, hb, hkp⟩
  have H' := Aside0.mk (Hs0.out.kept hkp (fun k_ h1 h2 => Ss0_x0.out k_ h1 h2)); clear Hs0; have Hs0 := H'; clear H'
  have H' := Aside0.mk (MOwn.RR.back rfl Hx0.out hy hkp.1); clear Hx0; have Hx0 := H'; clear H' hy
  have H' := Aside0.mk (Hg0.out.kept hkp (fun k_ h1 h2 => Sx0_g0.out k_ h2 h1)); clear Hg0; have Hg0 := H'; clear H'
  have HB' := Aside0.mk hb; clear HB; have HB := HB'; clear HB' hb hkp
  clear Hx0
  go_wp2_with fail
  refine MOwn.named ?_
  intro wa10 hW
  have H' := Aside0.mk (Hs0.out.at (W := wa10) (by subst hW; rfl)); clear Hs0; have Hs0 := H'; clear H'
  have H' := Aside0.mk (Hg0.out.at (W := wa10) (by subst hW; rfl)); clear Hg0; have Hg0 := H'; clear H'
  have HB' := Aside0.mk (show Below w.heap.size w wa10 from (q14_)); clear HB; have HB := HB'; clear HB' hW
  refine (laws_eqNoteS.calls k _ _ r0 _ _ r0 true _ Hg0.out.reads.2.2 Hg0.out.reads.2.1 Hs0.out.reads.2.2 Hs0.out.reads.2.1 H_Feq0.out).mono ?_
  rintro e wb10 ⟨rfl, hb⟩
  have H' := Aside0.mk (Hs0.out.below hb); clear Hs0; have Hs0 := H'; clear H'
  have H' := Aside0.mk (Hg0.out.below hb); clear Hg0; have Hg0 := H'; clear H'
  have HB' := Aside0.mk (below_step HB.out hb); clear HB; have HB := HB'; clear HB' hb
  go_wp2_with fail
  refine MOwn.named ?_
  intro wa11 hW
  have H' := Aside0.mk (Hs0.out.at (W := wa11) (by subst hW; rfl)); clear Hs0; have Hs0 := H'; clear H'
  have H' := Aside0.mk (Hg0.out.at (W := wa11) (by subst hW; rfl)); clear Hg0; have Hg0 := H'; clear H'
  have HB' := Aside0.mk (show Below w.heap.size w wa11 from (q14_)); clear HB; have HB := HB'; clear HB' hW
  refine (laws_markNoteS.calls k pg0_ _ r0 1 _ _ w _ HB.out Hg0.out.1 H_Fmr0.out).mono ?_
  rintro e wb11 ⟨rfl, hy, hb, hkp⟩
  have H' := Aside0.mk (Hs0.out.kept hkp (fun k_ h1 h2 => Ss0_g0.out k_ h1 h2)); clear Hs0; have Hs0 := H'; clear H'
  have H' := Aside0.mk (MOwn.RR.back rfl Hg0.out hy hkp.1); clear Hg0; have Hg0 := H'; clear H' hy
  have HB' := Aside0.mk hb; clear HB; have HB := HB'; clear HB' hb hkp
  go_wp2_with fail
  refine MOwn.named ?_
  intro wa12 hW
  have H' := Aside0.mk (Hs0.out.at (W := wa12) (by subst hW; rfl)); clear Hs0; have Hs0 := H'; clear H'
  have H' := Aside0.mk (Hg0.out.at (W := wa12) (by subst hW; rfl)); clear Hg0; have Hg0 := H'; clear H'
  have HB' := Aside0.mk (show Below w.heap.size w wa12 from (q14_)); clear HB; have HB := HB'; clear HB' hW
  refine calls_of_args (args' := #[.slice Ag0_ s0.length cg0_, .int .i64 1]) (by rw [Hg0.out.reads.1]) ?_
  refine (laws_heldNoteS.calls k _ _ s0 1 n0 _ (by have h_ := Hg0.out.reads; exact h_.2.2) (by have h_ := Hg0.out.reads; omega) H_Fhe0.out).mono ?_
  rintro e wb12 ⟨rfl, hb⟩
  have H' := Aside0.mk (Hs0.out.below hb); clear Hs0; have Hs0 := H'; clear H'
  have H' := Aside0.mk (Hg0.out.below hb); clear Hg0; have Hg0 := H'; clear H'
  have HB' := Aside0.mk (below_step HB.out hb); clear HB; have HB := HB'; clear HB' hb
  go_wp2_with fail
  refine MOwn.named ?_
  intro wa13 hW
  have H' := Aside0.mk (Hs0.out.at (W := wa13) (by subst hW; rfl)); clear Hs0; have Hs0 := H'; clear H'
  have H' := Aside0.mk (Hg0.out.at (W := wa13) (by subst hW; rfl)); clear Hg0; have Hg0 := H'; clear H'
  have HB' := Aside0.mk (show Below w.heap.size w wa13 from (q14_)); clear HB; have HB := HB'; clear HB' hW
  refine (laws_toNoteS.calls k _ _ l0 x0 _ (Kd.C_below HR0.out HB.out) HC0.out H_Fto0.out).mono ?_
  rintro e wb13 ⟨vh0, rfl, hoh0, hb⟩
  obtain ⟨ph0_, hrh0_, hlh0_, hth0_⟩ := MOwn.RR.new hoh0 (below_size HB.out)
  have Ss0_h0 := Aside0.mk (fun k_ (h1 : ps0_ k_) (h2 : ph0_ k_) => Nat.lt_irrefl k_ (Nat.lt_of_lt_of_le (Hs0.out.2 k_ h1) (hlh0_ k_ h2)))
  have Sg0_h0 := Aside0.mk (fun k_ (h1 : pg0_ k_) (h2 : ph0_ k_) => Nat.lt_irrefl k_ (Nat.lt_of_lt_of_le (Hg0.out.2 k_ h1) (hlh0_ k_ h2)))
  have Hh0 := Aside0.mk hrh0_; clear hrh0_ hlh0_ hoh0
  clear hth0_
  have H' := Aside0.mk (Hs0.out.below hb); clear Hs0; have Hs0 := H'; clear H'
  have H' := Aside0.mk (Hg0.out.below hb); clear Hg0; have Hg0 := H'; clear H'
  obtain ⟨Ah0_, ch0_, rfl⟩ := Hh0.out.form
  have HB' := Aside0.mk (below_step HB.out hb); clear HB; have HB := HB'; clear HB' hb
  go_wp2_with fail
  refine MOwn.named ?_
  intro wa14 hW
  have H' := Aside0.mk (Hs0.out.at (W := wa14) (by subst hW; rfl)); clear Hs0; have Hs0 := H'; clear H'
  have H' := Aside0.mk (Hg0.out.at (W := wa14) (by subst hW; rfl)); clear Hg0; have Hg0 := H'; clear H'
  have H' := Aside0.mk (Hh0.out.at (W := wa14) (by subst hW; rfl)); clear Hh0; have Hh0 := H'; clear H'
  have HB' := Aside0.mk (show Below w.heap.size w wa14 from (q14_)); clear HB; have HB := HB'; clear HB' hW
  refine (impl_SplitNote.calls k _ _ x0 a1 a2 r0 r1 _ Hh0.out.reads.2.2 Hh0.out.reads.2.1 H_Fim.out).mono ?_
  rintro e wb14 ⟨vk0, rfl, hok0, hb⟩
  obtain ⟨pk0_, hrk0_, hlk0_, htk0_⟩ := MOwn.RR.new hok0 (below_size HB.out)
  have Ss0_k0 := Aside0.mk (fun k_ (h1 : ps0_ k_) (h2 : pk0_ k_) => Nat.lt_irrefl k_ (Nat.lt_of_lt_of_le (Hs0.out.2 k_ h1) (hlk0_ k_ h2)))
  have Sg0_k0 := Aside0.mk (fun k_ (h1 : pg0_ k_) (h2 : pk0_ k_) => Nat.lt_irrefl k_ (Nat.lt_of_lt_of_le (Hg0.out.2 k_ h1) (hlk0_ k_ h2)))
  have Sh0_k0 := Aside0.mk (fun k_ (h1 : ph0_ k_) (h2 : pk0_ k_) => Nat.lt_irrefl k_ (Nat.lt_of_lt_of_le (Hh0.out.2 k_ h1) (hlk0_ k_ h2)))
  have Hk0 := Aside0.mk hrk0_; clear hrk0_ hlk0_ hok0
  clear htk0_
  have H' := Aside0.mk (Hs0.out.below hb); clear Hs0; have Hs0 := H'; clear H'
  have H' := Aside0.mk (Hg0.out.below hb); clear Hg0; have Hg0 := H'; clear H'
  have H' := Aside0.mk (Hh0.out.below hb); clear Hh0; have Hh0 := H'; clear H'
  obtain ⟨Ak0_, ck0_, rfl⟩ := Hk0.out.form
  have HB' := Aside0.mk (below_step HB.out hb); clear HB; have HB := HB'; clear HB' hb
  clear Hh0
  go_wp2_with fail
  refine MOwn.named ?_
  intro wa15 hW
  have H' := Aside0.mk (Hs0.out.at (W := wa15) (by subst hW; rfl)); clear Hs0; have Hs0 := H'; clear H'
  have H' := Aside0.mk (Hg0.out.at (W := wa15) (by subst hW; rfl)); clear Hg0; have Hg0 := H'; clear H'
  have H' := Aside0.mk (Hk0.out.at (W := wa15) (by subst hW; rfl)); clear Hk0; have Hk0 := H'; clear H'
  have HB' := Aside0.mk (show Below w.heap.size w wa15 from (q14_)); clear HB; have HB := HB'; clear HB' hW
  refine (laws_eqNoteS.calls k _ _ r0 _ _ r0 true _ Hk0.out.reads.2.2 Hk0.out.reads.2.1 Hs0.out.reads.2.2 Hs0.out.reads.2.1 H_Feq0.out).mono ?_
  rintro e wb15 ⟨rfl, hb⟩
  have H' := Aside0.mk (Hs0.out.below hb); clear Hs0; have Hs0 := H'; clear H'
  have H' := Aside0.mk (Hg0.out.below hb); clear Hg0; have Hg0 := H'; clear H'
  have H' := Aside0.mk (Hk0.out.below hb); clear Hk0; have Hk0 := H'; clear H'
  have HB' := Aside0.mk (below_step HB.out hb); clear HB; have HB := HB'; clear HB' hb
  go_wp2_with fail
  refine MOwn.named ?_
  intro wa16 hW
  have H' := Aside0.mk (Hs0.out.at (W := wa16) (by subst hW; rfl)); clear Hs0; have Hs0 := H'; clear H'
  have H' := Aside0.mk (Hg0.out.at (W := wa16) (by subst hW; rfl)); clear Hg0; have Hg0 := H'; clear H'
  have H' := Aside0.mk (Hk0.out.at (W := wa16) (by subst hW; rfl)); clear Hk0; have Hk0 := H'; clear H'
  have HB' := Aside0.mk (show Below w.heap.size w wa16 from (q14_)); clear HB; have HB := HB'; clear HB' hW
  refine calls_of_args (args' := #[.slice Ag0_ s0.length cg0_, .int .i64 1]) (by rw [Hg0.out.reads.1]) ?_
  refine (laws_heldNoteS.calls k _ _ s0 1 n0 _ (by have h_ := Hg0.out.reads; exact h_.2.2) (by have h_ := Hg0.out.reads; omega) H_Fhe0.out).mono ?_
  rintro e wb16 ⟨rfl, hb⟩
  have H' := Aside0.mk (Hs0.out.below hb); clear Hs0; have Hs0 := H'; clear H'
  have H' := Aside0.mk (Hg0.out.below hb); clear Hg0; have Hg0 := H'; clear H'
  have H' := Aside0.mk (Hk0.out.below hb); clear Hk0; have Hk0 := H'; clear H'
  have HB' := Aside0.mk (below_step HB.out hb); clear HB; have HB := HB'; clear HB' hb
  go_wp2
  go_ret
  exact ⟨rfl, q11_⟩

end Go.Proofs.Ytmllkdgdkagkkaa.G
