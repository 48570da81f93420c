-- Written by this session's own program over the kit's print (wip/tools/myprint.py); Lean checks it.
import Derived.Test.YtmllkdgdkagkkaaMBase
import Derived.Test.YtmllkdgdkagkkaaG0
import Derived.Test.YtmllkdgdkagkkaaG11
namespace Go.Proofs.Ytmllkdgdkagkkaa.G
open Go.RowKit Go.Proofs.YtmllkdgdkagkkaaW.PrintWords Go.Proofs.YtmllkdgdkagkkaaW.PrintLast Go.Proofs.YtmllkdgdkagkkaaW.PrintMore
attribute [local go_sem] max2_int min2_int max_two min_two max_three min_three max_four min_four str_geq str_gtr str_leq   -- for this text's walks alone
set_option linter.unusedVariables false
set_option linter.unusedSimpArgs false
/-! ### impl_isRange: function 89 -/
def impl_isRange.f (a0 : Int) (a1 : Int) : Option (Bool):=(impl_isFrame.f a0).bind fun t101=>(if t101 = true then ((impl_isFrame.f a1).bind fun t102=>(if t102 = true then (some (decide (a0 < a1))) else (some false))) else (some false))
set_option maxHeartbeats 8000000 in
set_option maxRecDepth 100000 in
theorem impl_isRange.calls (a0 : Int) (a1 : Int) (r : Bool) (w : World) (h : impl_isRange.f a0 a1 = some r) :
  Calls Try.prog 89 #[.int .i64 a0,.int .i64 a1] w fun e w' => e = .returned (.bool r) ∧ Drawn0 w w' := by
 have H : ((impl_isFrame.f a0).bind fun t101=>(if t101 = true then ((impl_isFrame.f a1).bind fun t102=>(if t102 = true then (some (decide (a0 < a1))) else (some false))) else (some false))) = some r:=h;clear h;replace H:=Option.bind_eq_some_iff.mp H;obtain ⟨t101,A30,H⟩:=H;replace H : (if t101 = true then ((impl_isFrame.f a1).bind fun t102=>(if t102 = true then (some (decide (a0 < a1))) else (some false))) else (some false)) = some r:=H;have A3:=Aside0.mk A30;clear A30;by_cases c4 : t101 = true
 ·subst c4;have H1 : ((impl_isFrame.f a1).bind fun t102=>(if t102 = true then (some (decide (a0 < a1))) else (some false))) = some r:=by rw [if_pos rfl] at H;exact H
  clear H;have H:=H1;clear H1;replace H:=Option.bind_eq_some_iff.mp H;obtain ⟨t102,A50,H⟩:=H;replace H : (if t102 = true then (some (decide (a0 < a1))) else (some false)) = some r:=H;have A5:=Aside0.mk A50;clear A50;by_cases c6 : t102 = true
  ·subst c6;have H1 : (some (decide (a0 < a1))) = some r:=by rw [if_pos rfl] at H;exact H
   clear H;have H:=H1;clear H1;obtain rfl:=Option.some.inj H;go_enter Try.func89,Try.ntmps89
   go_wp2_with (first | ((with_reducible refine gate_callee (f:=126) rfl ?_);refine goesL_ (some 6) rfl rfl Try.func126 (by kernel_rfl) rfl #[.int .i64 a0] rfl (q8_) ?_;(with_reducible refine (impl_isFrame.calls a0 true _ A3.out).mono ?_);rintro e w' ⟨rfl,⟨nd,rfl⟩⟩;refine ⟨_,rfl,?_⟩) | (go_at_call 126;(with_reducible refine (impl_isFrame.calls a1 true _ A5.out).mono ?_);rintro e w' ⟨rfl,⟨nd,rfl⟩⟩))
   go_ret;exact ⟨q1_,q3_⟩
  ·replace c6:=Bool.eq_false_iff.mpr c6;subst c6;have H1 : (some false) = some r:=by rw [if_neg (show ¬ (false = true) by decide)] at H;exact H
   clear H;have H:=H1;clear H1;obtain rfl:=Option.some.inj H;go_enter Try.func89,Try.ntmps89
   go_wp2_with (first | ((with_reducible refine gate_callee (f:=126) rfl ?_);refine goesL_ (some 6) rfl rfl Try.func126 (by kernel_rfl) rfl #[.int .i64 a0] rfl (q8_) ?_;(with_reducible refine (impl_isFrame.calls a0 true _ A3.out).mono ?_);rintro e w' ⟨rfl,⟨nd,rfl⟩⟩;refine ⟨_,rfl,?_⟩) | (go_at_call 126;(with_reducible refine (impl_isFrame.calls a1 false _ A5.out).mono ?_);rintro e w' ⟨rfl,⟨nd,rfl⟩⟩))
   go_ret;exact ⟨q1_,q3_⟩
 ·replace c4:=Bool.eq_false_iff.mpr c4;subst c4;have H1 : (some false) = some r:=by rw [if_neg (show ¬ (false = true) by decide)] at H;exact H
  clear H;have H:=H1;clear H1;obtain rfl:=Option.some.inj H;go_enter Try.func89,Try.ntmps89
  go_wp2_with (first | ((with_reducible refine gate_callee (f:=126) rfl ?_);refine goesL_ (some 6) rfl rfl Try.func126 (by kernel_rfl) rfl #[.int .i64 a0] rfl (q8_) ?_;(with_reducible refine (impl_isFrame.calls a0 false _ A3.out).mono ?_);rintro e w' ⟨rfl,⟨nd,rfl⟩⟩;refine ⟨_,rfl,?_⟩))
  go_ret;exact ⟨q1_,q3_⟩
end Go.Proofs.Ytmllkdgdkagkkaa.G
