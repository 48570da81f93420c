-- Written by this session's own program over the kit's print (wip/tools/myprint.py); Lean checks it.
import Derived.Test.YtgapcmmhbegdeaaMBase
import Derived.Test.YtgapcmmhbegdeaaG0
namespace Go.Proofs.Ytgapcmmhbegdeaa.G
open Go.RowKit Go.Proofs.YtgapcmmhbegdeaaW.PrintWords Go.Proofs.YtgapcmmhbegdeaaW.PrintLast Go.Proofs.YtgapcmmhbegdeaaW.PrintMore
attribute [local go_sem] max2_int min2_int max_two min_two max_three min_three max_four min_four str_geq str_gtr str_leq   -- for this text's walks alone
set_option linter.unusedVariables false
set_option linter.unusedSimpArgs false
/-! ### laws_big: function 47 -/
def laws_big.f (l0 : List Int) (l1 : List Int) : Option (Bool):=if (l0.length : Int) > 1048576 then (some true) else (some (decide ((l1.length : Int) > (wrap64 (1048576 - (l0.length : Int))))))
set_option maxHeartbeats 8000000 in
set_option maxRecDepth 100000 in
theorem laws_big.calls (A0 : Option Addr) (c0 : Nat) (l0 : List Int) (A1 : Option Addr) (c1 : Nat) (l1 : List Int) (r : Bool) (w : World) (hr0 : Kd.C (Kd.int .u8) w A0 l0.length l0) (hc0 : l0.length ≤ c0) (hr1 : Kd.C (Kd.int .u8) w A1 l1.length l1) (hc1 : l1.length ≤ c1) (h : laws_big.f l0 l1 = some r) :
  Calls Try.prog 47 #[.slice A0 l0.length c0,.slice A1 l1.length c1] w fun e w' => e = .returned (.bool r) ∧ Drawn0 w w' := by
 have HR0:=Aside0.mk hr0;have HC0:=Aside0.mk hc0;clear hr0 hc0;have HR1:=Aside0.mk hr1;have HC1:=Aside0.mk hc1;clear hr1 hc1;have H : (if (l0.length : Int) > 1048576 then (some true) else (some (decide ((l1.length : Int) > (wrap64 (1048576 - (l0.length : Int))))))) = some r:=h;clear h;by_cases c3 : (l0.length : Int) > 1048576
 ·rw [if_pos c3] at H;have c3b0 : decide (1048576 < (l0.length : Int)) = true:=decide_eq_true c3;have c3b1 : decide (1048576 < l0.length) = true:=decide_eq_true (by omega);clear c3;obtain rfl:=Option.some.inj H;go_enter Try.func47,Try.ntmps47
  go_wp2;go_ret;exact ⟨q1_,q3_⟩
 ·rw [if_neg c3] at H;have c3b0 : decide (1048576 < (l0.length : Int)) = false:=decide_eq_false c3;have c3b1 : decide (1048576 < l0.length) = false:=decide_eq_false (by omega);clear c3;obtain rfl:=Option.some.inj H;go_enter Try.func47,Try.ntmps47
  go_wp2;go_ret;exact ⟨q1_,q3_⟩
end Go.Proofs.Ytgapcmmhbegdeaa.G
