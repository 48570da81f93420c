-- Written by this session's own program over the kit's print (wip/tools/myprint.py); Lean checks it.
import Derived.Test.YtgapcmmhbegdeaaMBase
import Derived.Test.YtgapcmmhbegdeaaG0
import Derived.Test.YtgapcmmhbegdeaaG1
namespace Go.Proofs.Ytgapcmmhbegdeaa.G
open Go.RowKit Go.Proofs.YtgapcmmhbegdeaaW.PrintWords Go.Proofs.YtgapcmmhbegdeaaW.PrintLast Go.Proofs.YtgapcmmhbegdeaaW.PrintMore
attribute [local go_sem] max2_int min2_int max_two min_two max_three min_three max_four min_four str_geq str_gtr str_leq   -- for this text's walks alone
set_option linter.unusedVariables false
set_option linter.unusedSimpArgs false
/-! ### strings_IndexByte: function 262 -/
def strings_IndexByte.f (a0 : ByteArray) (a1 : Int) : Option (Int):=some (Lib.indexByte a0.data.toList a1.toNat.toUInt8)
set_option maxHeartbeats 1000000 in
set_option maxRecDepth 100000 in
theorem strings_IndexByte.lite (a0 : ByteArray) (a1 : Int) (w : World) :
  Calls Try.prog 269 #[.string a0,.int .u8 a1] w fun e w' => e = .returned (.int .i64 (Lib.indexByte a0.data.toList a1.toNat.toUInt8)) ∧ w = w' := by
 go_enter Try.func269,Try.ntmps269
 go_wp2;rw [run_callFunc_extern Try.func272 (by kernel_rfl) (by kernel_rfl) (by kernel_rfl) (e:=Extern.BytealgIndexByte.indexByte) (by kernel_rfl),Lib.run_indexByteString];simp only [Result.andThen];rw [Oper.upon_value];go_wp2;go_ret;exact ⟨rfl,rfl⟩
set_option maxHeartbeats 1000000 in
set_option maxRecDepth 100000 in
theorem strings_IndexByte.calls (a0 : ByteArray) (a1 : Int) (r : Int) (w : World) (h : strings_IndexByte.f a0 a1 = some r) :
  Calls Try.prog 262 #[.string a0,.int .u8 a1] w fun e w' => e = .returned (.int .i64 r) ∧ Drawn0 w w' := by
 obtain rfl:=Option.some.inj h;clear h;go_enter Try.func262,Try.ntmps262
 go_wp2_with (go_at_call 269;refine (strings_IndexByte.lite _ _ _).mono ?_;rintro e w' ⟨rfl,rfl⟩)
 go_ret;exact ⟨rfl,Drawn0.refl _⟩
/-! ### impl_hasOnly: function 240 -/
def impl_hasOnly.l0 : Nat → ByteArray → ByteArray → Int → Int → Option (Bool)
 | 0,_,_,_,_=>none
 | k + 1,x0,x1,x7,x8=>if x8 < x7 then (if 0 ≤ x8 then (if x8 < (x0.size : Int) then ((strings_IndexByte.f x1 (bt x0 x8)).bind fun t101=>(if t101 < 0 then (some false) else (impl_hasOnly.l0 k x0 x1 x7 (wrap64 (x8 + 1))))) else (none)) else (none)) else (some true)
def impl_hasOnly.f (k : Nat) (a0 : ByteArray) (a1 : ByteArray) : Option (Bool):=impl_hasOnly.l0 k a0 a1 (a0.size : Int) 0
set_option maxHeartbeats 8000000 in
set_option maxRecDepth 100000 in
theorem impl_hasOnly.calls (k : Nat) (a0 : ByteArray) (a1 : ByteArray) (r : Bool) (w : World) (h : impl_hasOnly.f k a0 a1 = some r) :
  Calls Try.prog 240 #[.string a0,.string a1] w fun e w' => e = .returned (.bool r) ∧ Drawn0 w w' := by
 have H : (impl_hasOnly.l0 k a0 a1 (a0.size : Int) 0) = some r:=h;clear h;have H' := Aside0.mk H;clear H;go_enter Try.func240,Try.ntmps240
 go_wp2;go_loopg [8] k (fun kq v8 w' => ∃ (x8_1 : Int),v8 = .int .i64 x8_1 ∧ Aside0 (impl_hasOnly.l0 kq a0 a1 (a0.size : Int) x8_1 = some r) ∧ Aside0 (kq ≤ k) ∧ Drawn0 w w')
 case atStart=>exact ⟨(0),(q1_),H', ⟨Nat.le_refl _⟩,q3_⟩
 case round =>
  clear H';obtain ⟨x8_1,rfl,HA,HK1,⟨m1,rfl⟩⟩:=hrel;cases gk with
  | zero=>exact absurd HA.out (by simp [impl_hasOnly.l0])
  | succ k1 =>
   have H:=HA.out;clear HA;simp only [impl_hasOnly.l0] at H;by_cases c3 : x8_1 < (a0.size : Int)
   ·rw [if_pos c3] at H;have c3b0 : decide (x8_1 < (a0.size : Int)) = true:=decide_eq_true c3;clear c3;by_cases c4 : 0 ≤ x8_1
    ·rw [if_pos c4] at H;have c4b0 : decide (0 ≤ x8_1) = true:=decide_eq_true c4;clear c4;by_cases c5 : x8_1 < (a0.size : Int)
     ·rw [if_pos c5] at H;have c5b0 : decide (x8_1 < (a0.size : Int)) = true:=decide_eq_true c5;clear c5;replace H:=Option.bind_eq_some_iff.mp H;obtain ⟨t101,A70,H⟩:=H;(try dsimp only at H);have A7:=Aside0.mk A70;clear A70;by_cases c8 : t101 < 0
      ·rw [if_pos c8] at H;have c8b0 : decide (t101 < 0) = true:=decide_eq_true c8;clear c8;obtain rfl:=Option.some.inj H;have p6 : 0 ≤ (x8_1 : Int):=of_decide_eq_true (q2_);have q6 : x8_1 < (a0.size : Int):=of_decide_eq_true (q2_);have hx6:=bt_at a0 x8_1;replace p6:=eq_true p6;replace q6:=eq_true q6;go_wp2_with (first | ((with_reducible refine gate_callee (f:=262) rfl ?_);refine goesL_ (some 15) rfl rfl Try.func262 (by kernel_rfl) rfl #[.string a1,.int .u8 (bt a0 x8_1)] rfl (q24_) ?_;(with_reducible refine (strings_IndexByte.calls a1 (bt a0 x8_1) t101 _ A7.out).mono ?_);rintro e w' ⟨rfl,⟨nd,rfl⟩⟩;refine ⟨_,rfl,?_⟩))
       go_ret;exact ⟨q1_,q3_⟩
      ·rw [if_neg c8] at H;have c8b0 : decide (t101 < 0) = false:=decide_eq_false c8;clear c8;have H' := Aside0.mk H;clear H;have p6 : 0 ≤ (x8_1 : Int):=of_decide_eq_true (q2_);have q6 : x8_1 < (a0.size : Int):=of_decide_eq_true (q2_);have hx6:=bt_at a0 x8_1;replace p6:=eq_true p6;replace q6:=eq_true q6;go_wp2_with (first | ((with_reducible refine gate_callee (f:=262) rfl ?_);refine goesL_ (some 15) rfl rfl Try.func262 (by kernel_rfl) rfl #[.string a1,.int .u8 (bt a0 x8_1)] rfl (q24_) ?_;(with_reducible refine (strings_IndexByte.calls a1 (bt a0 x8_1) t101 _ A7.out).mono ?_);rintro e w' ⟨rfl,⟨nd,rfl⟩⟩;refine ⟨_,rfl,?_⟩))
       go_roundg k1
       case measure=>have:=HK1.out;omega
       case rel=>exact ⟨(wrap64 (x8_1 + 1)),(q1_),H', ⟨by have:=HK1.out;omega⟩,q3_⟩
     ·rw [if_neg c5] at H;exact absurd H (by simp)
    ·rw [if_neg c4] at H;exact absurd H (by simp)
   ·rw [if_neg c3] at H;have c3b0 : decide (x8_1 < (a0.size : Int)) = false:=decide_eq_false c3;clear c3;obtain rfl:=Option.some.inj H;go_wp2;go_ret;exact ⟨q1_,q3_⟩
/-! ### impl_isWordOf: function 175 -/
def impl_isWordOf.f (k : Nat) (a0 : ByteArray) (a1 : ByteArray) : Option (Bool):=(impl_within.f (a0.size : Int) 1 8).bind fun t101=>(if t101 = true then ((impl_hasOnly.f k a0 a1).bind fun t102=>(some t102)) else (some false))
set_option maxHeartbeats 8000000 in
set_option maxRecDepth 100000 in
theorem impl_isWordOf.calls (k : Nat) (a0 : ByteArray) (a1 : ByteArray) (r : Bool) (w : World) (h : impl_isWordOf.f k a0 a1 = some r) :
  Calls Try.prog 175 #[.string a0,.string a1] w fun e w' => e = .returned (.bool r) ∧ Drawn0 w w' := by
 have H : ((impl_within.f (a0.size : Int) 1 8).bind fun t101=>(if t101 = true then ((impl_hasOnly.f k a0 a1).bind fun t102=>(some t102)) else (some false))) = some r:=h;clear h;replace H:=Option.bind_eq_some_iff.mp H;obtain ⟨t101,A30,H⟩:=H;(try dsimp only at H);have A3:=Aside0.mk A30;clear A30;by_cases c4 : t101 = true
 ·subst c4;have H1 : ((impl_hasOnly.f k a0 a1).bind fun t102=>(some t102)) = some r:=by rw [if_pos rfl] at H;exact H
  clear H;have H:=H1;clear H1;replace H:=Option.bind_eq_some_iff.mp H;obtain ⟨t102,A50,H⟩:=H;(try dsimp only at H);have A5:=Aside0.mk A50;clear A50;obtain rfl:=Option.some.inj H;go_enter Try.func175,Try.ntmps175
  go_wp2_with (first | ((with_reducible refine gate_callee (f:=132) rfl ?_);refine goesL_ (some 7) rfl rfl Try.func132 (by kernel_rfl) rfl #[.int .i64 (a0.size : Int),.int .i64 1,.int .i64 8] rfl (q24_) ?_;(with_reducible refine (impl_within.calls (a0.size : Int) 1 8 true _ A3.out).mono ?_);rintro e w' ⟨rfl,⟨nd,rfl⟩⟩;refine ⟨_,rfl,?_⟩) | (go_at_call 240;(with_reducible refine (impl_hasOnly.calls k a0 a1 t102 _ A5.out).mono ?_);rintro e w' ⟨rfl,⟨nd,rfl⟩⟩))
  go_ret;exact ⟨q1_,q3_⟩
 ·replace c4:=Bool.eq_false_iff.mpr c4;subst c4;have H1 : (some false) = some r:=by rw [if_neg (show ¬ (false = true) by decide)] at H;exact H
  clear H;have H:=H1;clear H1;obtain rfl:=Option.some.inj H;go_enter Try.func175,Try.ntmps175
  go_wp2_with (first | ((with_reducible refine gate_callee (f:=132) rfl ?_);refine goesL_ (some 7) rfl rfl Try.func132 (by kernel_rfl) rfl #[.int .i64 (a0.size : Int),.int .i64 1,.int .i64 8] rfl (q24_) ?_;(with_reducible refine (impl_within.calls (a0.size : Int) 1 8 false _ A3.out).mono ?_);rintro e w' ⟨rfl,⟨nd,rfl⟩⟩;refine ⟨_,rfl,?_⟩))
  go_ret;exact ⟨q1_,q3_⟩
end Go.Proofs.Ytgapcmmhbegdeaa.G
