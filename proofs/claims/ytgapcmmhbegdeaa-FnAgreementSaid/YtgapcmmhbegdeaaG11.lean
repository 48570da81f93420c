-- Written by this session's own program over the kit's print (wip/tools/myprint.py); Lean checks it.
import Derived.Test.YtgapcmmhbegdeaaMBase
import Derived.Test.YtgapcmmhbegdeaaG0
import Derived.Test.YtgapcmmhbegdeaaG5
namespace Go.Proofs.Ytgapcmmhbegdeaa.G
open Go.RowKit Go.Proofs.YtgapcmmhbegdeaaW.PrintWords Go.Proofs.YtgapcmmhbegdeaaW.PrintLast Go.Proofs.YtgapcmmhbegdeaaW.PrintMore
attribute [local go_sem] max2_int min2_int max_two min_two max_three min_three max_four min_four str_geq str_gtr str_leq   -- for this text's walks alone
set_option linter.unusedVariables false
set_option linter.unusedSimpArgs false
/-! ### cmp_Compare_string: function 215 -/
def cmp_Compare_string.f (a0 : ByteArray) (a1 : ByteArray) : Option (Int):=(cmp_isNaN_string.f a0).bind fun t101=>((cmp_isNaN_string.f a1).bind fun t102=>(if t101 = true then (if t102 = true then (some 0) else (some (-1))) else (if t102 = true then (some 1) else (if (Op.bytesLess a0.toList a1.toList) = true then (some (-1)) else (if (Op.bytesLess a1.toList a0.toList) = true then (some 1) else (some 0))))))
set_option maxHeartbeats 8000000 in
set_option maxRecDepth 100000 in
theorem cmp_Compare_string.calls (a0 : ByteArray) (a1 : ByteArray) (r : Int) (w : World) (h : cmp_Compare_string.f a0 a1 = some r) :
  Calls Try.prog 215 #[.string a0,.string a1] w fun e w' => e = .returned (.int .i64 r) ∧ Drawn0 w w' := by
 have H : ((cmp_isNaN_string.f a0).bind fun t101=>((cmp_isNaN_string.f a1).bind fun t102=>(if t101 = true then (if t102 = true then (some 0) else (some (-1))) else (if t102 = true then (some 1) else (if (Op.bytesLess a0.toList a1.toList) = true then (some (-1)) else (if (Op.bytesLess a1.toList a0.toList) = true then (some 1) else (some 0))))))) = some r:=h;clear h;replace H:=Option.bind_eq_some_iff.mp H;obtain ⟨t101,A30,H⟩:=H;(try dsimp only at H);have A3:=Aside0.mk A30;clear A30;replace H:=Option.bind_eq_some_iff.mp H;obtain ⟨t102,A40,H⟩:=H;(try dsimp only at H);have A4:=Aside0.mk A40;clear A40;by_cases c5 : t101 = true
 ·subst c5;have H1 : (if t102 = true then (some 0) else (some (-1))) = some r:=by rw [if_pos rfl] at H;exact H
  clear H;have H:=H1;clear H1;by_cases c6 : t102 = true
  ·subst c6;have H1 : (some 0) = some r:=by rw [if_pos rfl] at H;exact H
   clear H;have H:=H1;clear H1;obtain rfl:=Option.some.inj H;go_enter Try.func215,Try.ntmps215
   go_wp2_with (first | ((with_reducible refine gate_callee (f:=258) rfl ?_);refine goesL_ (some 8) rfl rfl Try.func258 (by kernel_rfl) rfl #[.string a0] rfl (q20_) ?_;(with_reducible refine (cmp_isNaN_string.calls a0 true _ A3.out).mono ?_);rintro e w' ⟨rfl,⟨nd,rfl⟩⟩;refine ⟨_,rfl,?_⟩) | ((with_reducible refine gate_callee (f:=258) rfl ?_);refine goesL_ (some 10) rfl rfl Try.func258 (by kernel_rfl) rfl #[.string a1] rfl (q20_) ?_;(with_reducible refine (cmp_isNaN_string.calls a1 true _ A4.out).mono ?_);rintro e w' ⟨rfl,⟨nd,rfl⟩⟩;refine ⟨_,rfl,?_⟩))
   go_ret;exact ⟨q1_,q3_⟩
  ·replace c6:=Bool.eq_false_iff.mpr c6;subst c6;have H1 : (some (-1)) = some r:=by rw [if_neg (show ¬ (false = true) by decide)] at H;exact H
   clear H;have H:=H1;clear H1;obtain rfl:=Option.some.inj H;go_enter Try.func215,Try.ntmps215
   go_wp2_with (first | ((with_reducible refine gate_callee (f:=258) rfl ?_);refine goesL_ (some 8) rfl rfl Try.func258 (by kernel_rfl) rfl #[.string a0] rfl (q20_) ?_;(with_reducible refine (cmp_isNaN_string.calls a0 true _ A3.out).mono ?_);rintro e w' ⟨rfl,⟨nd,rfl⟩⟩;refine ⟨_,rfl,?_⟩) | ((with_reducible refine gate_callee (f:=258) rfl ?_);refine goesL_ (some 10) rfl rfl Try.func258 (by kernel_rfl) rfl #[.string a1] rfl (q20_) ?_;(with_reducible refine (cmp_isNaN_string.calls a1 false _ A4.out).mono ?_);rintro e w' ⟨rfl,⟨nd,rfl⟩⟩;refine ⟨_,rfl,?_⟩))
   go_ret;exact ⟨q1_,q3_⟩
 ·replace c5:=Bool.eq_false_iff.mpr c5;subst c5;have H1 : (if t102 = true then (some 1) else (if (Op.bytesLess a0.toList a1.toList) = true then (some (-1)) else (if (Op.bytesLess a1.toList a0.toList) = true then (some 1) else (some 0)))) = some r:=by rw [if_neg (show ¬ (false = true) by decide)] at H;exact H
  clear H;have H:=H1;clear H1;by_cases c7 : t102 = true
  ·subst c7;have H1 : (some 1) = some r:=by rw [if_pos rfl] at H;exact H
   clear H;have H:=H1;clear H1;obtain rfl:=Option.some.inj H;go_enter Try.func215,Try.ntmps215
   go_wp2_with (first | ((with_reducible refine gate_callee (f:=258) rfl ?_);refine goesL_ (some 8) rfl rfl Try.func258 (by kernel_rfl) rfl #[.string a0] rfl (q20_) ?_;(with_reducible refine (cmp_isNaN_string.calls a0 false _ A3.out).mono ?_);rintro e w' ⟨rfl,⟨nd,rfl⟩⟩;refine ⟨_,rfl,?_⟩) | ((with_reducible refine gate_callee (f:=258) rfl ?_);refine goesL_ (some 10) rfl rfl Try.func258 (by kernel_rfl) rfl #[.string a1] rfl (q20_) ?_;(with_reducible refine (cmp_isNaN_string.calls a1 true _ A4.out).mono ?_);rintro e w' ⟨rfl,⟨nd,rfl⟩⟩;refine ⟨_,rfl,?_⟩))
   go_ret;exact ⟨q1_,q3_⟩
  ·replace c7:=Bool.eq_false_iff.mpr c7;subst c7;have H1 : (if (Op.bytesLess a0.toList a1.toList) = true then (some (-1)) else (if (Op.bytesLess a1.toList a0.toList) = true then (some 1) else (some 0))) = some r:=by rw [if_neg (show ¬ (false = true) by decide)] at H;exact H
   clear H;have H:=H1;clear H1;by_cases c8 : (Op.bytesLess a0.toList a1.toList) = true
   ·rw [if_pos c8] at H;have c8b0 : (Op.bytesLess a0.toList a1.toList) = true:=c8;clear c8;obtain rfl:=Option.some.inj H;go_enter Try.func215,Try.ntmps215
    go_wp2_with (first | ((with_reducible refine gate_callee (f:=258) rfl ?_);refine goesL_ (some 8) rfl rfl Try.func258 (by kernel_rfl) rfl #[.string a0] rfl (q20_) ?_;(with_reducible refine (cmp_isNaN_string.calls a0 false _ A3.out).mono ?_);rintro e w' ⟨rfl,⟨nd,rfl⟩⟩;refine ⟨_,rfl,?_⟩) | ((with_reducible refine gate_callee (f:=258) rfl ?_);refine goesL_ (some 10) rfl rfl Try.func258 (by kernel_rfl) rfl #[.string a1] rfl (q20_) ?_;(with_reducible refine (cmp_isNaN_string.calls a1 false _ A4.out).mono ?_);rintro e w' ⟨rfl,⟨nd,rfl⟩⟩;refine ⟨_,rfl,?_⟩))
    go_ret;exact ⟨q1_,q3_⟩
   ·rw [if_neg c8] at H;have c8b0 : (Op.bytesLess a0.toList a1.toList) = false:=by simpa using c8
    clear c8;by_cases c9 : (Op.bytesLess a1.toList a0.toList) = true
    ·rw [if_pos c9] at H;have c9b0 : (Op.bytesLess a1.toList a0.toList) = true:=c9;clear c9;obtain rfl:=Option.some.inj H;go_enter Try.func215,Try.ntmps215
     go_wp2_with (first | ((with_reducible refine gate_callee (f:=258) rfl ?_);refine goesL_ (some 8) rfl rfl Try.func258 (by kernel_rfl) rfl #[.string a0] rfl (q20_) ?_;(with_reducible refine (cmp_isNaN_string.calls a0 false _ A3.out).mono ?_);rintro e w' ⟨rfl,⟨nd,rfl⟩⟩;refine ⟨_,rfl,?_⟩) | ((with_reducible refine gate_callee (f:=258) rfl ?_);refine goesL_ (some 10) rfl rfl Try.func258 (by kernel_rfl) rfl #[.string a1] rfl (q20_) ?_;(with_reducible refine (cmp_isNaN_string.calls a1 false _ A4.out).mono ?_);rintro e w' ⟨rfl,⟨nd,rfl⟩⟩;refine ⟨_,rfl,?_⟩))
     go_ret;exact ⟨q1_,q3_⟩
    ·rw [if_neg c9] at H;have c9b0 : (Op.bytesLess a1.toList a0.toList) = false:=by simpa using c9
     clear c9;obtain rfl:=Option.some.inj H;go_enter Try.func215,Try.ntmps215
     go_wp2_with (first | ((with_reducible refine gate_callee (f:=258) rfl ?_);refine goesL_ (some 8) rfl rfl Try.func258 (by kernel_rfl) rfl #[.string a0] rfl (q20_) ?_;(with_reducible refine (cmp_isNaN_string.calls a0 false _ A3.out).mono ?_);rintro e w' ⟨rfl,⟨nd,rfl⟩⟩;refine ⟨_,rfl,?_⟩) | ((with_reducible refine gate_callee (f:=258) rfl ?_);refine goesL_ (some 10) rfl rfl Try.func258 (by kernel_rfl) rfl #[.string a1] rfl (q20_) ?_;(with_reducible refine (cmp_isNaN_string.calls a1 false _ A4.out).mono ?_);rintro e w' ⟨rfl,⟨nd,rfl⟩⟩;refine ⟨_,rfl,?_⟩))
     go_ret;exact ⟨q1_,q3_⟩
/-! ### slices_Compare_string: function 128 -/
def slices_Compare_string.l0 : Nat → List ByteArray → List ByteArray → List ByteArray → Int → Int → Option (Int)
 | 0,_,_,_,_,_=>none
 | k + 1,x0,x1,x9,x10,x11=>if x11 < x10 then (if 0 ≤ x11 then (if x11 < (x9.length : Int) then (if x11 ≥ (x1.length : Int) then (some 1) else (if x11 < (x1.length : Int) then ((cmp_Compare_string.f (rdOf ByteArray.empty x9 x11) (rdOf ByteArray.empty x1 x11)).bind fun t103=>(if t103 = 0 then (slices_Compare_string.l0 k x0 x1 x9 x10 (wrap64 (x11 + 1))) else (some t103))) else (none))) else (none)) else (none)) else (if (x0.length : Int) < (x1.length : Int) then (some (-1)) else (some 0))
def slices_Compare_string.f (k : Nat) (l0 : List ByteArray) (l1 : List ByteArray) : Option (Int):=slices_Compare_string.l0 k l0 l1 l0 (l0.length : Int) 0
set_option maxHeartbeats 8000000 in
set_option maxRecDepth 100000 in
theorem slices_Compare_string.calls (k : Nat) (A0 : Option Addr) (c0 : Nat) (l0 : List ByteArray) (A1 : Option Addr) (c1 : Nat) (l1 : List ByteArray) (r : Int) (w : World) (hr0 : Kd.C Kd.string w A0 l0.length l0) (hc0 : l0.length ≤ c0) (hr1 : Kd.C Kd.string w A1 l1.length l1) (hc1 : l1.length ≤ c1) (h : slices_Compare_string.f k l0 l1 = some r) :
  Calls Try.prog 128 #[.slice A0 l0.length c0,.slice A1 l1.length c1] w fun e w' => e = .returned (.int .i64 r) ∧ Drawn0 w w' := by
 have HR0:=Aside0.mk hr0;have HC0:=Aside0.mk hc0;clear hr0 hc0;have HR1:=Aside0.mk hr1;have HC1:=Aside0.mk hc1;clear hr1 hc1;have H : (slices_Compare_string.l0 k l0 l1 l0 (l0.length : Int) 0) = some r:=h;clear h;have H' := Aside0.mk H;clear H;go_enter Try.func128,Try.ntmps128
 go_wp2;go_loopg [11] k (fun kq v11 w' => ∃ (x11_1 : Int),v11 = .int .i64 x11_1 ∧ Aside0 (slices_Compare_string.l0 kq l0 l1 l0 (l0.length : Int) x11_1 = some r) ∧ Aside0 (kq ≤ k) ∧ Drawn0 w w')
 case atStart=>exact ⟨(0),(q1_),H', ⟨Nat.le_refl _⟩,q3_⟩
 case round =>
  clear H';try clear c1
  obtain ⟨x11_1,rfl,HA,HK1,⟨m1,rfl⟩⟩:=hrel;cases gk with
  | zero=>exact absurd HA.out (by simp [slices_Compare_string.l0])
  | succ k1 =>
   have H:=HA.out;clear HA;simp only [slices_Compare_string.l0] at H;by_cases c3 : x11_1 < (l0.length : Int)
   ·rw [if_pos c3] at H;have c3b0 : decide (x11_1 < (l0.length : Int)) = true:=decide_eq_true c3;clear c3;by_cases c4 : 0 ≤ x11_1
    ·rw [if_pos c4] at H;have c4b0 : decide (0 ≤ x11_1) = true:=decide_eq_true c4;clear c4;by_cases c5 : x11_1 < (l0.length : Int)
     ·rw [if_pos c5] at H;have c5b0 : decide (x11_1 < (l0.length : Int)) = true:=decide_eq_true c5;clear c5;by_cases c6 : x11_1 ≥ (l1.length : Int)
      ·rw [if_pos c6] at H;have c6b0 : decide ((l1.length : Int) ≤ x11_1) = true:=decide_eq_true c6;clear c6;obtain rfl:=Option.some.inj H;have p101 : 0 ≤ (x11_1 : Int):=of_decide_eq_true (q2_);have q101 : x11_1 < (l0.length : Int):=of_decide_eq_true (q2_);obtain ⟨ad101,e101,hx101_0⟩:=Kd.at_string HR0.out x11_1 p101 q101;cases e101;replace p101:=eq_true p101;replace q101:=eq_true q101;go_wp2;go_ret;exact ⟨q1_,q3_⟩
      ·rw [if_neg c6] at H;have c6b0 : decide ((l1.length : Int) ≤ x11_1) = false:=decide_eq_false c6;clear c6;by_cases c7 : x11_1 < (l1.length : Int)
       ·rw [if_pos c7] at H;have c7b0 : decide (x11_1 < (l1.length : Int)) = true:=decide_eq_true c7;clear c7;replace H:=Option.bind_eq_some_iff.mp H;obtain ⟨t103,A80,H⟩:=H;(try dsimp only at H);have A8:=Aside0.mk A80;clear A80;by_cases c9 : t103 = 0
        ·rw [if_pos c9] at H;have c9b0 : (t103 == 0) = true:=beq_iff_eq.mpr c9;have c9b1 : (t103 != 0) = false:=bne_eq_false_iff_eq.mpr c9;clear c9;have H' := Aside0.mk H;clear H;have p101 : 0 ≤ (x11_1 : Int):=of_decide_eq_true (q2_);have q101 : x11_1 < (l0.length : Int):=of_decide_eq_true (q2_);obtain ⟨ad101,e101,hx101_0⟩:=Kd.at_string HR0.out x11_1 p101 q101;cases e101;replace p101:=eq_true p101;replace q101:=eq_true q101;have p102 : 0 ≤ (x11_1 : Int):=of_decide_eq_true (q2_);have q102 : x11_1 < (l1.length : Int):=of_decide_eq_true (q2_);obtain ⟨ad102,e102,hx102_0⟩:=Kd.at_string HR1.out x11_1 p102 q102;cases e102;replace p102:=eq_true p102;replace q102:=eq_true q102;go_wp2_with (first | ((with_reducible refine gate_callee (f:=215) rfl ?_);refine goesL_ (some 26) rfl rfl Try.func215 (by kernel_rfl) rfl #[.string (rdOf ByteArray.empty l0 x11_1),.string (rdOf ByteArray.empty l1 x11_1)] rfl (q20_) ?_;(with_reducible refine (cmp_Compare_string.calls (rdOf ByteArray.empty l0 x11_1) (rdOf ByteArray.empty l1 x11_1) t103 _ A8.out).mono ?_);rintro e w' ⟨rfl,⟨nd,rfl⟩⟩;refine ⟨_,rfl,?_⟩))
         go_roundg k1
         case measure=>have:=HK1.out;omega
         case rel=>exact ⟨(wrap64 (x11_1 + 1)),(q1_),H', ⟨by have:=HK1.out;omega⟩,q3_⟩
        ·rw [if_neg c9] at H;have c9b0 : (t103 == 0) = false:=beq_eq_false_iff_ne.mpr c9;have c9b1 : (t103 != 0) = true:=bne_iff_ne.mpr c9;obtain rfl:=Option.some.inj H;have p101 : 0 ≤ (x11_1 : Int):=of_decide_eq_true (q2_);have q101 : x11_1 < (l0.length : Int):=of_decide_eq_true (q2_);obtain ⟨ad101,e101,hx101_0⟩:=Kd.at_string HR0.out x11_1 p101 q101;cases e101;replace p101:=eq_true p101;replace q101:=eq_true q101;have p102 : 0 ≤ (x11_1 : Int):=of_decide_eq_true (q2_);have q102 : x11_1 < (l1.length : Int):=of_decide_eq_true (q2_);obtain ⟨ad102,e102,hx102_0⟩:=Kd.at_string HR1.out x11_1 p102 q102;cases e102;replace p102:=eq_true p102;replace q102:=eq_true q102;go_wp2_with (first | ((with_reducible refine gate_callee (f:=215) rfl ?_);refine goesL_ (some 26) rfl rfl Try.func215 (by kernel_rfl) rfl #[.string (rdOf ByteArray.empty l0 x11_1),.string (rdOf ByteArray.empty l1 x11_1)] rfl (q20_) ?_;(with_reducible refine (cmp_Compare_string.calls (rdOf ByteArray.empty l0 x11_1) (rdOf ByteArray.empty l1 x11_1) t103 _ A8.out).mono ?_);rintro e w' ⟨rfl,⟨nd,rfl⟩⟩;refine ⟨_,rfl,?_⟩))
         go_ret;exact ⟨q1_,q3_⟩
       ·rw [if_neg c7] at H;exact absurd H (by simp)
     ·rw [if_neg c5] at H;exact absurd H (by simp)
    ·rw [if_neg c4] at H;exact absurd H (by simp)
   ·rw [if_neg c3] at H;have c3b0 : decide (x11_1 < (l0.length : Int)) = false:=decide_eq_false c3;clear c3;by_cases c10 : (l0.length : Int) < (l1.length : Int)
    ·rw [if_pos c10] at H;have c10b0 : decide ((l0.length : Int) < (l1.length : Int)) = true:=decide_eq_true c10;have c10b1 : decide (l0.length < l1.length) = true:=decide_eq_true (Int.ofNat_lt.mp c10);clear c10;obtain rfl:=Option.some.inj H;go_wp2;go_ret;exact ⟨q1_,q3_⟩
    ·rw [if_neg c10] at H;have c10b0 : decide ((l0.length : Int) < (l1.length : Int)) = false:=decide_eq_false c10;have c10b1 : decide (l0.length < l1.length) = false:=decide_eq_false (fun h=>c10 (Int.ofNat_lt.mpr h));clear c10;obtain rfl:=Option.some.inj H;go_wp2;go_ret;exact ⟨q1_,q3_⟩
end Go.Proofs.Ytgapcmmhbegdeaa.G
