-- Written by this session's own program over the kit's print (wip/tools/myprint.py); Lean checks it.
import Derived.Test.YtgapcmmhbegdeaaMBase
import Derived.Test.YtgapcmmhbegdeaaG0
import Derived.Test.YtgapcmmhbegdeaaG2
import Derived.Test.YtgapcmmhbegdeaaG4
import Derived.Test.YtgapcmmhbegdeaaG5
import Derived.Test.YtgapcmmhbegdeaaG6
import Derived.Test.YtgapcmmhbegdeaaG8
import Derived.Test.YtgapcmmhbegdeaaG93
namespace Go.Proofs.Ytgapcmmhbegdeaa.G
open Go.RowKit Go.Proofs.YtgapcmmhbegdeaaW.PrintWords Go.Proofs.YtgapcmmhbegdeaaW.PrintLast Go.Proofs.YtgapcmmhbegdeaaW.PrintMore
attribute [local go_sem] max2_int min2_int max_two min_two max_three min_three max_four min_four str_geq str_gtr str_leq   -- for this text's walks alone
set_option linter.unusedVariables false
set_option linter.unusedSimpArgs false
attribute [local go_sem high] eqA96
/-! ### laws_pSameSpans: function 75 -/
def laws_pSameSpans.l0 : Nat → List (S96) → List (S96) → Int → Int → Option (Bool)
 | 0,_,_,_,_=>none
 | k + 1,x0,x1,x12,x13=>if x13 < x12 then (if 0 ≤ x13 then (if x13 < (x0.length : Int) then (if x13 < (x1.length : Int) then (if (!(((rd_T96 x0 x13).f0) == ((rd_T96 x1 x13).f0)) || (!(((rd_T96 x0 x13).f1) == ((rd_T96 x1 x13).f1)))) = true then (some false) else (laws_pSameSpans.l0 k x0 x1 x12 (wrap64 (x13 + 1)))) else (none)) else (none)) else (none)) else (some true)
def laws_pSameSpans.f (k : Nat) (l0 : List (S96)) (l1 : List (S96)) : Option (Bool):=if (l0.length : Int) = (l1.length : Int) then (laws_pSameSpans.l0 k l0 l1 (l0.length : Int) 0) else (some false)
set_option maxHeartbeats 8000000 in
set_option maxRecDepth 100000 in
theorem laws_pSameSpans.calls (k : Nat) (A0 : Option Addr) (c0 : Nat) (l0 : List (S96)) (A1 : Option Addr) (c1 : Nat) (l1 : List (S96)) (r : Bool) (w : World) (hr0 : Kd.C k96 w A0 l0.length l0) (hc0 : l0.length ≤ c0) (hr1 : Kd.C k96 w A1 l1.length l1) (hc1 : l1.length ≤ c1) (h : laws_pSameSpans.f k l0 l1 = some r) :
  Calls Try.prog 75 #[.slice A0 l0.length c0,.slice A1 l1.length c1] w fun e w' => e = .returned (.bool r) ∧ Drawn0 w w' := by
 have hu96:=Try.underlying96;have HR0:=Aside0.mk hr0;have HC0:=Aside0.mk hc0;clear hr0 hc0;have HR1:=Aside0.mk hr1;have HC1:=Aside0.mk hc1;clear hr1 hc1;have H : (if (l0.length : Int) = (l1.length : Int) then (laws_pSameSpans.l0 k l0 l1 (l0.length : Int) 0) else (some false)) = some r:=h;clear h;by_cases c3 : (l0.length : Int) = (l1.length : Int)
 ·rw [if_pos c3] at H;have c3b0 : ((l0.length : Int) == (l1.length : Int)) = true:=beq_iff_eq.mpr c3;have c3b1 : ((l0.length : Int) != (l1.length : Int)) = false:=bne_eq_false_iff_eq.mpr c3;have c3b2 : (l0.length == l1.length) = true:=by first | simpa using c3 | (simp at c3 ⊢;omega)
  clear c3;have H' := Aside0.mk H;clear H;go_enter Try.func75,Try.ntmps75
  go_wp2;repeat (go_quiet (fail);try go_wp2)
  go_loopg [13] k (fun kq v13 w' => ∃ (x13_1 : Int),v13 = .int .i64 x13_1 ∧ Aside0 (laws_pSameSpans.l0 kq l0 l1 (l0.length : Int) x13_1 = some r) ∧ Aside0 (kq ≤ k) ∧ Drawn0 w w')
  case atStart=>exact ⟨(0),(q1_),H', ⟨Nat.le_refl _⟩,q3_⟩
  case round =>
   clear H';try clear c1
   try clear c3
   try clear c3b0
   try clear c3b1
   try clear c3b2
   obtain ⟨x13_1,rfl,HA,HK1,⟨m1,rfl⟩⟩:=hrel;cases gk with
   | zero=>exact absurd HA.out (by simp [laws_pSameSpans.l0])
   | succ k1 =>
    have H:=HA.out;clear HA;simp only [laws_pSameSpans.l0] at H;by_cases c4 : x13_1 < (l0.length : Int)
    ·rw [if_pos c4] at H;have c4b0 : decide (x13_1 < (l0.length : Int)) = true:=decide_eq_true c4;clear c4;by_cases c5 : 0 ≤ x13_1
     ·rw [if_pos c5] at H;have c5b0 : decide (0 ≤ x13_1) = true:=decide_eq_true c5;clear c5;by_cases c6 : x13_1 < (l0.length : Int)
      ·rw [if_pos c6] at H;have c6b0 : decide (x13_1 < (l0.length : Int)) = true:=decide_eq_true c6;clear c6;by_cases c7 : x13_1 < (l1.length : Int)
       ·rw [if_pos c7] at H;have c7b0 : decide (x13_1 < (l1.length : Int)) = true:=decide_eq_true c7;clear c7;by_cases c8 : (!(((rd_T96 l0 x13_1).f0) == ((rd_T96 l1 x13_1).f0)) || (!(((rd_T96 l0 x13_1).f1) == ((rd_T96 l1 x13_1).f1)))) = true
        ·rw [if_pos c8] at H;have c8b0 : (!(((rd_T96 l0 x13_1).f0) == ((rd_T96 l1 x13_1).f0)) || (!(((rd_T96 l0 x13_1).f1) == ((rd_T96 l1 x13_1).f1)))) = true:=c8;clear c8;obtain rfl:=Option.some.inj H;have p101 : 0 ≤ (x13_1 : Int):=of_decide_eq_true (q2_);have q101 : x13_1 < (l0.length : Int):=of_decide_eq_true (q2_);obtain ⟨ad101,e101,hx101_0,hx101_1⟩:=at_T96 HR0.out x13_1 p101 q101;cases e101;replace p101:=eq_true p101;replace q101:=eq_true q101;have p102 : 0 ≤ (x13_1 : Int):=of_decide_eq_true (q2_);have q102 : x13_1 < (l1.length : Int):=of_decide_eq_true (q2_);obtain ⟨ad102,e102,hx102_0,hx102_1⟩:=at_T96 HR1.out x13_1 p102 q102;cases e102;replace p102:=eq_true p102;replace q102:=eq_true q102;go_wp2;repeat (go_quiet (fail);try go_wp2)
         go_ret;exact ⟨q1_,q3_⟩
        ·rw [if_neg c8] at H;have c8b0 : (!(((rd_T96 l0 x13_1).f0) == ((rd_T96 l1 x13_1).f0)) || (!(((rd_T96 l0 x13_1).f1) == ((rd_T96 l1 x13_1).f1)))) = false:=by simpa using c8
         clear c8;have H' := Aside0.mk H;clear H;have p101 : 0 ≤ (x13_1 : Int):=of_decide_eq_true (q2_);have q101 : x13_1 < (l0.length : Int):=of_decide_eq_true (q2_);obtain ⟨ad101,e101,hx101_0,hx101_1⟩:=at_T96 HR0.out x13_1 p101 q101;cases e101;replace p101:=eq_true p101;replace q101:=eq_true q101;have p102 : 0 ≤ (x13_1 : Int):=of_decide_eq_true (q2_);have q102 : x13_1 < (l1.length : Int):=of_decide_eq_true (q2_);obtain ⟨ad102,e102,hx102_0,hx102_1⟩:=at_T96 HR1.out x13_1 p102 q102;cases e102;replace p102:=eq_true p102;replace q102:=eq_true q102;go_wp2;repeat (go_quiet (fail);try go_wp2)
         go_roundg k1
         case measure=>have:=HK1.out;omega
         case rel=>exact ⟨(wrap64 (x13_1 + 1)),(q1_),H', ⟨by have:=HK1.out;omega⟩,q3_⟩
       ·rw [if_neg c7] at H;exact absurd H (by simp)
      ·rw [if_neg c6] at H;exact absurd H (by simp)
     ·rw [if_neg c5] at H;exact absurd H (by simp)
    ·rw [if_neg c4] at H;have c4b0 : decide (x13_1 < (l0.length : Int)) = false:=decide_eq_false c4;clear c4;obtain rfl:=Option.some.inj H;go_wp2;repeat (go_quiet (fail);try go_wp2)
     go_ret;exact ⟨q1_,q3_⟩
 ·rw [if_neg c3] at H;have c3b0 : ((l0.length : Int) == (l1.length : Int)) = false:=beq_eq_false_iff_ne.mpr c3;have c3b1 : ((l0.length : Int) != (l1.length : Int)) = true:=bne_iff_ne.mpr c3;have c3b2 : (l0.length == l1.length) = false:=by first | simpa using c3 | (simp at c3 ⊢;omega)
  obtain rfl:=Option.some.inj H;go_enter Try.func75,Try.ntmps75
  go_wp2;repeat (go_quiet (fail);try go_wp2)
  go_ret;exact ⟨q1_,q3_⟩
/-! ### impl_FrameGlosses: function 76 -/
def impl_FrameGlosses.f (k : Nat) (l0 : List (S58)) (a1 : Int) (a2 : Int) : Option (List ByteArray × Bool):=(impl_IsTier.f k l0).bind fun t101=>(if t101 = true then ((impl_isWindow.f a1 a2).bind fun t102=>(if t102 = true then ((impl_frameGlosses.f k l0 a1 a2).bind fun t103=>(some (t103,true))) else (some (([] : List ByteArray),false)))) else (some (([] : List ByteArray),false)))
set_option maxHeartbeats 8000000 in
set_option maxRecDepth 100000 in
theorem impl_FrameGlosses.calls (k : Nat) (A0 : Option Addr) (c0 : Nat) (l0 : List (S58)) (a1 : Int) (a2 : Int) (r1 : List ByteArray) (r2 : Bool) (w : World) (hr0 : Kd.C k58 w A0 l0.length l0) (hc0 : l0.length ≤ c0) (h : impl_FrameGlosses.f k l0 a1 a2 = some (r1,r2)) :
  Calls Try.prog 76 #[.slice A0 l0.length c0,.int .i64 a1,.int .i64 a2] w fun e w' => ∃ v0_ : Value,e = .returned (.tuple #[v0_,.bool r2]) ∧ Kd.R Kd.string 9 w' w.heap.size (fun _=>True) v0_ r1 ∧ Below w.heap.size w w' := by
 have HR0:=Aside0.mk hr0;have HC0:=Aside0.mk hc0;clear hr0 hc0;have HB:=Aside0.mk (Below.refl w.heap.size w);have H : ((impl_IsTier.f k l0).bind fun t101=>(if t101 = true then ((impl_isWindow.f a1 a2).bind fun t102=>(if t102 = true then ((impl_frameGlosses.f k l0 a1 a2).bind fun t103=>(some (t103,true))) else (some (([] : List ByteArray),false)))) else (some (([] : List ByteArray),false)))) = some (r1,r2):=h;clear h;replace H:=Option.bind_eq_some_iff.mp H;obtain ⟨t101,A40,H⟩:=H;(try dsimp only at H);have A4:=Aside0.mk A40;clear A40;by_cases c5 : t101 = true
 ·subst c5;have H1 : ((impl_isWindow.f a1 a2).bind fun t102=>(if t102 = true then ((impl_frameGlosses.f k l0 a1 a2).bind fun t103=>(some (t103,true))) else (some (([] : List ByteArray),false)))) = some (r1,r2):=by rw [if_pos rfl] at H;exact H
  clear H;have H:=H1;clear H1;replace H:=Option.bind_eq_some_iff.mp H;obtain ⟨t102,A60,H⟩:=H;(try dsimp only at H);have A6:=Aside0.mk A60;clear A60;by_cases c7 : t102 = true
  ·subst c7;have H1 : ((impl_frameGlosses.f k l0 a1 a2).bind fun t103=>(some (t103,true))) = some (r1,r2):=by rw [if_pos rfl] at H;exact H
   clear H;have H:=H1;clear H1;replace H:=Option.bind_eq_some_iff.mp H;obtain ⟨t103,A80,H⟩:=H;(try dsimp only at H);have A8:=Aside0.mk A80;clear A80;simp only [Option.some.injEq,Prod.mk.injEq] at H;obtain ⟨rfl,rfl⟩:=H;go_enter Try.func76,Try.ntmps76
   go_wp2_with (first | ((with_reducible refine gate_callee (f:=46) rfl ?_);refine goesL_ (some 9) rfl rfl Try.func46 (by kernel_rfl) rfl #[.slice A0 l0.length c0] rfl (q20_) ?_;(with_reducible refine (impl_IsTier.calls k _ _ l0 true _ ?side1 ?side2 A4.out).mono ?_);(case side1=>exact cX_ HR0.out);(case side2=>exact HC0.out);rintro e w9 ⟨rfl,hb⟩;refine ⟨_,rfl,?_⟩;replace HB:=bS_ HB hb;(try clear hb)) | (go_at_call 116;(with_reducible refine (impl_isWindow.calls a1 a2 true _ A6.out).mono ?_);rintro e w' ⟨rfl,⟨nd,rfl⟩⟩) | ((with_reducible refine gate_callee (f:=127) rfl ?_);refine goesL_ (some 20) rfl rfl Try.func127 (by kernel_rfl) rfl #[.slice A0 l0.length c0,.int .i64 a1,.int .i64 a2] rfl (q20_) ?_;(with_reducible refine (impl_frameGlosses.calls k _ _ l0 a1 a2 t103 _ ?side1 ?side2 A8.out).mono ?_);(case side1=>repeat (first | exact (Kd.C_below HR0.out (q19_)) | (with_reducible refine Kd.C_alloc ?_ _) | (with_reducible refine Kd.C_drewN ?_ _) | (with_reducible refine Kd.C_drew ?_)));(case side2=>exact HC0.out);rintro e w10 ⟨v104,rfl,ho0,hb⟩;refine ⟨_,rfl,?_⟩;have HO105:=Aside0.mk (Kd.R_lower ho0 (below_size (q19_)));replace HB:=bS_ HB hb;(try clear hb);(try clear ho0)))
   go_ret2
   exact ⟨_,q4_,by (with_reducible repeat (first | apply Kd.R_alloc | apply Kd.R_drewN | apply Kd.R_drew));exact HO105.out,q19_⟩
  ·replace c7:=Bool.eq_false_iff.mpr c7;subst c7;have H1 : (some (([] : List ByteArray),false)) = some (r1,r2):=by rw [if_neg (show ¬ (false = true) by decide)] at H;exact H
   clear H;have H:=H1;clear H1;simp only [Option.some.injEq,Prod.mk.injEq] at H;obtain ⟨rfl,rfl⟩:=H;go_enter Try.func76,Try.ntmps76
   go_wp2_with (first | ((with_reducible refine gate_callee (f:=46) rfl ?_);refine goesL_ (some 9) rfl rfl Try.func46 (by kernel_rfl) rfl #[.slice A0 l0.length c0] rfl (q20_) ?_;(with_reducible refine (impl_IsTier.calls k _ _ l0 true _ ?side1 ?side2 A4.out).mono ?_);(case side1=>exact cX_ HR0.out);(case side2=>exact HC0.out);rintro e w11 ⟨rfl,hb⟩;refine ⟨_,rfl,?_⟩;replace HB:=bS_ HB hb;(try clear hb)) | (go_at_call 116;(with_reducible refine (impl_isWindow.calls a1 a2 false _ A6.out).mono ?_);rintro e w' ⟨rfl,⟨nd,rfl⟩⟩))
   go_ret2
   exact ⟨_,q4_,q21_,q19_⟩
 ·replace c5:=Bool.eq_false_iff.mpr c5;subst c5;have H1 : (some (([] : List ByteArray),false)) = some (r1,r2):=by rw [if_neg (show ¬ (false = true) by decide)] at H;exact H
  clear H;have H:=H1;clear H1;simp only [Option.some.injEq,Prod.mk.injEq] at H;obtain ⟨rfl,rfl⟩:=H;go_enter Try.func76,Try.ntmps76
  go_wp2_with (first | ((with_reducible refine gate_callee (f:=46) rfl ?_);refine goesL_ (some 9) rfl rfl Try.func46 (by kernel_rfl) rfl #[.slice A0 l0.length c0] rfl (q20_) ?_;(with_reducible refine (impl_IsTier.calls k _ _ l0 false _ ?side1 ?side2 A4.out).mono ?_);(case side1=>exact cX_ HR0.out);(case side2=>exact HC0.out);rintro e w12 ⟨rfl,hb⟩;refine ⟨_,rfl,?_⟩;replace HB:=bS_ HB hb;(try clear hb)))
  go_ret2
  exact ⟨_,q4_,q21_,q19_⟩
/-! ### spec_FrameGlosses: function 77 -/
mutual
def spec_FrameGlosses.j0 : Nat → List (S58) → Int → Int → Bool → Option (List ByteArray × Bool)
 | 0,_,_,_,_=>none
 | k + 1,x0,x1,x2,x18=>if x18 = true then (some (([] : List ByteArray),false)) else (spec_FrameGlosses.l0 k x0 x2 ([] : List ByteArray) x1)
def spec_FrameGlosses.l0 : Nat → List (S58) → Int → List ByteArray → Int → Option (List ByteArray × Bool)
 | 0,_,_,_,_=>none
 | k + 1,x0,x2,x8,x9=>if x9 < x2 then ((spec_agGloss.f k x0 x9).bind fun t103=>(if x8.length < 8796093022208 then (spec_FrameGlosses.l0 k x0 x2 (x8 ++ [t103]) (wrap64 (x9 + 1))) else (none))) else (some (x8,true))
end
def spec_FrameGlosses.f (k : Nat) (l0 : List (S58)) (a1 : Int) (a2 : Int) : Option (List ByteArray × Bool):=(spec_tiGood.f k l0).bind fun t101=>(if t101 = true then ((spec_agWindow.f a1 a2).bind fun t102=>(spec_FrameGlosses.j0 k l0 a1 a2 (!t102))) else (spec_FrameGlosses.j0 k l0 a1 a2 true))
set_option maxHeartbeats 8000000 in
set_option maxRecDepth 100000 in
theorem spec_FrameGlosses.calls (k : Nat) (A0 : Option Addr) (c0 : Nat) (l0 : List (S58)) (a1 : Int) (a2 : Int) (r1 : List ByteArray) (r2 : Bool) (w : World) (hr0 : Kd.C k58 w A0 l0.length l0) (hc0 : l0.length ≤ c0) (h : spec_FrameGlosses.f k l0 a1 a2 = some (r1,r2)) :
  Calls Try.prog 77 #[.slice A0 l0.length c0,.int .i64 a1,.int .i64 a2] w fun e w' => ∃ v0_ : Value,e = .returned (.tuple #[v0_,.bool r2]) ∧ Kd.R Kd.string 9 w' w.heap.size (fun _=>True) v0_ r1 ∧ Below w.heap.size w w' := by
 have HR0:=Aside0.mk hr0;have HC0:=Aside0.mk hc0;clear hr0 hc0;have HB:=Aside0.mk (Below.refl w.heap.size w);have H : ((spec_tiGood.f k l0).bind fun t101=>(if t101 = true then ((spec_agWindow.f a1 a2).bind fun t102=>(spec_FrameGlosses.j0 k l0 a1 a2 (!t102))) else (spec_FrameGlosses.j0 k l0 a1 a2 true))) = some (r1,r2):=h;clear h;have HC4:=Aside0.mk H;clear H;go_enter Try.func77,Try.ntmps77
 go_upto_region 1 with (fail)
 go_cut [18] (fun v18 wc=>∃ (kq : Nat) (x18_3 : Bool),v18 = .bool x18_3 ∧ Aside0 (spec_FrameGlosses.j0 kq l0 a1 a2 x18_3 = some (r1,r2)) ∧ Aside0 (kq ≤ k) ∧ Aside0 (Below w.heap.size w wc))
 case first =>
  have H:=HC4.out;clear HC4;replace H:=Option.bind_eq_some_iff.mp H;obtain ⟨t101,A50,H⟩:=H;(try dsimp only at H);have A5:=Aside0.mk A50;clear A50;by_cases c6 : t101 = true
  ·subst c6;have H1 : ((spec_agWindow.f a1 a2).bind fun t102=>(spec_FrameGlosses.j0 k l0 a1 a2 (!t102))) = some (r1,r2):=by rw [if_pos rfl] at H;exact H
   clear H;have H:=H1;clear H1;replace H:=Option.bind_eq_some_iff.mp H;obtain ⟨t102,A70,H⟩:=H;(try dsimp only at H);have A7:=Aside0.mk A70;clear A70;have H' := Aside0.mk H;clear H;go_wp2_with (first | ((with_reducible refine gate_callee (f:=119) rfl ?_);refine goesL_ (some 11) rfl rfl Try.func119 (by kernel_rfl) rfl #[.slice A0 l0.length c0] rfl (q20_) ?_;(with_reducible refine (spec_tiGood.calls k _ _ l0 true _ ?side1 ?side2 A5.out).mono ?_);(case side1=>exact cX_ (Kd.C_below HR0.out HB.out));(case side2=>exact HC0.out);rintro e w8 ⟨rfl,hb⟩;refine ⟨_,rfl,?_⟩;replace HB:=bS_ HB hb;(try clear hb)) | (go_at_call 113;(with_reducible refine (spec_agWindow.calls a1 a2 t102 _ A7.out).mono ?_);rintro e w' ⟨rfl,⟨nd,rfl⟩⟩))
   go_meet
   case rel=>exact ⟨_,(!t102),(q1_),H', ⟨by first | omega | exact Nat.le_refl _⟩,⟨q19_⟩⟩
  ·replace c6:=Bool.eq_false_iff.mpr c6;subst c6;have H1 : (spec_FrameGlosses.j0 k l0 a1 a2 true) = some (r1,r2):=by rw [if_neg (show ¬ (false = true) by decide)] at H;exact H
   clear H;have H:=H1;clear H1;have H' := Aside0.mk H;clear H;go_wp2_with (first | ((with_reducible refine gate_callee (f:=119) rfl ?_);refine goesL_ (some 11) rfl rfl Try.func119 (by kernel_rfl) rfl #[.slice A0 l0.length c0] rfl (q20_) ?_;(with_reducible refine (spec_tiGood.calls k _ _ l0 false _ ?side1 ?side2 A5.out).mono ?_);(case side1=>exact cX_ (Kd.C_below HR0.out HB.out));(case side2=>exact HC0.out);rintro e w9 ⟨rfl,hb⟩;refine ⟨_,rfl,?_⟩;replace HB:=bS_ HB hb;(try clear hb)))
   go_meet
   case rel=>exact ⟨_,(true),(q1_),H', ⟨by first | omega | exact Nat.le_refl _⟩,⟨q19_⟩⟩
 case rest =>
  clear HC4;try clear c6
  obtain ⟨kq,x18_3,rfl,HA,HJ3,HB⟩:=hcut;cases kq with
  | zero=>exact absurd HA.out (by simp [spec_FrameGlosses.j0])
  | succ kj3 =>
   have H:=HA.out;clear HA;simp only [spec_FrameGlosses.j0] at H;by_cases c10 : x18_3 = true
   ·subst c10;have H1 : (some (([] : List ByteArray),false)) = some (r1,r2):=by rw [if_pos rfl] at H;exact H
    clear H;have H:=H1;clear H1;simp only [Option.some.injEq,Prod.mk.injEq] at H;obtain ⟨rfl,rfl⟩:=H;go_wp2;go_ret2
    exact ⟨_,q4_,q21_,q19_⟩
   ·replace c10:=Bool.eq_false_iff.mpr c10;subst c10;have H1 : (spec_FrameGlosses.l0 kj3 l0 a2 ([] : List ByteArray) a1) = some (r1,r2):=by rw [if_neg (show ¬ (false = true) by decide)] at H;exact H
    clear H;have H:=H1;clear H1;have H' := Aside0.mk H;clear H;go_wp2;go_loopg [8,9] kj3 (fun kq v8 v9 w' => ∃ (x8_2 : List ByteArray) (x9_2 : Int),v9 = .int .i64 x9_2 ∧ Aside0 (spec_FrameGlosses.l0 kq l0 a2 x8_2 x9_2 = some (r1,r2)) ∧ Aside0 (kq ≤ kj3) ∧ Aside0 (Kd.R Kd.string 9 w' w.heap.size (fun _=>True) v8 x8_2) ∧ Aside0 (Below w.heap.size w w'))
    case atStart=>exact ⟨(([] : List ByteArray)),(a1),(q1_),H', ⟨Nat.le_refl _⟩,⟨q21_⟩,⟨q19_⟩⟩
    case round =>
     clear H';try clear c6
     try clear c10
     obtain ⟨x8_2,x9_2,rfl,HA,HK2,HO_8,HB⟩:=hrel;cases gk with
     | zero=>exact absurd HA.out (by simp [spec_FrameGlosses.l0])
     | succ k2 =>
      have H:=HA.out;clear HA;simp only [spec_FrameGlosses.l0] at H;by_cases c11 : x9_2 < a2
      ·rw [if_pos c11] at H;have c11b0 : decide (x9_2 < a2) = true:=decide_eq_true c11;clear c11;replace H:=Option.bind_eq_some_iff.mp H;obtain ⟨t103,A120,H⟩:=H;(try dsimp only at H);have A12:=Aside0.mk A120;clear A120;by_cases c13 : x8_2.length < 8796093022208
       ·rw [if_pos c13] at H;have LMc13:=Aside0.mk c13;clear c13;obtain ⟨y104,hy104⟩ : ∃ y_ : List ByteArray,y_ = (x8_2 ++ [t103]):=⟨_,rfl⟩;replace H : (spec_FrameGlosses.l0 k2 l0 a2 y104 (wrap64 (x9_2 + 1))) = some (r1,r2):=by first | (rw [hy104];with_reducible exact H) | (have H2_:=(Option.bind_some _ _).symm.trans H;rw [hy104];with_reducible exact H2_) | (have H2_:=(Option.bind_some _ _).symm.trans H;with_reducible exact H2_) | with_reducible exact H | (rw [hy104];exact H) | exact H
        have Ny104:=Aside0.mk hy104;clear hy104;have H' := Aside0.mk H;clear H;go_wp2_with (first | ((with_reducible refine gate_callee (f:=125) rfl ?_);refine goesL_ (some 28) rfl rfl Try.func125 (by kernel_rfl) rfl #[.slice A0 l0.length c0,.int .i64 x9_2] rfl (q20_) ?_;(with_reducible refine (spec_agGloss.calls k2 _ _ l0 x9_2 t103 _ ?side1 ?side2 A12.out).mono ?_);(case side1=>exact cX_ (Kd.C_below HR0.out HB.out));(case side2=>exact HC0.out);rintro e w14 ⟨rfl,hb⟩;refine ⟨_,rfl,?_⟩;replace HO_8:=rB_ HO_8 hb;replace HB:=bS_ HB hb;(try clear hb);(try clear hk)) | ((with_reducible refine gate_builtin (b:=.append) (xs:=#[.tmp 25,.tmp 29]) rfl ?_);at_builtin;refine Kd.R_append Kd.string (w0:=w) w.heap.size rfl (.tmp 25) (.tmp 29) 97 9 (.string ⟨#[]⟩) 16 rfl Try.underlying97 info9 rfl (by decide) (by omega) u8 x8_2 t103 [.string t103] (fun _=>True) (fun _=>False) rfl rfl ?aP (fun _ hk=>hk.elim) ?aF ?aO ?aB ?aS ?aL ?_;(case aP=>exact rfl);(case aB=>exact (q19_));(case aF=>exact (fun _ _=>trivial));(case aO=>exact (by (with_reducible repeat (first | apply Kd.R_alloc | apply Kd.R_drewN | apply Kd.R_drew));exact HO_8.out));(case aS=>exact (below_size (q19_)));(case aL=>have:=LMc13.out;omega);intro v105 w15 ho hb hg hat;rw [← Ny104.out] at ho;replace HB:=Aside0.mk (hb);have HO106:=Aside0.mk (ho);clear HO_8;clear ho hb hg hat))
        go_roundg k2
        case measure=>have:=HJ3.out;have:=HK2.out;omega
        case rel=>exact ⟨(y104),(wrap64 (x9_2 + 1)),(q1_),H', ⟨by have:=HJ3.out;have:=HK2.out;omega⟩,⟨q9_⟩,⟨q19_⟩⟩
       ·rw [if_neg c13] at H;exact absurd H (by simp)
      ·rw [if_neg c11] at H;have c11b0 : decide (x9_2 < a2) = false:=decide_eq_false c11;clear c11;simp only [Option.some.injEq,Prod.mk.injEq] at H;obtain ⟨rfl,rfl⟩:=H;go_wp2;go_ret2
       exact ⟨_,q4_,by (with_reducible repeat (first | apply Kd.R_alloc | apply Kd.R_drewN | apply Kd.R_drew));exact HO_8.out,q19_⟩
/-! ### laws_pSameTexts: function 78 -/
def laws_pSameTexts.l0 : Nat → List ByteArray → List ByteArray → Int → Int → Option (Bool)
 | 0,_,_,_,_=>none
 | k + 1,x0,x1,x12,x13=>if x13 < x12 then (if 0 ≤ x13 then (if x13 < (x0.length : Int) then (if x13 < (x1.length : Int) then (if (rdOf ByteArray.empty x0 x13).toList = (rdOf ByteArray.empty x1 x13).toList then (laws_pSameTexts.l0 k x0 x1 x12 (wrap64 (x13 + 1))) else (some false)) else (none)) else (none)) else (none)) else (some true)
def laws_pSameTexts.f (k : Nat) (l0 : List ByteArray) (l1 : List ByteArray) : Option (Bool):=if (l0.length : Int) = (l1.length : Int) then (laws_pSameTexts.l0 k l0 l1 (l0.length : Int) 0) else (some false)
set_option maxHeartbeats 8000000 in
set_option maxRecDepth 100000 in
theorem laws_pSameTexts.calls (k : Nat) (A0 : Option Addr) (c0 : Nat) (l0 : List ByteArray) (A1 : Option Addr) (c1 : Nat) (l1 : List ByteArray) (r : Bool) (w : World) (hr0 : Kd.C Kd.string w A0 l0.length l0) (hc0 : l0.length ≤ c0) (hr1 : Kd.C Kd.string w A1 l1.length l1) (hc1 : l1.length ≤ c1) (h : laws_pSameTexts.f k l0 l1 = some r) :
  Calls Try.prog 78 #[.slice A0 l0.length c0,.slice A1 l1.length c1] w fun e w' => e = .returned (.bool r) ∧ Drawn0 w w' := by
 have HR0:=Aside0.mk hr0;have HC0:=Aside0.mk hc0;clear hr0 hc0;have HR1:=Aside0.mk hr1;have HC1:=Aside0.mk hc1;clear hr1 hc1;have H : (if (l0.length : Int) = (l1.length : Int) then (laws_pSameTexts.l0 k l0 l1 (l0.length : Int) 0) else (some false)) = some r:=h;clear h;by_cases c3 : (l0.length : Int) = (l1.length : Int)
 ·rw [if_pos c3] at H;have c3b0 : ((l0.length : Int) == (l1.length : Int)) = true:=beq_iff_eq.mpr c3;have c3b1 : ((l0.length : Int) != (l1.length : Int)) = false:=bne_eq_false_iff_eq.mpr c3;have c3b2 : (l0.length == l1.length) = true:=by first | simpa using c3 | (simp at c3 ⊢;omega)
  clear c3;have H' := Aside0.mk H;clear H;go_enter Try.func78,Try.ntmps78
  go_wp2;repeat (go_quiet (fail);try go_wp2)
  go_loopg [13] k (fun kq v13 w' => ∃ (x13_1 : Int),v13 = .int .i64 x13_1 ∧ Aside0 (laws_pSameTexts.l0 kq l0 l1 (l0.length : Int) x13_1 = some r) ∧ Aside0 (kq ≤ k) ∧ Drawn0 w w')
  case atStart=>exact ⟨(0),(q1_),H', ⟨Nat.le_refl _⟩,q3_⟩
  case round =>
   clear H';try clear c1
   try clear c3
   try clear c3b0
   try clear c3b1
   try clear c3b2
   obtain ⟨x13_1,rfl,HA,HK1,⟨m1,rfl⟩⟩:=hrel;cases gk with
   | zero=>exact absurd HA.out (by simp [laws_pSameTexts.l0])
   | succ k1 =>
    have H:=HA.out;clear HA;simp only [laws_pSameTexts.l0] at H;by_cases c4 : x13_1 < (l0.length : Int)
    ·rw [if_pos c4] at H;have c4b0 : decide (x13_1 < (l0.length : Int)) = true:=decide_eq_true c4;clear c4;by_cases c5 : 0 ≤ x13_1
     ·rw [if_pos c5] at H;have c5b0 : decide (0 ≤ x13_1) = true:=decide_eq_true c5;clear c5;by_cases c6 : x13_1 < (l0.length : Int)
      ·rw [if_pos c6] at H;have c6b0 : decide (x13_1 < (l0.length : Int)) = true:=decide_eq_true c6;clear c6;by_cases c7 : x13_1 < (l1.length : Int)
       ·rw [if_pos c7] at H;have c7b0 : decide (x13_1 < (l1.length : Int)) = true:=decide_eq_true c7;clear c7;by_cases c8 : (rdOf ByteArray.empty l0 x13_1).toList = (rdOf ByteArray.empty l1 x13_1).toList
        ·rw [if_pos c8] at H;have c8b0 : ((rdOf ByteArray.empty l0 x13_1).toList == (rdOf ByteArray.empty l1 x13_1).toList) = true:=beq_iff_eq.mpr c8;have c8b1 : ((rdOf ByteArray.empty l0 x13_1).toList != (rdOf ByteArray.empty l1 x13_1).toList) = false:=bne_eq_false_iff_eq.mpr c8;clear c8;have H' := Aside0.mk H;clear H;have p101 : 0 ≤ (x13_1 : Int):=of_decide_eq_true (q2_);have q101 : x13_1 < (l0.length : Int):=of_decide_eq_true (q2_);obtain ⟨ad101,e101,hx101_0⟩:=Kd.at_string HR0.out x13_1 p101 q101;cases e101;replace p101:=eq_true p101;replace q101:=eq_true q101;have p102 : 0 ≤ (x13_1 : Int):=of_decide_eq_true (q2_);have q102 : x13_1 < (l1.length : Int):=of_decide_eq_true (q2_);obtain ⟨ad102,e102,hx102_0⟩:=Kd.at_string HR1.out x13_1 p102 q102;cases e102;replace p102:=eq_true p102;replace q102:=eq_true q102;go_wp2;repeat (go_quiet (fail);try go_wp2)
         go_roundg k1
         case measure=>have:=HK1.out;omega
         case rel=>exact ⟨(wrap64 (x13_1 + 1)),(q1_),H', ⟨by have:=HK1.out;omega⟩,q3_⟩
        ·rw [if_neg c8] at H;have c8b0 : ((rdOf ByteArray.empty l0 x13_1).toList == (rdOf ByteArray.empty l1 x13_1).toList) = false:=beq_eq_false_iff_ne.mpr c8;have c8b1 : ((rdOf ByteArray.empty l0 x13_1).toList != (rdOf ByteArray.empty l1 x13_1).toList) = true:=bne_iff_ne.mpr c8;obtain rfl:=Option.some.inj H;have p101 : 0 ≤ (x13_1 : Int):=of_decide_eq_true (q2_);have q101 : x13_1 < (l0.length : Int):=of_decide_eq_true (q2_);obtain ⟨ad101,e101,hx101_0⟩:=Kd.at_string HR0.out x13_1 p101 q101;cases e101;replace p101:=eq_true p101;replace q101:=eq_true q101;have p102 : 0 ≤ (x13_1 : Int):=of_decide_eq_true (q2_);have q102 : x13_1 < (l1.length : Int):=of_decide_eq_true (q2_);obtain ⟨ad102,e102,hx102_0⟩:=Kd.at_string HR1.out x13_1 p102 q102;cases e102;replace p102:=eq_true p102;replace q102:=eq_true q102;go_wp2;repeat (go_quiet (fail);try go_wp2)
         go_ret;exact ⟨q1_,q3_⟩
       ·rw [if_neg c7] at H;exact absurd H (by simp)
      ·rw [if_neg c6] at H;exact absurd H (by simp)
     ·rw [if_neg c5] at H;exact absurd H (by simp)
    ·rw [if_neg c4] at H;have c4b0 : decide (x13_1 < (l0.length : Int)) = false:=decide_eq_false c4;clear c4;obtain rfl:=Option.some.inj H;go_wp2;repeat (go_quiet (fail);try go_wp2)
     go_ret;exact ⟨q1_,q3_⟩
 ·rw [if_neg c3] at H;have c3b0 : ((l0.length : Int) == (l1.length : Int)) = false:=beq_eq_false_iff_ne.mpr c3;have c3b1 : ((l0.length : Int) != (l1.length : Int)) = true:=bne_iff_ne.mpr c3;have c3b2 : (l0.length == l1.length) = false:=by first | simpa using c3 | (simp at c3 ⊢;omega)
  obtain rfl:=Option.some.inj H;go_enter Try.func78,Try.ntmps78
  go_wp2;repeat (go_quiet (fail);try go_wp2)
  go_ret;exact ⟨q1_,q3_⟩
/-! ### impl_GlossAt: function 79 -/
def impl_GlossAt.f (k : Nat) (l0 : List (S58)) (a1 : Int) : Option (ByteArray × Bool):=(impl_IsTier.f k l0).bind fun t101=>(if t101 = true then ((impl_isFrame.f a1).bind fun t102=>(if t102 = true then ((impl_glossAt.f l0 a1).bind fun t103=>(some (t103,true))) else (some ((⟨#[]⟩ : ByteArray),false)))) else (some ((⟨#[]⟩ : ByteArray),false)))
set_option maxHeartbeats 8000000 in
set_option maxRecDepth 100000 in
theorem impl_GlossAt.calls (k : Nat) (A0 : Option Addr) (c0 : Nat) (l0 : List (S58)) (a1 : Int) (r1 : ByteArray) (r2 : Bool) (w : World) (hr0 : Kd.C k58 w A0 l0.length l0) (hc0 : l0.length ≤ c0) (h : impl_GlossAt.f k l0 a1 = some (r1,r2)) :
  Calls Try.prog 79 #[.slice A0 l0.length c0,.int .i64 a1] w fun e w' => e = .returned (.tuple #[.string r1,.bool r2]) ∧ Below w.heap.size w w' := by
 have HR0:=Aside0.mk hr0;have HC0:=Aside0.mk hc0;clear hr0 hc0;have HB:=Aside0.mk (Below.refl w.heap.size w);have H : ((impl_IsTier.f k l0).bind fun t101=>(if t101 = true then ((impl_isFrame.f a1).bind fun t102=>(if t102 = true then ((impl_glossAt.f l0 a1).bind fun t103=>(some (t103,true))) else (some ((⟨#[]⟩ : ByteArray),false)))) else (some ((⟨#[]⟩ : ByteArray),false)))) = some (r1,r2):=h;clear h;replace H:=Option.bind_eq_some_iff.mp H;obtain ⟨t101,A30,H⟩:=H;(try dsimp only at H);have A3:=Aside0.mk A30;clear A30;by_cases c4 : t101 = true
 ·subst c4;have H1 : ((impl_isFrame.f a1).bind fun t102=>(if t102 = true then ((impl_glossAt.f l0 a1).bind fun t103=>(some (t103,true))) else (some ((⟨#[]⟩ : ByteArray),false)))) = some (r1,r2):=by rw [if_pos rfl] at H;exact H
  clear H;have H:=H1;clear H1;replace H:=Option.bind_eq_some_iff.mp H;obtain ⟨t102,A50,H⟩:=H;(try dsimp only at H);have A5:=Aside0.mk A50;clear A50;by_cases c6 : t102 = true
  ·subst c6;have H1 : ((impl_glossAt.f l0 a1).bind fun t103=>(some (t103,true))) = some (r1,r2):=by rw [if_pos rfl] at H;exact H
   clear H;have H:=H1;clear H1;replace H:=Option.bind_eq_some_iff.mp H;obtain ⟨t103,A70,H⟩:=H;(try dsimp only at H);have A7:=Aside0.mk A70;clear A70;simp only [Option.some.injEq,Prod.mk.injEq] at H;obtain ⟨rfl,rfl⟩:=H;go_enter Try.func79,Try.ntmps79
   go_wp2_with (first | ((with_reducible refine gate_callee (f:=46) rfl ?_);refine goesL_ (some 7) rfl rfl Try.func46 (by kernel_rfl) rfl #[.slice A0 l0.length c0] rfl (q20_) ?_;(with_reducible refine (impl_IsTier.calls k _ _ l0 true _ ?side1 ?side2 A3.out).mono ?_);(case side1=>exact cX_ HR0.out);(case side2=>exact HC0.out);rintro e w8 ⟨rfl,hb⟩;refine ⟨_,rfl,?_⟩;replace HB:=bS_ HB hb;(try clear hb)) | (go_at_call 149;(with_reducible refine (impl_isFrame.calls a1 true _ A5.out).mono ?_);rintro e w' ⟨rfl,⟨nd,rfl⟩⟩) | ((with_reducible refine gate_callee (f:=182) rfl ?_);refine goesL_ (some 16) rfl rfl Try.func182 (by kernel_rfl) rfl #[.slice A0 l0.length c0,.int .i64 a1] rfl (q20_) ?_;(with_reducible refine (impl_glossAt.calls _ _ l0 a1 t103 _ ?side1 ?side2 A7.out).mono ?_);(case side1=>repeat (first | exact (Kd.C_below HR0.out (q19_)) | (with_reducible refine Kd.C_alloc ?_ _) | (with_reducible refine Kd.C_drewN ?_ _) | (with_reducible refine Kd.C_drew ?_)));(case side2=>exact HC0.out);rintro e w9 ⟨rfl,hb⟩;refine ⟨_,rfl,?_⟩;replace HB:=bS_ HB hb;(try clear hb)))
   go_ret2
   exact ⟨q4_,q19_⟩
  ·replace c6:=Bool.eq_false_iff.mpr c6;subst c6;have H1 : (some ((⟨#[]⟩ : ByteArray),false)) = some (r1,r2):=by rw [if_neg (show ¬ (false = true) by decide)] at H;exact H
   clear H;have H:=H1;clear H1;simp only [Option.some.injEq,Prod.mk.injEq] at H;obtain ⟨rfl,rfl⟩:=H;go_enter Try.func79,Try.ntmps79
   go_wp2_with (first | ((with_reducible refine gate_callee (f:=46) rfl ?_);refine goesL_ (some 7) rfl rfl Try.func46 (by kernel_rfl) rfl #[.slice A0 l0.length c0] rfl (q20_) ?_;(with_reducible refine (impl_IsTier.calls k _ _ l0 true _ ?side1 ?side2 A3.out).mono ?_);(case side1=>exact cX_ HR0.out);(case side2=>exact HC0.out);rintro e w10 ⟨rfl,hb⟩;refine ⟨_,rfl,?_⟩;replace HB:=bS_ HB hb;(try clear hb)) | (go_at_call 149;(with_reducible refine (impl_isFrame.calls a1 false _ A5.out).mono ?_);rintro e w' ⟨rfl,⟨nd,rfl⟩⟩))
   go_ret2
   exact ⟨q4_,q19_⟩
 ·replace c4:=Bool.eq_false_iff.mpr c4;subst c4;have H1 : (some ((⟨#[]⟩ : ByteArray),false)) = some (r1,r2):=by rw [if_neg (show ¬ (false = true) by decide)] at H;exact H
  clear H;have H:=H1;clear H1;simp only [Option.some.injEq,Prod.mk.injEq] at H;obtain ⟨rfl,rfl⟩:=H;go_enter Try.func79,Try.ntmps79
  go_wp2_with (first | ((with_reducible refine gate_callee (f:=46) rfl ?_);refine goesL_ (some 7) rfl rfl Try.func46 (by kernel_rfl) rfl #[.slice A0 l0.length c0] rfl (q20_) ?_;(with_reducible refine (impl_IsTier.calls k _ _ l0 false _ ?side1 ?side2 A3.out).mono ?_);(case side1=>exact cX_ HR0.out);(case side2=>exact HC0.out);rintro e w11 ⟨rfl,hb⟩;refine ⟨_,rfl,?_⟩;replace HB:=bS_ HB hb;(try clear hb)))
  go_ret2
  exact ⟨q4_,q19_⟩
end Go.Proofs.Ytgapcmmhbegdeaa.G
