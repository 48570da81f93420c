-- Written by this session's own program over the kit's print (wip/tools/myprint.py); Lean checks it.
import Derived.Test.YtgapcmmhbegdeaaMBase
import Derived.Test.YtgapcmmhbegdeaaG0
namespace Go.Proofs.Ytgapcmmhbegdeaa.G
open Go.RowKit Go.Proofs.YtgapcmmhbegdeaaW.PrintWords Go.Proofs.YtgapcmmhbegdeaaW.PrintLast Go.Proofs.YtgapcmmhbegdeaaW.PrintMore
attribute [local go_sem] max2_int min2_int max_two min_two max_three min_three max_four min_four str_geq str_gtr str_leq   -- for this text's walks alone
set_option linter.unusedVariables false
set_option linter.unusedSimpArgs false
/-! ### yAc: function 146 -/
def yAc.f (a0 : Int) (a1 : Int) (a2 : Int) : Option (Bool):=if a0 ≥ a1 then (some (decide (a0 ≤ a2))) else (some false)
set_option maxHeartbeats 8000000 in
set_option maxRecDepth 100000 in
theorem yAc.calls (a0 : Int) (a1 : Int) (a2 : Int) (r : Bool) (w : World) (h : yAc.f a0 a1 a2 = some r) :
  Calls Try.prog 146 #[.int .i64 a0,.int .i64 a1,.int .i64 a2] w fun e w' => e = .returned (.bool r) ∧ Drawn0 w w' := by
 have H : (if a0 ≥ a1 then (some (decide (a0 ≤ a2))) else (some false)) = some r:=h;clear h;by_cases c4 : a0 ≥ a1
 ·rw [if_pos c4] at H;have c4b0 : decide (a1 ≤ a0) = true:=decide_eq_true c4;clear c4;obtain rfl:=Option.some.inj H;go_enter Try.func146,Try.ntmps146
  go_wp2;go_ret;exact ⟨q1_,q3_⟩
 ·rw [if_neg c4] at H;have c4b0 : decide (a1 ≤ a0) = false:=decide_eq_false c4;clear c4;obtain rfl:=Option.some.inj H;go_enter Try.func146,Try.ntmps146
  go_wp2;go_ret;exact ⟨q1_,q3_⟩
/-! ### yAj: function 151 -/
def yAj.f (a0 : Int) : Option (Bool):=(yAc.f a0 0 99999).bind fun t101=>(some t101)
set_option maxHeartbeats 8000000 in
set_option maxRecDepth 100000 in
theorem yAj.calls (a0 : Int) (r : Bool) (w : World) (h : yAj.f a0 = some r) :
  Calls Try.prog 151 #[.int .i64 a0] w fun e w' => e = .returned (.bool r) ∧ Drawn0 w w' := by
 have H : ((yAc.f a0 0 99999).bind fun t101=>(some t101)) = some r:=h;clear h;replace H:=Option.bind_eq_some_iff.mp H;obtain ⟨t101,A20,H⟩:=H;(try dsimp only at H);have A2:=Aside0.mk A20;clear A20;obtain rfl:=Option.some.inj H;go_enter Try.func151,Try.ntmps151
 go_wp2_with (first | ((with_reducible refine gate_callee (f:=146) rfl ?_);refine goesL_ (some 4) rfl rfl Try.func146 (by kernel_rfl) rfl #[.int .i64 a0,.int .i64 0,.int .i64 99999] rfl (q30_) ?_;(with_reducible refine (yAc.calls a0 0 99999 t101 _ A2.out).mono ?_);rintro e w' ⟨rfl,⟨nd,rfl⟩⟩;refine ⟨_,rfl,?_⟩))
 go_ret;exact ⟨q1_,q3_⟩
/-! ### yAe: function 257 -/
def yAe.l0 : Nat → ByteArray → Int → Option (Bool)
 | 0,_,_=>none
 | k + 1,x0,x3=>if x3 < (x0.size : Int) then (if 0 ≤ x3 then (if (bt x0 x3) < 65 then (some false) else (if (bt x0 x3) > 90 then (some false) else (yAe.l0 k x0 (wrap64 (x3 + 1))))) else (none)) else ((yAc.f (x0.size : Int) 1 8).bind fun t101=>(some t101))
def yAe.f (k : Nat) (a0 : ByteArray) : Option (Bool):=yAe.l0 k a0 0
set_option maxHeartbeats 8000000 in
set_option maxRecDepth 100000 in
theorem yAe.calls (k : Nat) (a0 : ByteArray) (r : Bool) (w : World) (h : yAe.f k a0 = some r) :
  Calls Try.prog 257 #[.string a0] w fun e w' => e = .returned (.bool r) ∧ Drawn0 w w' := by
 have H : (yAe.l0 k a0 0) = some r:=h;clear h;have H' := Aside0.mk H;clear H;go_enter Try.func257,Try.ntmps257
 go_wp2;go_loopg [3] k (fun kq v3 w' => ∃ (x3_1 : Int),v3 = .int .i64 x3_1 ∧ Aside0 (yAe.l0 kq a0 x3_1 = some r) ∧ Aside0 (kq ≤ k) ∧ Drawn0 w w')
 case atStart=>exact ⟨(0),(q1_),H', ⟨Nat.le_refl _⟩,q3_⟩
 case round =>
  clear H';obtain ⟨x3_1,rfl,HA,HK1,⟨m1,rfl⟩⟩:=hrel;cases gk with
  | zero=>exact absurd HA.out (by simp [yAe.l0])
  | succ k1 =>
   have H:=HA.out;clear HA;simp only [yAe.l0] at H;by_cases c2 : x3_1 < (a0.size : Int)
   ·rw [if_pos c2] at H;have c2b0:=decide_eq_true c2;clear c2;by_cases c3 : 0 ≤ x3_1
    ·rw [if_pos c3] at H;have c3b0:=decide_eq_true c3;clear c3;by_cases c5 : (bt a0 x3_1) < 65
     ·rw [if_pos c5] at H;have c5b0:=decide_eq_true c5;clear c5;obtain rfl:=Option.some.inj H;have p4 : 0 ≤ (x3_1 : Int):=of_decide_eq_true (q2_);have q4 : x3_1 < (a0.size : Int):=of_decide_eq_true (q2_);have hx4:=bt_at a0 x3_1;replace p4:=eq_true p4;replace q4:=eq_true q4;go_wp2;go_ret;exact ⟨q1_,q3_⟩
     ·rw [if_neg c5] at H;have c5b0:=decide_eq_false c5;clear c5;by_cases c7 : (bt a0 x3_1) > 90
      ·rw [if_pos c7] at H;have c7b0 : decide (90 < (bt a0 x3_1)) = true:=decide_eq_true c7;clear c7;obtain rfl:=Option.some.inj H;have p4 : 0 ≤ (x3_1 : Int):=of_decide_eq_true (q2_);have q4 : x3_1 < (a0.size : Int):=of_decide_eq_true (q2_);have hx4:=bt_at a0 x3_1;replace p4:=eq_true p4;replace q4:=eq_true q4;have p6 : 0 ≤ (x3_1 : Int):=of_decide_eq_true (q2_);have q6 : x3_1 < (a0.size : Int):=of_decide_eq_true (q2_);have hx6:=bt_at a0 x3_1;replace p6:=eq_true p6;replace q6:=eq_true q6;go_wp2;go_ret;exact ⟨q1_,q3_⟩
      ·rw [if_neg c7] at H;have c7b0 : decide (90 < (bt a0 x3_1)) = false:=decide_eq_false c7;clear c7;have H' := Aside0.mk H;clear H;have p4 : 0 ≤ (x3_1 : Int):=of_decide_eq_true (q2_);have q4 : x3_1 < (a0.size : Int):=of_decide_eq_true (q2_);have hx4:=bt_at a0 x3_1;replace p4:=eq_true p4;replace q4:=eq_true q4;have p6 : 0 ≤ (x3_1 : Int):=of_decide_eq_true (q2_);have q6 : x3_1 < (a0.size : Int):=of_decide_eq_true (q2_);have hx6:=bt_at a0 x3_1;replace p6:=eq_true p6;replace q6:=eq_true q6;go_wp2;go_roundg k1
       case measure=>have:=HK1.out;omega
       case rel=>exact ⟨(wrap64 (x3_1 + 1)),(q1_),H', ⟨by have:=HK1.out;omega⟩,q3_⟩
    ·rw [if_neg c3] at H;exact absurd H (by simp)
   ·rw [if_neg c2] at H;have c2b0:=decide_eq_false c2;clear c2;replace H:=Option.bind_eq_some_iff.mp H;obtain ⟨t101,A80,H⟩:=H;(try dsimp only at H);have A8:=Aside0.mk A80;clear A80;obtain rfl:=Option.some.inj H;go_wp2_with (first | ((with_reducible refine gate_callee (f:=146) rfl ?_);refine goesL_ (some 22) rfl rfl Try.func146 (by kernel_rfl) rfl #[.int .i64 (a0.size : Int),.int .i64 1,.int .i64 8] rfl (q30_) ?_;(with_reducible refine (yAc.calls (a0.size : Int) 1 8 t101 _ A8.out).mono ?_);rintro e w' ⟨rfl,⟨nd,rfl⟩⟩;refine ⟨_,rfl,?_⟩))
    go_ret;exact ⟨q1_,q3_⟩
/-! ### yA1: function 214 -/
def yA1.f (k : Nat) (a0_0 : Int) (a0_1 : Int) (a0_2 : ByteArray) : Option (Bool):=(yAj.f a0_0).bind fun t102=>(if t102 = true then ((yAj.f a0_1).bind fun t103=>(if t103 = true then (if a0_0 < a0_1 then ((yAe.f k a0_2).bind fun t104=>(some t104)) else (some false)) else (some false))) else (some false))
set_option maxHeartbeats 8000000 in
set_option maxRecDepth 100000 in
theorem yA1.calls (k : Nat) (a0_0 : Int) (a0_1 : Int) (a0_2 : ByteArray) (r : Bool) (w : World) (h : yA1.f k a0_0 a0_1 a0_2 = some r) :
  Calls Try.prog 214 #[.agg #[.int .i64 a0_0,.int .i64 a0_1,.string a0_2]] w fun e w' => e = .returned (.bool r) ∧ Below w.heap.size w w' := by
 have hu58:=Try.underlying58;have HB:=Aside0.mk (Below.refl w.heap.size w);have H : ((yAj.f a0_0).bind fun t102=>(if t102 = true then ((yAj.f a0_1).bind fun t103=>(if t103 = true then (if a0_0 < a0_1 then ((yAe.f k a0_2).bind fun t104=>(some t104)) else (some false)) else (some false))) else (some false))) = some r:=h;clear h;replace H:=Option.bind_eq_some_iff.mp H;obtain ⟨t102,A20,H⟩:=H;(try dsimp only at H);have A2:=Aside0.mk A20;clear A20;by_cases c3 : t102 = true
 ·subst c3;rw [if_pos rfl] at H;replace H:=Option.bind_eq_some_iff.mp H;obtain ⟨t103,A40,H⟩:=H;(try dsimp only at H);have A4:=Aside0.mk A40;clear A40;by_cases c5 : t103 = true
  ·subst c5;rw [if_pos rfl] at H;by_cases c6 : a0_0 < a0_1
   ·rw [if_pos c6] at H;have c6b0:=decide_eq_true c6;clear c6;replace H:=Option.bind_eq_some_iff.mp H;obtain ⟨t104,A70,H⟩:=H;(try dsimp only at H);have A7:=Aside0.mk A70;clear A70;obtain rfl:=Option.some.inj H;go_enter Try.func214,Try.ntmps214
    go_wp2_with (first | ((with_reducible refine gate_dst (N:=1) rfl ?_);refine box_event ?hg (N:=1) ?hd (cs:=#[.int .i64 a0_0,.int .i64 a0_1,.string a0_2]) (t:=58) ?hr ?_;(case hd=>rfl);(case hg=>rfl);(case hr=>first | (go_simp;done) | (go_simp;rfl));intro gb101 hg w8 hbox hb;have BK101:=Aside0.mk (hbox);have GW101:=Aside0.mk ((q67_ : w.heap.size ≤ gb101));have GE101:=Aside0.mk ((q67_ : w.heap.size ≤ gb101));replace HB:=bS_ HB hb;clear hb hbox hg;obtain ⟨hcz9_0,hcz9_1,hcz9_2,hfz9_0,hfz9_1,hfz9_2⟩:=bx3_ BK101.out) | ((with_reducible refine gate_callee (f:=151) rfl ?_);refine goesL_ (some 5) rfl rfl Try.func151 (by kernel_rfl) rfl #[.int .i64 a0_0] rfl (q30_) ?_;(with_reducible refine (yAj.calls a0_0 true _ A2.out).mono ?_);rintro e w' ⟨rfl,⟨nd,rfl⟩⟩;refine ⟨_,rfl,?_⟩) | (go_at_call 151;(with_reducible refine (yAj.calls a0_1 true _ A4.out).mono ?_);rintro e w' ⟨rfl,⟨nd,rfl⟩⟩) | (go_at_call 257;(with_reducible refine (yAe.calls k a0_2 t104 _ A7.out).mono ?_);rintro e w' ⟨rfl,⟨nd,rfl⟩⟩))
    go_ret;exact ⟨q4_,q35_⟩
   ·rw [if_neg c6] at H;have c6b0:=decide_eq_false c6;clear c6;obtain rfl:=Option.some.inj H;go_enter Try.func214,Try.ntmps214
    go_wp2_with (first | ((with_reducible refine gate_dst (N:=1) rfl ?_);refine box_event ?hg (N:=1) ?hd (cs:=#[.int .i64 a0_0,.int .i64 a0_1,.string a0_2]) (t:=58) ?hr ?_;(case hd=>rfl);(case hg=>rfl);(case hr=>first | (go_simp;done) | (go_simp;rfl));intro gb101 hg w10 hbox hb;have BK101:=Aside0.mk (hbox);have GW101:=Aside0.mk ((q67_ : w.heap.size ≤ gb101));have GE101:=Aside0.mk ((q67_ : w.heap.size ≤ gb101));replace HB:=bS_ HB hb;clear hb hbox hg;obtain ⟨hcz11_0,hcz11_1,hcz11_2,hfz11_0,hfz11_1,hfz11_2⟩:=bx3_ BK101.out) | ((with_reducible refine gate_callee (f:=151) rfl ?_);refine goesL_ (some 5) rfl rfl Try.func151 (by kernel_rfl) rfl #[.int .i64 a0_0] rfl (q30_) ?_;(with_reducible refine (yAj.calls a0_0 true _ A2.out).mono ?_);rintro e w' ⟨rfl,⟨nd,rfl⟩⟩;refine ⟨_,rfl,?_⟩) | (go_at_call 151;(with_reducible refine (yAj.calls a0_1 true _ A4.out).mono ?_);rintro e w' ⟨rfl,⟨nd,rfl⟩⟩))
    go_ret;exact ⟨q4_,q35_⟩
  ·replace c5:=Bool.eq_false_iff.mpr c5;subst c5;rw [if_neg (show ¬ (false = true) by decide)] at H;obtain rfl:=Option.some.inj H;go_enter Try.func214,Try.ntmps214
   go_wp2_with (first | ((with_reducible refine gate_dst (N:=1) rfl ?_);refine box_event ?hg (N:=1) ?hd (cs:=#[.int .i64 a0_0,.int .i64 a0_1,.string a0_2]) (t:=58) ?hr ?_;(case hd=>rfl);(case hg=>rfl);(case hr=>first | (go_simp;done) | (go_simp;rfl));intro gb101 hg w12 hbox hb;have BK101:=Aside0.mk (hbox);have GW101:=Aside0.mk ((q67_ : w.heap.size ≤ gb101));have GE101:=Aside0.mk ((q67_ : w.heap.size ≤ gb101));replace HB:=bS_ HB hb;clear hb hbox hg;obtain ⟨hcz13_0,hcz13_1,hcz13_2,hfz13_0,hfz13_1,hfz13_2⟩:=bx3_ BK101.out) | ((with_reducible refine gate_callee (f:=151) rfl ?_);refine goesL_ (some 5) rfl rfl Try.func151 (by kernel_rfl) rfl #[.int .i64 a0_0] rfl (q30_) ?_;(with_reducible refine (yAj.calls a0_0 true _ A2.out).mono ?_);rintro e w' ⟨rfl,⟨nd,rfl⟩⟩;refine ⟨_,rfl,?_⟩) | (go_at_call 151;(with_reducible refine (yAj.calls a0_1 false _ A4.out).mono ?_);rintro e w' ⟨rfl,⟨nd,rfl⟩⟩))
   go_ret;exact ⟨q4_,q35_⟩
 ·replace c3:=Bool.eq_false_iff.mpr c3;subst c3;rw [if_neg (show ¬ (false = true) by decide)] at H;obtain rfl:=Option.some.inj H;go_enter Try.func214,Try.ntmps214
  go_wp2_with (first | ((with_reducible refine gate_dst (N:=1) rfl ?_);refine box_event ?hg (N:=1) ?hd (cs:=#[.int .i64 a0_0,.int .i64 a0_1,.string a0_2]) (t:=58) ?hr ?_;(case hd=>rfl);(case hg=>rfl);(case hr=>first | (go_simp;done) | (go_simp;rfl));intro gb101 hg w14 hbox hb;have BK101:=Aside0.mk (hbox);have GW101:=Aside0.mk ((q67_ : w.heap.size ≤ gb101));have GE101:=Aside0.mk ((q67_ : w.heap.size ≤ gb101));replace HB:=bS_ HB hb;clear hb hbox hg;obtain ⟨hcz15_0,hcz15_1,hcz15_2,hfz15_0,hfz15_1,hfz15_2⟩:=bx3_ BK101.out) | ((with_reducible refine gate_callee (f:=151) rfl ?_);refine goesL_ (some 5) rfl rfl Try.func151 (by kernel_rfl) rfl #[.int .i64 a0_0] rfl (q30_) ?_;(with_reducible refine (yAj.calls a0_0 false _ A2.out).mono ?_);rintro e w' ⟨rfl,⟨nd,rfl⟩⟩;refine ⟨_,rfl,?_⟩))
  go_ret;exact ⟨q4_,q35_⟩
end Go.Proofs.Ytgapcmmhbegdeaa.G
