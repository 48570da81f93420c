-- Written by this session's own program over the kit's print (wip/tools/myprint.py); Lean checks it.
import Derived.Test.YtgapcmmhbegdeaaMBase
import Derived.Test.YtgapcmmhbegdeaaG0
import Derived.Test.YtgapcmmhbegdeaaG2
import Derived.Test.YtgapcmmhbegdeaaG6
import Derived.Test.YtgapcmmhbegdeaaG8
namespace Go.Proofs.Ytgapcmmhbegdeaa.G
open Go.RowKit Go.Proofs.YtgapcmmhbegdeaaW.PrintWords Go.Proofs.YtgapcmmhbegdeaaW.PrintLast Go.Proofs.YtgapcmmhbegdeaaW.PrintMore
attribute [local go_sem] max2_int min2_int max_two min_two max_three min_three max_four min_four str_geq str_gtr str_leq   -- for this text's walks alone
set_option linter.unusedVariables false
set_option linter.unusedSimpArgs false
/-! ### yAp: function 185 -/
def yAp.f (a0 : Int) : Option (Bool):=(yAc.f a0 0 99999).bind fun t101=>(some t101)
set_option maxHeartbeats 8000000 in
set_option maxRecDepth 100000 in
theorem yAp.calls (a0 : Int) (r : Bool) (w : World) (h : yAp.f a0 = some r) :
  Calls Try.prog 185 #[.int .i64 a0] w fun e w' => e = .returned (.bool r) ∧ Drawn0 w w' := by
 have H : ((yAc.f a0 0 99999).bind fun t101=>(some t101)) = some r:=h;clear h;replace H:=Option.bind_eq_some_iff.mp H;obtain ⟨t101,A20,H⟩:=H;(try dsimp only at H);have A2:=Aside0.mk A20;clear A20;obtain rfl:=Option.some.inj H;go_enter Try.func185,Try.ntmps185
 go_wp2_with (first | ((with_reducible refine gate_callee (f:=146) rfl ?_);refine goesL_ (some 4) rfl rfl Try.func146 (by kernel_rfl) rfl #[.int .i64 a0,.int .i64 0,.int .i64 99999] rfl (q30_) ?_;(with_reducible refine (yAc.calls a0 0 99999 t101 _ A2.out).mono ?_);rintro e w' ⟨rfl,⟨nd,rfl⟩⟩;refine ⟨_,rfl,?_⟩))
 go_ret;exact ⟨q1_,q3_⟩
/-! ### yAs: function 113 -/
def yAs.f (a0 : Int) (a1 : Int) : Option (Bool):=(yAp.f a0).bind fun t101=>(if t101 = true then ((yAp.f a1).bind fun t102=>(if t102 = true then ((yAc.f (wrap64 (a1 - a0)) 1 200).bind fun t103=>(some t103)) else (some false))) else (some false))
set_option maxHeartbeats 8000000 in
set_option maxRecDepth 100000 in
theorem yAs.calls (a0 : Int) (a1 : Int) (r : Bool) (w : World) (h : yAs.f a0 a1 = some r) :
  Calls Try.prog 113 #[.int .i64 a0,.int .i64 a1] w fun e w' => e = .returned (.bool r) ∧ Drawn0 w w' := by
 have H : ((yAp.f a0).bind fun t101=>(if t101 = true then ((yAp.f a1).bind fun t102=>(if t102 = true then ((yAc.f (wrap64 (a1 - a0)) 1 200).bind fun t103=>(some t103)) else (some false))) else (some false))) = some r:=h;clear h;replace H:=Option.bind_eq_some_iff.mp H;obtain ⟨t101,A30,H⟩:=H;(try dsimp only at H);have A3:=Aside0.mk A30;clear A30;by_cases c4 : t101 = true
 ·subst c4;rw [if_pos rfl] at H;replace H:=Option.bind_eq_some_iff.mp H;obtain ⟨t102,A50,H⟩:=H;(try dsimp only at H);have A5:=Aside0.mk A50;clear A50;by_cases c6 : t102 = true
  ·subst c6;rw [if_pos rfl] at H;replace H:=Option.bind_eq_some_iff.mp H;obtain ⟨t103,A70,H⟩:=H;(try dsimp only at H);have A7:=Aside0.mk A70;clear A70;obtain rfl:=Option.some.inj H;go_enter Try.func113,Try.ntmps113
   go_wp2_with (first | ((with_reducible refine gate_callee (f:=185) rfl ?_);refine goesL_ (some 6) rfl rfl Try.func185 (by kernel_rfl) rfl #[.int .i64 a0] rfl (q30_) ?_;(with_reducible refine (yAp.calls a0 true _ A3.out).mono ?_);rintro e w' ⟨rfl,⟨nd,rfl⟩⟩;refine ⟨_,rfl,?_⟩) | (go_at_call 185;(with_reducible refine (yAp.calls a1 true _ A5.out).mono ?_);rintro e w' ⟨rfl,⟨nd,rfl⟩⟩) | (go_at_call 146;(with_reducible refine (yAc.calls (wrap64 (a1 - a0)) 1 200 t103 _ A7.out).mono ?_);rintro e w' ⟨rfl,⟨nd,rfl⟩⟩))
   go_ret;exact ⟨q1_,q3_⟩
  ·replace c6:=Bool.eq_false_iff.mpr c6;subst c6;rw [if_neg (show ¬ (false = true) by decide)] at H;obtain rfl:=Option.some.inj H;go_enter Try.func113,Try.ntmps113
   go_wp2_with (first | ((with_reducible refine gate_callee (f:=185) rfl ?_);refine goesL_ (some 6) rfl rfl Try.func185 (by kernel_rfl) rfl #[.int .i64 a0] rfl (q30_) ?_;(with_reducible refine (yAp.calls a0 true _ A3.out).mono ?_);rintro e w' ⟨rfl,⟨nd,rfl⟩⟩;refine ⟨_,rfl,?_⟩) | (go_at_call 185;(with_reducible refine (yAp.calls a1 false _ A5.out).mono ?_);rintro e w' ⟨rfl,⟨nd,rfl⟩⟩))
   go_ret;exact ⟨q1_,q3_⟩
 ·replace c4:=Bool.eq_false_iff.mpr c4;subst c4;rw [if_neg (show ¬ (false = true) by decide)] at H;obtain rfl:=Option.some.inj H;go_enter Try.func113,Try.ntmps113
  go_wp2_with (first | ((with_reducible refine gate_callee (f:=185) rfl ?_);refine goesL_ (some 6) rfl rfl Try.func185 (by kernel_rfl) rfl #[.int .i64 a0] rfl (q30_) ?_;(with_reducible refine (yAp.calls a0 false _ A3.out).mono ?_);rintro e w' ⟨rfl,⟨nd,rfl⟩⟩;refine ⟨_,rfl,?_⟩))
  go_ret;exact ⟨q1_,q3_⟩
/-! ### yAR: function 125 -/
def yAR.l0 : Nat → Int → List (S58) → Int → Int → Option (ByteArray)
 | 0,_,_,_,_=>none
 | k + 1,x1,x7,x8,x9=>if x9 < x8 then (if 0 ≤ x9 then (if x9 < (x7.length : Int) then (if ((rd_T58 x7 x9).f0) ≤ x1 then (if x1 < ((rd_T58 x7 x9).f1) then (some ((rd_T58 x7 x9).f2)) else (yAR.l0 k x1 x7 x8 (wrap64 (x9 + 1)))) else (yAR.l0 k x1 x7 x8 (wrap64 (x9 + 1)))) else (none)) else (none)) else (some (⟨#[]⟩ : ByteArray))
def yAR.f (k : Nat) (l0 : List (S58)) (a1 : Int) : Option (ByteArray):=yAR.l0 k a1 l0 (l0.length : Int) 0
set_option maxHeartbeats 8000000 in
set_option maxRecDepth 100000 in
theorem yAR.calls (k : Nat) (A0 : Option Addr) (c0 : Nat) (l0 : List (S58)) (a1 : Int) (r : ByteArray) (w : World) (hr0 : Kd.C k58 w A0 l0.length l0) (hc0 : l0.length ≤ c0) (h : yAR.f k l0 a1 = some r) :
  Calls Try.prog 125 #[.slice A0 l0.length c0,.int .i64 a1] w fun e w' => e = .returned (.string r) ∧ Below w.heap.size w w' := by
 have hu58:=Try.underlying58;have HR0:=Aside0.mk hr0;have HC0:=Aside0.mk hc0;clear hr0 hc0;have HB:=Aside0.mk (Below.refl w.heap.size w);have H : (yAR.l0 k a1 l0 (l0.length : Int) 0) = some r:=h;clear h;have H' := Aside0.mk H;clear H;go_enter Try.func125,Try.ntmps125
 go_wp2;go_loopg [9] k (fun kq v9 w' => ∃ (x9_1 : Int),v9 = .int .i64 x9_1 ∧ Aside0 (yAR.l0 kq a1 l0 (l0.length : Int) x9_1 = some r) ∧ Aside0 (kq ≤ k) ∧ Aside0 (Below w.heap.size w w'))
 case atStart=>exact ⟨(0),(q1_),H', ⟨Nat.le_refl _⟩,⟨q29_⟩⟩
 case round =>
  clear H';obtain ⟨x9_1,rfl,HA,HK1,HB⟩:=hrel;cases gk with
  | zero=>exact absurd HA.out (by simp [yAR.l0])
  | succ k1 =>
   have H:=HA.out;clear HA;simp only [yAR.l0] at H;by_cases c3 : x9_1 < (l0.length : Int)
   ·rw [if_pos c3] at H;have c3b0:=decide_eq_true c3;clear c3;by_cases c4 : 0 ≤ x9_1
    ·rw [if_pos c4] at H;have c4b0:=decide_eq_true c4;clear c4;by_cases c5 : x9_1 < (l0.length : Int)
     ·rw [if_pos c5] at H;have c5b0:=decide_eq_true c5;clear c5;by_cases c6 : ((rd_T58 l0 x9_1).f0) ≤ a1
      ·rw [if_pos c6] at H;have c6b0:=decide_eq_true c6;clear c6;by_cases c7 : a1 < ((rd_T58 l0 x9_1).f1)
       ·rw [if_pos c7] at H;have c7b0:=decide_eq_true c7;clear c7;obtain rfl:=Option.some.inj H;have p101 : 0 ≤ (x9_1 : Int):=of_decide_eq_true (q2_);have q101 : x9_1 < (l0.length : Int):=of_decide_eq_true (q2_);obtain ⟨ad101,e101,hx101_0,hx101_1,hx101_2⟩:=at_T58 HR0.out x9_1 p101 q101;cases e101;replace hx101_0:=hB_ HB.out hx101_0;replace hx101_1:=hB_ HB.out hx101_1;replace hx101_2:=hB_ HB.out hx101_2;replace p101:=eq_true p101;replace q101:=eq_true q101;go_wp2_with (first | ((with_reducible refine gate_dst (N:=6) rfl ?_);refine box_event ?hg (N:=6) ?hd (cs:=#[.int .i64 0,.int .i64 0,.string (⟨#[]⟩ : ByteArray)]) (t:=58) ?hr ?_;(case hd=>rfl);(case hg=>rfl);(case hr=>first | (go_simp;done) | (go_simp;rfl));intro gb102 hg w8 hbox hb;have BK102:=Aside0.mk (hbox);have GW102:=Aside0.mk ((q67_ : w.heap.size ≤ gb102));have GE102:=Aside0.mk ((q67_ : w.heap.size ≤ gb102));replace HB:=bS_ HB hb;clear hb hbox hg;obtain ⟨hcz9_0,hcz9_1,hcz9_2,hfz9_0,hfz9_1,hfz9_2⟩:=bx3_ BK102.out))
        go_ret;exact ⟨q4_,q34_⟩
       ·rw [if_neg c7] at H;have c7b0:=decide_eq_false c7;clear c7;have H' := Aside0.mk H;clear H;have p101 : 0 ≤ (x9_1 : Int):=of_decide_eq_true (q2_);have q101 : x9_1 < (l0.length : Int):=of_decide_eq_true (q2_);obtain ⟨ad101,e101,hx101_0,hx101_1,hx101_2⟩:=at_T58 HR0.out x9_1 p101 q101;cases e101;replace hx101_0:=hB_ HB.out hx101_0;replace hx101_1:=hB_ HB.out hx101_1;replace hx101_2:=hB_ HB.out hx101_2;replace p101:=eq_true p101;replace q101:=eq_true q101;go_wp2_with (first | ((with_reducible refine gate_dst (N:=6) rfl ?_);refine box_event ?hg (N:=6) ?hd (cs:=#[.int .i64 0,.int .i64 0,.string (⟨#[]⟩ : ByteArray)]) (t:=58) ?hr ?_;(case hd=>rfl);(case hg=>rfl);(case hr=>first | (go_simp;done) | (go_simp;rfl));intro gb102 hg w10 hbox hb;have BK102:=Aside0.mk (hbox);have GW102:=Aside0.mk ((q67_ : w.heap.size ≤ gb102));have GE102:=Aside0.mk ((q67_ : w.heap.size ≤ gb102));replace HB:=bS_ HB hb;clear hb hbox hg;obtain ⟨hcz11_0,hcz11_1,hcz11_2,hfz11_0,hfz11_1,hfz11_2⟩:=bx3_ BK102.out))
        go_roundg k1
        case measure=>have:=HK1.out;omega
        case rel=>exact ⟨(wrap64 (x9_1 + 1)),(q1_),H', ⟨by have:=HK1.out;omega⟩,⟨q34_⟩⟩
      ·rw [if_neg c6] at H;have c6b0:=decide_eq_false c6;clear c6;have H' := Aside0.mk H;clear H;have p101 : 0 ≤ (x9_1 : Int):=of_decide_eq_true (q2_);have q101 : x9_1 < (l0.length : Int):=of_decide_eq_true (q2_);obtain ⟨ad101,e101,hx101_0,hx101_1,hx101_2⟩:=at_T58 HR0.out x9_1 p101 q101;cases e101;replace hx101_0:=hB_ HB.out hx101_0;replace hx101_1:=hB_ HB.out hx101_1;replace hx101_2:=hB_ HB.out hx101_2;replace p101:=eq_true p101;replace q101:=eq_true q101;go_wp2_with (first | ((with_reducible refine gate_dst (N:=6) rfl ?_);refine box_event ?hg (N:=6) ?hd (cs:=#[.int .i64 0,.int .i64 0,.string (⟨#[]⟩ : ByteArray)]) (t:=58) ?hr ?_;(case hd=>rfl);(case hg=>rfl);(case hr=>first | (go_simp;done) | (go_simp;rfl));intro gb102 hg w12 hbox hb;have BK102:=Aside0.mk (hbox);have GW102:=Aside0.mk ((q67_ : w.heap.size ≤ gb102));have GE102:=Aside0.mk ((q67_ : w.heap.size ≤ gb102));replace HB:=bS_ HB hb;clear hb hbox hg;obtain ⟨hcz13_0,hcz13_1,hcz13_2,hfz13_0,hfz13_1,hfz13_2⟩:=bx3_ BK102.out))
       go_roundg k1
       case measure=>have:=HK1.out;omega
       case rel=>exact ⟨(wrap64 (x9_1 + 1)),(q1_),H', ⟨by have:=HK1.out;omega⟩,⟨q34_⟩⟩
     ·rw [if_neg c5] at H;exact absurd H (by simp)
    ·rw [if_neg c4] at H;exact absurd H (by simp)
   ·rw [if_neg c3] at H;have c3b0:=decide_eq_false c3;clear c3;obtain rfl:=Option.some.inj H;go_wp2;go_ret;exact ⟨q4_,q29_⟩
/-! ### yA3: function 213 -/
def yA3.f (a0 : Int) (a1 : Int) : Option (Bool):=(yAT.f a0).bind fun t101=>(if t101 = true then ((yAT.f a1).bind fun t102=>(if t102 = true then (some (decide (a0 < a1))) else (some false))) else (some false))
set_option maxHeartbeats 8000000 in
set_option maxRecDepth 100000 in
theorem yA3.calls (a0 : Int) (a1 : Int) (r : Bool) (w : World) (h : yA3.f a0 a1 = some r) :
  Calls Try.prog 213 #[.int .i64 a0,.int .i64 a1] w fun e w' => e = .returned (.bool r) ∧ Drawn0 w w' := by
 have H : ((yAT.f a0).bind fun t101=>(if t101 = true then ((yAT.f a1).bind fun t102=>(if t102 = true then (some (decide (a0 < a1))) else (some false))) else (some false))) = some r:=h;clear h;replace H:=Option.bind_eq_some_iff.mp H;obtain ⟨t101,A30,H⟩:=H;(try dsimp only at H);have A3:=Aside0.mk A30;clear A30;by_cases c4 : t101 = true
 ·subst c4;rw [if_pos rfl] at H;replace H:=Option.bind_eq_some_iff.mp H;obtain ⟨t102,A50,H⟩:=H;(try dsimp only at H);have A5:=Aside0.mk A50;clear A50;by_cases c6 : t102 = true
  ·subst c6;rw [if_pos rfl] at H;obtain rfl:=Option.some.inj H;go_enter Try.func213,Try.ntmps213
   go_wp2_with (first | ((with_reducible refine gate_callee (f:=149) rfl ?_);refine goesL_ (some 6) rfl rfl Try.func149 (by kernel_rfl) rfl #[.int .i64 a0] rfl (q30_) ?_;(with_reducible refine (yAT.calls a0 true _ A3.out).mono ?_);rintro e w' ⟨rfl,⟨nd,rfl⟩⟩;refine ⟨_,rfl,?_⟩) | (go_at_call 149;(with_reducible refine (yAT.calls a1 true _ A5.out).mono ?_);rintro e w' ⟨rfl,⟨nd,rfl⟩⟩))
   go_ret;exact ⟨q1_,q3_⟩
  ·replace c6:=Bool.eq_false_iff.mpr c6;subst c6;rw [if_neg (show ¬ (false = true) by decide)] at H;obtain rfl:=Option.some.inj H;go_enter Try.func213,Try.ntmps213
   go_wp2_with (first | ((with_reducible refine gate_callee (f:=149) rfl ?_);refine goesL_ (some 6) rfl rfl Try.func149 (by kernel_rfl) rfl #[.int .i64 a0] rfl (q30_) ?_;(with_reducible refine (yAT.calls a0 true _ A3.out).mono ?_);rintro e w' ⟨rfl,⟨nd,rfl⟩⟩;refine ⟨_,rfl,?_⟩) | (go_at_call 149;(with_reducible refine (yAT.calls a1 false _ A5.out).mono ?_);rintro e w' ⟨rfl,⟨nd,rfl⟩⟩))
   go_ret;exact ⟨q1_,q3_⟩
 ·replace c4:=Bool.eq_false_iff.mpr c4;subst c4;rw [if_neg (show ¬ (false = true) by decide)] at H;obtain rfl:=Option.some.inj H;go_enter Try.func213,Try.ntmps213
  go_wp2_with (first | ((with_reducible refine gate_callee (f:=149) rfl ?_);refine goesL_ (some 6) rfl rfl Try.func149 (by kernel_rfl) rfl #[.int .i64 a0] rfl (q30_) ?_;(with_reducible refine (yAT.calls a0 false _ A3.out).mono ?_);rintro e w' ⟨rfl,⟨nd,rfl⟩⟩;refine ⟨_,rfl,?_⟩))
  go_ret;exact ⟨q1_,q3_⟩
/-! ### yAi: function 116 -/
def yAi.f (a0 : Int) (a1 : Int) : Option (Bool):=(yA3.f a0 a1).bind fun t101=>(if t101 = true then (some (decide ((wrap64 (a1 - a0)) ≤ 200))) else (some false))
set_option maxHeartbeats 8000000 in
set_option maxRecDepth 100000 in
theorem yAi.calls (a0 : Int) (a1 : Int) (r : Bool) (w : World) (h : yAi.f a0 a1 = some r) :
  Calls Try.prog 116 #[.int .i64 a0,.int .i64 a1] w fun e w' => e = .returned (.bool r) ∧ Drawn0 w w' := by
 have H : ((yA3.f a0 a1).bind fun t101=>(if t101 = true then (some (decide ((wrap64 (a1 - a0)) ≤ 200))) else (some false))) = some r:=h;clear h;replace H:=Option.bind_eq_some_iff.mp H;obtain ⟨t101,A30,H⟩:=H;(try dsimp only at H);have A3:=Aside0.mk A30;clear A30;by_cases c4 : t101 = true
 ·subst c4;rw [if_pos rfl] at H;obtain rfl:=Option.some.inj H;go_enter Try.func116,Try.ntmps116
  go_wp2_with (first | ((with_reducible refine gate_callee (f:=213) rfl ?_);refine goesL_ (some 7) rfl rfl Try.func213 (by kernel_rfl) rfl #[.int .i64 a0,.int .i64 a1] rfl (q30_) ?_;(with_reducible refine (yA3.calls a0 a1 true _ A3.out).mono ?_);rintro e w' ⟨rfl,⟨nd,rfl⟩⟩;refine ⟨_,rfl,?_⟩))
  go_ret;exact ⟨q1_,q3_⟩
 ·replace c4:=Bool.eq_false_iff.mpr c4;subst c4;rw [if_neg (show ¬ (false = true) by decide)] at H;obtain rfl:=Option.some.inj H;go_enter Try.func116,Try.ntmps116
  go_wp2_with (first | ((with_reducible refine gate_callee (f:=213) rfl ?_);refine goesL_ (some 7) rfl rfl Try.func213 (by kernel_rfl) rfl #[.int .i64 a0,.int .i64 a1] rfl (q30_) ?_;(with_reducible refine (yA3.calls a0 a1 false _ A3.out).mono ?_);rintro e w' ⟨rfl,⟨nd,rfl⟩⟩;refine ⟨_,rfl,?_⟩))
  go_ret;exact ⟨q1_,q3_⟩
/-! ### yAr: function 182 -/
def yAr.f (l0 : List (S58)) (a1 : Int) : Option (ByteArray):=(yAa.f l0 a1).bind fun t101=>(if t101 < 0 then (some (⟨#[]⟩ : ByteArray)) else (if 0 ≤ t101 then (if t101 < (l0.length : Int) then (some ((rd_T58 l0 t101).f2)) else (none)) else (none)))
set_option maxHeartbeats 8000000 in
set_option maxRecDepth 100000 in
theorem yAr.calls (A0 : Option Addr) (c0 : Nat) (l0 : List (S58)) (a1 : Int) (r : ByteArray) (w : World) (hr0 : Kd.C k58 w A0 l0.length l0) (hc0 : l0.length ≤ c0) (h : yAr.f l0 a1 = some r) :
  Calls Try.prog 182 #[.slice A0 l0.length c0,.int .i64 a1] w fun e w' => e = .returned (.string r) ∧ Below w.heap.size w w' := by
 have HR0:=Aside0.mk hr0;have HC0:=Aside0.mk hc0;clear hr0 hc0;have HB:=Aside0.mk (Below.refl w.heap.size w);have H : ((yAa.f l0 a1).bind fun t101=>(if t101 < 0 then (some (⟨#[]⟩ : ByteArray)) else (if 0 ≤ t101 then (if t101 < (l0.length : Int) then (some ((rd_T58 l0 t101).f2)) else (none)) else (none)))) = some r:=h;clear h;replace H:=Option.bind_eq_some_iff.mp H;obtain ⟨t101,A30,H⟩:=H;(try dsimp only at H);have A3:=Aside0.mk A30;clear A30;by_cases c4 : t101 < 0
 ·rw [if_pos c4] at H;have c4b0:=decide_eq_true c4;clear c4;obtain rfl:=Option.some.inj H;go_enter Try.func182,Try.ntmps182
  go_wp2_with (first | ((with_reducible refine gate_callee (f:=150) rfl ?_);refine goesL_ (some 8) rfl rfl Try.func150 (by kernel_rfl) rfl #[.slice A0 l0.length c0,.int .i64 a1] rfl (q30_) ?_;(with_reducible refine (yAa.calls _ _ l0 a1 t101 _ ?side1 ?side2 A3.out).mono ?_);(case side1=>exact cX_ HR0.out);(case side2=>exact HC0.out);rintro e w5 ⟨rfl,hb⟩;refine ⟨_,rfl,?_⟩;replace HB:=bS_ HB hb;(try clear hb)))
  go_ret;exact ⟨q4_,q29_⟩
 ·rw [if_neg c4] at H;have c4b0:=decide_eq_false c4;clear c4;by_cases c6 : 0 ≤ t101
  ·rw [if_pos c6] at H;have c6b0:=decide_eq_true c6;clear c6;by_cases c7 : t101 < (l0.length : Int)
   ·rw [if_pos c7] at H;have c7b0:=decide_eq_true c7;clear c7;obtain rfl:=Option.some.inj H;go_enter Try.func182,Try.ntmps182
    go_wp2_with (first | ((with_reducible refine gate_callee (f:=150) rfl ?_);refine goesL_ (some 8) rfl rfl Try.func150 (by kernel_rfl) rfl #[.slice A0 l0.length c0,.int .i64 a1] rfl (q30_) ?_;(with_reducible refine (yAa.calls _ _ l0 a1 t101 _ ?side1 ?side2 A3.out).mono ?_);(case side1=>exact cX_ HR0.out);(case side2=>exact HC0.out);rintro e w8 ⟨rfl,hb⟩;refine ⟨_,rfl,?_⟩;replace HB:=bS_ HB hb;(try clear hb);have p102 : 0 ≤ (t101 : Int):=of_decide_eq_true (q2_);have q102 : t101 < (l0.length : Int):=of_decide_eq_true (q2_);obtain ⟨ad102,e102,hx102_0,hx102_1,hx102_2⟩:=at_T58 HR0.out t101 p102 q102;cases e102;replace hx102_0:=hB_ HB.out hx102_0;replace hx102_1:=hB_ HB.out hx102_1;replace hx102_2:=hB_ HB.out hx102_2;replace p102:=eq_true p102;replace q102:=eq_true q102))
    go_ret;exact ⟨q4_,q29_⟩
   ·rw [if_neg c7] at H;exact absurd H (by simp)
  ·rw [if_neg c6] at H;exact absurd H (by simp)
end Go.Proofs.Ytgapcmmhbegdeaa.G
