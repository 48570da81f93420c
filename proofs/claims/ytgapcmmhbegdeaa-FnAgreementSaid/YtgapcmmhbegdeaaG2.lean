-- Written by this session's own program over the kit's print (wip/tools/myprint.py); Lean checks it.
import Derived.Test.YtgapcmmhbegdeaaMBase
import Derived.Test.YtgapcmmhbegdeaaG0
import Derived.Test.YtgapcmmhbegdeaaG1
import Derived.Test.YtgapcmmhbegdeaaG6
import Derived.Test.YtgapcmmhbegdeaaG10
namespace Go.Proofs.Ytgapcmmhbegdeaa.G
open Go.RowKit Go.Proofs.YtgapcmmhbegdeaaW.PrintWords Go.Proofs.YtgapcmmhbegdeaaW.PrintLast Go.Proofs.YtgapcmmhbegdeaaW.PrintMore
attribute [local go_sem] max2_int min2_int max_two min_two max_three min_three max_four min_four str_geq str_gtr str_leq   -- for this text's walks alone
set_option linter.unusedVariables false
set_option linter.unusedSimpArgs false
/-! ### spec_agFrame: function 185 -/
def spec_agFrame.f (a0 : Int) : Option (Bool):=(spec_l1In.f a0 0 99999).bind fun t101=>(some t101)
set_option maxHeartbeats 8000000 in
set_option maxRecDepth 100000 in
theorem spec_agFrame.calls (a0 : Int) (r : Bool) (w : World) (h : spec_agFrame.f a0 = some r) :
  Calls Try.prog 185 #[.int .i64 a0] w fun e w' => e = .returned (.bool r) ∧ Drawn0 w w' := by
 have H : ((spec_l1In.f a0 0 99999).bind fun t101=>(some t101)) = some r:=h;clear h;replace H:=Option.bind_eq_some_iff.mp H;obtain ⟨t101,A20,H⟩:=H;(try dsimp only at H);have A2:=Aside0.mk A20;clear A20;obtain rfl:=Option.some.inj H;go_enter Try.func185,Try.ntmps185
 go_wp2_with (first | ((with_reducible refine gate_callee (f:=146) rfl ?_);refine goesL_ (some 4) rfl rfl Try.func146 (by kernel_rfl) rfl #[.int .i64 a0,.int .i64 0,.int .i64 99999] rfl (q20_) ?_;(with_reducible refine (spec_l1In.calls a0 0 99999 t101 _ A2.out).mono ?_);rintro e w' ⟨rfl,⟨nd,rfl⟩⟩;refine ⟨_,rfl,?_⟩))
 go_ret;exact ⟨q1_,q3_⟩
/-! ### spec_agWindow: function 113 -/
def spec_agWindow.f (a0 : Int) (a1 : Int) : Option (Bool):=(spec_agFrame.f a0).bind fun t101=>(if t101 = true then ((spec_agFrame.f a1).bind fun t102=>(if t102 = true then ((spec_l1In.f (wrap64 (a1 - a0)) 1 200).bind fun t103=>(some t103)) else (some false))) else (some false))
set_option maxHeartbeats 8000000 in
set_option maxRecDepth 100000 in
theorem spec_agWindow.calls (a0 : Int) (a1 : Int) (r : Bool) (w : World) (h : spec_agWindow.f a0 a1 = some r) :
  Calls Try.prog 113 #[.int .i64 a0,.int .i64 a1] w fun e w' => e = .returned (.bool r) ∧ Drawn0 w w' := by
 have H : ((spec_agFrame.f a0).bind fun t101=>(if t101 = true then ((spec_agFrame.f a1).bind fun t102=>(if t102 = true then ((spec_l1In.f (wrap64 (a1 - a0)) 1 200).bind fun t103=>(some t103)) else (some false))) else (some false))) = some r:=h;clear h;replace H:=Option.bind_eq_some_iff.mp H;obtain ⟨t101,A30,H⟩:=H;(try dsimp only at H);have A3:=Aside0.mk A30;clear A30;by_cases c4 : t101 = true
 ·subst c4;have H1 : ((spec_agFrame.f a1).bind fun t102=>(if t102 = true then ((spec_l1In.f (wrap64 (a1 - a0)) 1 200).bind fun t103=>(some t103)) else (some false))) = some r:=by rw [if_pos rfl] at H;exact H
  clear H;have H:=H1;clear H1;replace H:=Option.bind_eq_some_iff.mp H;obtain ⟨t102,A50,H⟩:=H;(try dsimp only at H);have A5:=Aside0.mk A50;clear A50;by_cases c6 : t102 = true
  ·subst c6;have H1 : ((spec_l1In.f (wrap64 (a1 - a0)) 1 200).bind fun t103=>(some t103)) = some r:=by rw [if_pos rfl] at H;exact H
   clear H;have H:=H1;clear H1;replace H:=Option.bind_eq_some_iff.mp H;obtain ⟨t103,A70,H⟩:=H;(try dsimp only at H);have A7:=Aside0.mk A70;clear A70;obtain rfl:=Option.some.inj H;go_enter Try.func113,Try.ntmps113
   go_wp2_with (first | ((with_reducible refine gate_callee (f:=185) rfl ?_);refine goesL_ (some 6) rfl rfl Try.func185 (by kernel_rfl) rfl #[.int .i64 a0] rfl (q20_) ?_;(with_reducible refine (spec_agFrame.calls a0 true _ A3.out).mono ?_);rintro e w' ⟨rfl,⟨nd,rfl⟩⟩;refine ⟨_,rfl,?_⟩) | (go_at_call 185;(with_reducible refine (spec_agFrame.calls a1 true _ A5.out).mono ?_);rintro e w' ⟨rfl,⟨nd,rfl⟩⟩) | (go_at_call 146;(with_reducible refine (spec_l1In.calls (wrap64 (a1 - a0)) 1 200 t103 _ A7.out).mono ?_);rintro e w' ⟨rfl,⟨nd,rfl⟩⟩))
   go_ret;exact ⟨q1_,q3_⟩
  ·replace c6:=Bool.eq_false_iff.mpr c6;subst c6;have H1 : (some false) = some r:=by rw [if_neg (show ¬ (false = true) by decide)] at H;exact H
   clear H;have H:=H1;clear H1;obtain rfl:=Option.some.inj H;go_enter Try.func113,Try.ntmps113
   go_wp2_with (first | ((with_reducible refine gate_callee (f:=185) rfl ?_);refine goesL_ (some 6) rfl rfl Try.func185 (by kernel_rfl) rfl #[.int .i64 a0] rfl (q20_) ?_;(with_reducible refine (spec_agFrame.calls a0 true _ A3.out).mono ?_);rintro e w' ⟨rfl,⟨nd,rfl⟩⟩;refine ⟨_,rfl,?_⟩) | (go_at_call 185;(with_reducible refine (spec_agFrame.calls a1 false _ A5.out).mono ?_);rintro e w' ⟨rfl,⟨nd,rfl⟩⟩))
   go_ret;exact ⟨q1_,q3_⟩
 ·replace c4:=Bool.eq_false_iff.mpr c4;subst c4;have H1 : (some false) = some r:=by rw [if_neg (show ¬ (false = true) by decide)] at H;exact H
  clear H;have H:=H1;clear H1;obtain rfl:=Option.some.inj H;go_enter Try.func113,Try.ntmps113
  go_wp2_with (first | ((with_reducible refine gate_callee (f:=185) rfl ?_);refine goesL_ (some 6) rfl rfl Try.func185 (by kernel_rfl) rfl #[.int .i64 a0] rfl (q20_) ?_;(with_reducible refine (spec_agFrame.calls a0 false _ A3.out).mono ?_);rintro e w' ⟨rfl,⟨nd,rfl⟩⟩;refine ⟨_,rfl,?_⟩))
  go_ret;exact ⟨q1_,q3_⟩
/-! ### spec_agGloss: function 125 -/
def spec_agGloss.l0 : Nat → Int → List (S58) → Int → Int → Option (ByteArray)
 | 0,_,_,_,_=>none
 | k + 1,x1,x7,x8,x9=>if x9 < x8 then (if 0 ≤ x9 then (if x9 < (x7.length : Int) then (if ((rd_T58 x7 x9).f0) ≤ x1 then (if x1 < ((rd_T58 x7 x9).f1) then (some ((rd_T58 x7 x9).f2)) else (spec_agGloss.l0 k x1 x7 x8 (wrap64 (x9 + 1)))) else (spec_agGloss.l0 k x1 x7 x8 (wrap64 (x9 + 1)))) else (none)) else (none)) else (some (⟨#[]⟩ : ByteArray))
def spec_agGloss.f (k : Nat) (l0 : List (S58)) (a1 : Int) : Option (ByteArray):=spec_agGloss.l0 k a1 l0 (l0.length : Int) 0
set_option maxHeartbeats 8000000 in
set_option maxRecDepth 100000 in
theorem spec_agGloss.calls (k : Nat) (A0 : Option Addr) (c0 : Nat) (l0 : List (S58)) (a1 : Int) (r : ByteArray) (w : World) (hr0 : Kd.C k58 w A0 l0.length l0) (hc0 : l0.length ≤ c0) (h : spec_agGloss.f k l0 a1 = some r) :
  Calls Try.prog 125 #[.slice A0 l0.length c0,.int .i64 a1] w fun e w' => e = .returned (.string r) ∧ Below w.heap.size w w' := by
 have hu58:=Try.underlying58;have HR0:=Aside0.mk hr0;have HC0:=Aside0.mk hc0;clear hr0 hc0;have HB:=Aside0.mk (Below.refl w.heap.size w);have H : (spec_agGloss.l0 k a1 l0 (l0.length : Int) 0) = some r:=h;clear h;have H' := Aside0.mk H;clear H;go_enter Try.func125,Try.ntmps125
 go_wp2;go_loopg [9] k (fun kq v9 w' => ∃ (x9_1 : Int),v9 = .int .i64 x9_1 ∧ Aside0 (spec_agGloss.l0 kq a1 l0 (l0.length : Int) x9_1 = some r) ∧ Aside0 (kq ≤ k) ∧ Aside0 (Below w.heap.size w w'))
 case atStart=>exact ⟨(0),(q1_),H', ⟨Nat.le_refl _⟩,⟨q19_⟩⟩
 case round =>
  clear H';obtain ⟨x9_1,rfl,HA,HK1,HB⟩:=hrel;cases gk with
  | zero=>exact absurd HA.out (by simp [spec_agGloss.l0])
  | succ k1 =>
   have H:=HA.out;clear HA;simp only [spec_agGloss.l0] at H;by_cases c3 : x9_1 < (l0.length : Int)
   ·rw [if_pos c3] at H;have c3b0 : decide (x9_1 < (l0.length : Int)) = true:=decide_eq_true c3;clear c3;by_cases c4 : 0 ≤ x9_1
    ·rw [if_pos c4] at H;have c4b0 : decide (0 ≤ x9_1) = true:=decide_eq_true c4;clear c4;by_cases c5 : x9_1 < (l0.length : Int)
     ·rw [if_pos c5] at H;have c5b0 : decide (x9_1 < (l0.length : Int)) = true:=decide_eq_true c5;clear c5;by_cases c6 : ((rd_T58 l0 x9_1).f0) ≤ a1
      ·rw [if_pos c6] at H;have c6b0 : decide (((rd_T58 l0 x9_1).f0) ≤ a1) = true:=decide_eq_true c6;clear c6;by_cases c7 : a1 < ((rd_T58 l0 x9_1).f1)
       ·rw [if_pos c7] at H;have c7b0 : decide (a1 < ((rd_T58 l0 x9_1).f1)) = true:=decide_eq_true c7;clear c7;obtain rfl:=Option.some.inj H;have p101 : 0 ≤ (x9_1 : Int):=of_decide_eq_true (q2_);have q101 : x9_1 < (l0.length : Int):=of_decide_eq_true (q2_);obtain ⟨ad101,e101,hx101_0,hx101_1,hx101_2⟩:=at_T58 HR0.out x9_1 p101 q101;cases e101;replace hx101_0:=hB_ HB.out hx101_0;replace hx101_1:=hB_ HB.out hx101_1;replace hx101_2:=hB_ HB.out hx101_2;replace p101:=eq_true p101;replace q101:=eq_true q101;go_wp2_with (first | ((with_reducible refine gate_dst (N:=6) rfl ?_);refine box_event ?hg (N:=6) ?hd (cs:=#[.int .i64 0,.int .i64 0,.string (⟨#[]⟩ : ByteArray)]) (t:=58) ?hr ?_;(case hd=>rfl);(case hg=>rfl);(case hr=>first | (go_simp;done) | (go_simp;rfl));intro gb102 hg w8 hbox hb;have BK102:=Aside0.mk (hbox);have GW102:=Aside0.mk ((q48_ : w.heap.size ≤ gb102));have GE102:=Aside0.mk ((q48_ : w.heap.size ≤ gb102));replace HB:=bS_ HB hb;clear hb hbox hg;have hcz9_0 : w8.cell? ⟨gb102,0,none⟩ = some (.int .i64 0):=(blk_cell BK102.out 0).trans rfl;have hcz9_1 : w8.cell? ⟨gb102,1,none⟩ = some (.int .i64 0):=(blk_cell BK102.out 1).trans rfl;have hcz9_2 : w8.cell? ⟨gb102,2,none⟩ = some (.string (⟨#[]⟩ : ByteArray)):=(blk_cell BK102.out 2).trans rfl;have hfz9_0:=blk_frozen BK102.out 0;have hfz9_1:=blk_frozen BK102.out 1;have hfz9_2:=blk_frozen BK102.out 2))
        go_ret;exact ⟨q4_,q25_⟩
       ·rw [if_neg c7] at H;have c7b0 : decide (a1 < ((rd_T58 l0 x9_1).f1)) = false:=decide_eq_false c7;clear c7;have H' := Aside0.mk H;clear H;have p101 : 0 ≤ (x9_1 : Int):=of_decide_eq_true (q2_);have q101 : x9_1 < (l0.length : Int):=of_decide_eq_true (q2_);obtain ⟨ad101,e101,hx101_0,hx101_1,hx101_2⟩:=at_T58 HR0.out x9_1 p101 q101;cases e101;replace hx101_0:=hB_ HB.out hx101_0;replace hx101_1:=hB_ HB.out hx101_1;replace hx101_2:=hB_ HB.out hx101_2;replace p101:=eq_true p101;replace q101:=eq_true q101;go_wp2_with (first | ((with_reducible refine gate_dst (N:=6) rfl ?_);refine box_event ?hg (N:=6) ?hd (cs:=#[.int .i64 0,.int .i64 0,.string (⟨#[]⟩ : ByteArray)]) (t:=58) ?hr ?_;(case hd=>rfl);(case hg=>rfl);(case hr=>first | (go_simp;done) | (go_simp;rfl));intro gb102 hg w10 hbox hb;have BK102:=Aside0.mk (hbox);have GW102:=Aside0.mk ((q48_ : w.heap.size ≤ gb102));have GE102:=Aside0.mk ((q48_ : w.heap.size ≤ gb102));replace HB:=bS_ HB hb;clear hb hbox hg;have hcz11_0 : w10.cell? ⟨gb102,0,none⟩ = some (.int .i64 0):=(blk_cell BK102.out 0).trans rfl;have hcz11_1 : w10.cell? ⟨gb102,1,none⟩ = some (.int .i64 0):=(blk_cell BK102.out 1).trans rfl;have hcz11_2 : w10.cell? ⟨gb102,2,none⟩ = some (.string (⟨#[]⟩ : ByteArray)):=(blk_cell BK102.out 2).trans rfl;have hfz11_0:=blk_frozen BK102.out 0;have hfz11_1:=blk_frozen BK102.out 1;have hfz11_2:=blk_frozen BK102.out 2))
        go_roundg k1
        case measure=>have:=HK1.out;omega
        case rel=>exact ⟨(wrap64 (x9_1 + 1)),(q1_),H', ⟨by have:=HK1.out;omega⟩,⟨q25_⟩⟩
      ·rw [if_neg c6] at H;have c6b0 : decide (((rd_T58 l0 x9_1).f0) ≤ a1) = false:=decide_eq_false c6;clear c6;have H' := Aside0.mk H;clear H;have p101 : 0 ≤ (x9_1 : Int):=of_decide_eq_true (q2_);have q101 : x9_1 < (l0.length : Int):=of_decide_eq_true (q2_);obtain ⟨ad101,e101,hx101_0,hx101_1,hx101_2⟩:=at_T58 HR0.out x9_1 p101 q101;cases e101;replace hx101_0:=hB_ HB.out hx101_0;replace hx101_1:=hB_ HB.out hx101_1;replace hx101_2:=hB_ HB.out hx101_2;replace p101:=eq_true p101;replace q101:=eq_true q101;go_wp2_with (first | ((with_reducible refine gate_dst (N:=6) rfl ?_);refine box_event ?hg (N:=6) ?hd (cs:=#[.int .i64 0,.int .i64 0,.string (⟨#[]⟩ : ByteArray)]) (t:=58) ?hr ?_;(case hd=>rfl);(case hg=>rfl);(case hr=>first | (go_simp;done) | (go_simp;rfl));intro gb102 hg w12 hbox hb;have BK102:=Aside0.mk (hbox);have GW102:=Aside0.mk ((q48_ : w.heap.size ≤ gb102));have GE102:=Aside0.mk ((q48_ : w.heap.size ≤ gb102));replace HB:=bS_ HB hb;clear hb hbox hg;have hcz13_0 : w12.cell? ⟨gb102,0,none⟩ = some (.int .i64 0):=(blk_cell BK102.out 0).trans rfl;have hcz13_1 : w12.cell? ⟨gb102,1,none⟩ = some (.int .i64 0):=(blk_cell BK102.out 1).trans rfl;have hcz13_2 : w12.cell? ⟨gb102,2,none⟩ = some (.string (⟨#[]⟩ : ByteArray)):=(blk_cell BK102.out 2).trans rfl;have hfz13_0:=blk_frozen BK102.out 0;have hfz13_1:=blk_frozen BK102.out 1;have hfz13_2:=blk_frozen BK102.out 2))
       go_roundg k1
       case measure=>have:=HK1.out;omega
       case rel=>exact ⟨(wrap64 (x9_1 + 1)),(q1_),H', ⟨by have:=HK1.out;omega⟩,⟨q25_⟩⟩
     ·rw [if_neg c5] at H;exact absurd H (by simp)
    ·rw [if_neg c4] at H;exact absurd H (by simp)
   ·rw [if_neg c3] at H;have c3b0 : decide (x9_1 < (l0.length : Int)) = false:=decide_eq_false c3;clear c3;obtain rfl:=Option.some.inj H;go_wp2;go_ret;exact ⟨q4_,q19_⟩
/-! ### impl_isRange: function 213 -/
def impl_isRange.f (a0 : Int) (a1 : Int) : Option (Bool):=(impl_isFrame.f a0).bind fun t101=>(if t101 = true then ((impl_isFrame.f a1).bind fun t102=>(if t102 = true then (some (decide (a0 < a1))) else (some false))) else (some false))
set_option maxHeartbeats 8000000 in
set_option maxRecDepth 100000 in
theorem impl_isRange.calls (a0 : Int) (a1 : Int) (r : Bool) (w : World) (h : impl_isRange.f a0 a1 = some r) :
  Calls Try.prog 213 #[.int .i64 a0,.int .i64 a1] w fun e w' => e = .returned (.bool r) ∧ Drawn0 w w' := by
 have H : ((impl_isFrame.f a0).bind fun t101=>(if t101 = true then ((impl_isFrame.f a1).bind fun t102=>(if t102 = true then (some (decide (a0 < a1))) else (some false))) else (some false))) = some r:=h;clear h;replace H:=Option.bind_eq_some_iff.mp H;obtain ⟨t101,A30,H⟩:=H;(try dsimp only at H);have A3:=Aside0.mk A30;clear A30;by_cases c4 : t101 = true
 ·subst c4;have H1 : ((impl_isFrame.f a1).bind fun t102=>(if t102 = true then (some (decide (a0 < a1))) else (some false))) = some r:=by rw [if_pos rfl] at H;exact H
  clear H;have H:=H1;clear H1;replace H:=Option.bind_eq_some_iff.mp H;obtain ⟨t102,A50,H⟩:=H;(try dsimp only at H);have A5:=Aside0.mk A50;clear A50;by_cases c6 : t102 = true
  ·subst c6;have H1 : (some (decide (a0 < a1))) = some r:=by rw [if_pos rfl] at H;exact H
   clear H;have H:=H1;clear H1;obtain rfl:=Option.some.inj H;go_enter Try.func213,Try.ntmps213
   go_wp2_with (first | ((with_reducible refine gate_callee (f:=149) rfl ?_);refine goesL_ (some 6) rfl rfl Try.func149 (by kernel_rfl) rfl #[.int .i64 a0] rfl (q20_) ?_;(with_reducible refine (impl_isFrame.calls a0 true _ A3.out).mono ?_);rintro e w' ⟨rfl,⟨nd,rfl⟩⟩;refine ⟨_,rfl,?_⟩) | (go_at_call 149;(with_reducible refine (impl_isFrame.calls a1 true _ A5.out).mono ?_);rintro e w' ⟨rfl,⟨nd,rfl⟩⟩))
   go_ret;exact ⟨q1_,q3_⟩
  ·replace c6:=Bool.eq_false_iff.mpr c6;subst c6;have H1 : (some false) = some r:=by rw [if_neg (show ¬ (false = true) by decide)] at H;exact H
   clear H;have H:=H1;clear H1;obtain rfl:=Option.some.inj H;go_enter Try.func213,Try.ntmps213
   go_wp2_with (first | ((with_reducible refine gate_callee (f:=149) rfl ?_);refine goesL_ (some 6) rfl rfl Try.func149 (by kernel_rfl) rfl #[.int .i64 a0] rfl (q20_) ?_;(with_reducible refine (impl_isFrame.calls a0 true _ A3.out).mono ?_);rintro e w' ⟨rfl,⟨nd,rfl⟩⟩;refine ⟨_,rfl,?_⟩) | (go_at_call 149;(with_reducible refine (impl_isFrame.calls a1 false _ A5.out).mono ?_);rintro e w' ⟨rfl,⟨nd,rfl⟩⟩))
   go_ret;exact ⟨q1_,q3_⟩
 ·replace c4:=Bool.eq_false_iff.mpr c4;subst c4;have H1 : (some false) = some r:=by rw [if_neg (show ¬ (false = true) by decide)] at H;exact H
  clear H;have H:=H1;clear H1;obtain rfl:=Option.some.inj H;go_enter Try.func213,Try.ntmps213
  go_wp2_with (first | ((with_reducible refine gate_callee (f:=149) rfl ?_);refine goesL_ (some 6) rfl rfl Try.func149 (by kernel_rfl) rfl #[.int .i64 a0] rfl (q20_) ?_;(with_reducible refine (impl_isFrame.calls a0 false _ A3.out).mono ?_);rintro e w' ⟨rfl,⟨nd,rfl⟩⟩;refine ⟨_,rfl,?_⟩))
  go_ret;exact ⟨q1_,q3_⟩
/-! ### impl_isWindow: function 116 -/
def impl_isWindow.f (a0 : Int) (a1 : Int) : Option (Bool):=(impl_isRange.f a0 a1).bind fun t101=>(if t101 = true then (some (decide ((wrap64 (a1 - a0)) ≤ 200))) else (some false))
set_option maxHeartbeats 8000000 in
set_option maxRecDepth 100000 in
theorem impl_isWindow.calls (a0 : Int) (a1 : Int) (r : Bool) (w : World) (h : impl_isWindow.f a0 a1 = some r) :
  Calls Try.prog 116 #[.int .i64 a0,.int .i64 a1] w fun e w' => e = .returned (.bool r) ∧ Drawn0 w w' := by
 have H : ((impl_isRange.f a0 a1).bind fun t101=>(if t101 = true then (some (decide ((wrap64 (a1 - a0)) ≤ 200))) else (some false))) = some r:=h;clear h;replace H:=Option.bind_eq_some_iff.mp H;obtain ⟨t101,A30,H⟩:=H;(try dsimp only at H);have A3:=Aside0.mk A30;clear A30;by_cases c4 : t101 = true
 ·subst c4;have H1 : (some (decide ((wrap64 (a1 - a0)) ≤ 200))) = some r:=by rw [if_pos rfl] at H;exact H
  clear H;have H:=H1;clear H1;obtain rfl:=Option.some.inj H;go_enter Try.func116,Try.ntmps116
  go_wp2_with (first | ((with_reducible refine gate_callee (f:=213) rfl ?_);refine goesL_ (some 7) rfl rfl Try.func213 (by kernel_rfl) rfl #[.int .i64 a0,.int .i64 a1] rfl (q20_) ?_;(with_reducible refine (impl_isRange.calls a0 a1 true _ A3.out).mono ?_);rintro e w' ⟨rfl,⟨nd,rfl⟩⟩;refine ⟨_,rfl,?_⟩))
  go_ret;exact ⟨q1_,q3_⟩
 ·replace c4:=Bool.eq_false_iff.mpr c4;subst c4;have H1 : (some false) = some r:=by rw [if_neg (show ¬ (false = true) by decide)] at H;exact H
  clear H;have H:=H1;clear H1;obtain rfl:=Option.some.inj H;go_enter Try.func116,Try.ntmps116
  go_wp2_with (first | ((with_reducible refine gate_callee (f:=213) rfl ?_);refine goesL_ (some 7) rfl rfl Try.func213 (by kernel_rfl) rfl #[.int .i64 a0,.int .i64 a1] rfl (q20_) ?_;(with_reducible refine (impl_isRange.calls a0 a1 false _ A3.out).mono ?_);rintro e w' ⟨rfl,⟨nd,rfl⟩⟩;refine ⟨_,rfl,?_⟩))
  go_ret;exact ⟨q1_,q3_⟩
/-! ### impl_glossAt: function 182 -/
def impl_glossAt.f (l0 : List (S58)) (a1 : Int) : Option (ByteArray):=(impl_noteAt.f l0 a1).bind fun t101=>(if t101 < 0 then (some (⟨#[]⟩ : ByteArray)) else (if 0 ≤ t101 then (if t101 < (l0.length : Int) then (some ((rd_T58 l0 t101).f2)) else (none)) else (none)))
set_option maxHeartbeats 8000000 in
set_option maxRecDepth 100000 in
theorem impl_glossAt.calls (A0 : Option Addr) (c0 : Nat) (l0 : List (S58)) (a1 : Int) (r : ByteArray) (w : World) (hr0 : Kd.C k58 w A0 l0.length l0) (hc0 : l0.length ≤ c0) (h : impl_glossAt.f l0 a1 = some r) :
  Calls Try.prog 182 #[.slice A0 l0.length c0,.int .i64 a1] w fun e w' => e = .returned (.string r) ∧ Below w.heap.size w w' := by
 have HR0:=Aside0.mk hr0;have HC0:=Aside0.mk hc0;clear hr0 hc0;have HB:=Aside0.mk (Below.refl w.heap.size w);have H : ((impl_noteAt.f l0 a1).bind fun t101=>(if t101 < 0 then (some (⟨#[]⟩ : ByteArray)) else (if 0 ≤ t101 then (if t101 < (l0.length : Int) then (some ((rd_T58 l0 t101).f2)) else (none)) else (none)))) = some r:=h;clear h;replace H:=Option.bind_eq_some_iff.mp H;obtain ⟨t101,A30,H⟩:=H;(try dsimp only at H);have A3:=Aside0.mk A30;clear A30;by_cases c4 : t101 < 0
 ·rw [if_pos c4] at H;have c4b0 : decide (t101 < 0) = true:=decide_eq_true c4;clear c4;obtain rfl:=Option.some.inj H;go_enter Try.func182,Try.ntmps182
  go_wp2_with (first | ((with_reducible refine gate_callee (f:=150) rfl ?_);refine goesL_ (some 8) rfl rfl Try.func150 (by kernel_rfl) rfl #[.slice A0 l0.length c0,.int .i64 a1] rfl (q20_) ?_;(with_reducible refine (impl_noteAt.calls _ _ l0 a1 t101 _ ?side1 ?side2 A3.out).mono ?_);(case side1=>exact cX_ HR0.out);(case side2=>exact HC0.out);rintro e w5 ⟨rfl,hb⟩;refine ⟨_,rfl,?_⟩;replace HB:=bS_ HB hb;(try clear hb)))
  go_ret;exact ⟨q4_,q19_⟩
 ·rw [if_neg c4] at H;have c4b0 : decide (t101 < 0) = false:=decide_eq_false c4;clear c4;by_cases c6 : 0 ≤ t101
  ·rw [if_pos c6] at H;have c6b0 : decide (0 ≤ t101) = true:=decide_eq_true c6;clear c6;by_cases c7 : t101 < (l0.length : Int)
   ·rw [if_pos c7] at H;have c7b0 : decide (t101 < (l0.length : Int)) = true:=decide_eq_true c7;clear c7;obtain rfl:=Option.some.inj H;go_enter Try.func182,Try.ntmps182
    go_wp2_with (first | ((with_reducible refine gate_callee (f:=150) rfl ?_);refine goesL_ (some 8) rfl rfl Try.func150 (by kernel_rfl) rfl #[.slice A0 l0.length c0,.int .i64 a1] rfl (q20_) ?_;(with_reducible refine (impl_noteAt.calls _ _ l0 a1 t101 _ ?side1 ?side2 A3.out).mono ?_);(case side1=>exact cX_ HR0.out);(case side2=>exact HC0.out);rintro e w8 ⟨rfl,hb⟩;refine ⟨_,rfl,?_⟩;replace HB:=bS_ HB hb;(try clear hb);have p102 : 0 ≤ (t101 : Int):=of_decide_eq_true (q2_);have q102 : t101 < (l0.length : Int):=of_decide_eq_true (q2_);obtain ⟨ad102,e102,hx102_0,hx102_1,hx102_2⟩:=at_T58 HR0.out t101 p102 q102;cases e102;replace hx102_0:=hB_ HB.out hx102_0;replace hx102_1:=hB_ HB.out hx102_1;replace hx102_2:=hB_ HB.out hx102_2;replace p102:=eq_true p102;replace q102:=eq_true q102))
    go_ret;exact ⟨q4_,q19_⟩
   ·rw [if_neg c7] at H;exact absurd H (by simp)
  ·rw [if_neg c6] at H;exact absurd H (by simp)
end Go.Proofs.Ytgapcmmhbegdeaa.G
