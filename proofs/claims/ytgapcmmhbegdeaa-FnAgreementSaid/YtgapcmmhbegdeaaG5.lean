-- Written by this session's own program over the kit's print (wip/tools/myprint.py); Lean checks it.
import Derived.Test.YtgapcmmhbegdeaaMBase
import Derived.Test.YtgapcmmhbegdeaaG0
import Derived.Test.YtgapcmmhbegdeaaG2
import Derived.Test.YtgapcmmhbegdeaaG4
namespace Go.Proofs.Ytgapcmmhbegdeaa.G
open Go.RowKit Go.Proofs.YtgapcmmhbegdeaaW.PrintWords Go.Proofs.YtgapcmmhbegdeaaW.PrintLast Go.Proofs.YtgapcmmhbegdeaaW.PrintMore
attribute [local go_sem] max2_int min2_int max_two min_two max_three min_three max_four min_four str_geq str_gtr str_leq   -- for this text's walks alone
set_option linter.unusedVariables false
set_option linter.unusedSimpArgs false
/-! ### spec_agAsked: function 124 -/
def spec_agAsked.f (k : Nat) (l0 : List (S58)) (l1 : List (S58)) (a2 : Int) (a3 : Int) : Option (Bool):=(spec_tiGood.f k l0).bind fun t101=>(if t101 = true then ((spec_tiGood.f k l1).bind fun t102=>(if t102 = true then ((spec_agWindow.f a2 a3).bind fun t103=>(some t103)) else (some false))) else (some false))
set_option maxHeartbeats 8000000 in
set_option maxRecDepth 100000 in
theorem spec_agAsked.calls (k : Nat) (A0 : Option Addr) (c0 : Nat) (l0 : List (S58)) (A1 : Option Addr) (c1 : Nat) (l1 : List (S58)) (a2 : Int) (a3 : Int) (r : Bool) (w : World) (hr0 : Kd.C k58 w A0 l0.length l0) (hc0 : l0.length ≤ c0) (hr1 : Kd.C k58 w A1 l1.length l1) (hc1 : l1.length ≤ c1) (h : spec_agAsked.f k l0 l1 a2 a3 = some r) :
  Calls Try.prog 124 #[.slice A0 l0.length c0,.slice A1 l1.length c1,.int .i64 a2,.int .i64 a3] w fun e w' => e = .returned (.bool r) ∧ Below w.heap.size w w' := by
 have HR0:=Aside0.mk hr0;have HC0:=Aside0.mk hc0;clear hr0 hc0;have HR1:=Aside0.mk hr1;have HC1:=Aside0.mk hc1;clear hr1 hc1;have HB:=Aside0.mk (Below.refl w.heap.size w);have H : ((spec_tiGood.f k l0).bind fun t101=>(if t101 = true then ((spec_tiGood.f k l1).bind fun t102=>(if t102 = true then ((spec_agWindow.f a2 a3).bind fun t103=>(some t103)) else (some false))) else (some false))) = some r:=h;clear h;replace H:=Option.bind_eq_some_iff.mp H;obtain ⟨t101,A50,H⟩:=H;(try dsimp only at H);have A5:=Aside0.mk A50;clear A50;by_cases c6 : t101 = true
 ·subst c6;have H1 : ((spec_tiGood.f k l1).bind fun t102=>(if t102 = true then ((spec_agWindow.f a2 a3).bind fun t103=>(some t103)) else (some false))) = some r:=by rw [if_pos rfl] at H;exact H
  clear H;have H:=H1;clear H1;replace H:=Option.bind_eq_some_iff.mp H;obtain ⟨t102,A70,H⟩:=H;(try dsimp only at H);have A7:=Aside0.mk A70;clear A70;by_cases c8 : t102 = true
  ·subst c8;have H1 : ((spec_agWindow.f a2 a3).bind fun t103=>(some t103)) = some r:=by rw [if_pos rfl] at H;exact H
   clear H;have H:=H1;clear H1;replace H:=Option.bind_eq_some_iff.mp H;obtain ⟨t103,A90,H⟩:=H;(try dsimp only at H);have A9:=Aside0.mk A90;clear A90;obtain rfl:=Option.some.inj H;go_enter Try.func124,Try.ntmps124
   go_wp2_with (first | ((with_reducible refine gate_callee (f:=119) rfl ?_);refine goesL_ (some 10) rfl rfl Try.func119 (by kernel_rfl) rfl #[.slice A0 l0.length c0] rfl (q20_) ?_;(with_reducible refine (spec_tiGood.calls k _ _ l0 true _ ?side1 ?side2 A5.out).mono ?_);(case side1=>exact cX_ HR0.out);(case side2=>exact HC0.out);rintro e w10 ⟨rfl,hb⟩;refine ⟨_,rfl,?_⟩;replace HB:=bS_ HB hb;(try clear hb)) | (go_at_call 119;(with_reducible refine (spec_tiGood.calls k _ _ l1 true _ ?side1 ?side2 A7.out).mono ?_);(case side1=>exact cX_ (Kd.C_below HR1.out HB.out));(case side2=>exact HC1.out);rintro e w11 ⟨rfl,hb⟩;replace HB:=bS_ HB hb;(try clear hb)) | (go_at_call 113;(with_reducible refine (spec_agWindow.calls a2 a3 t103 _ A9.out).mono ?_);rintro e w' ⟨rfl,⟨nd,rfl⟩⟩))
   go_ret;exact ⟨q4_,q19_⟩
  ·replace c8:=Bool.eq_false_iff.mpr c8;subst c8;have H1 : (some false) = some r:=by rw [if_neg (show ¬ (false = true) by decide)] at H;exact H
   clear H;have H:=H1;clear H1;obtain rfl:=Option.some.inj H;go_enter Try.func124,Try.ntmps124
   go_wp2_with (first | ((with_reducible refine gate_callee (f:=119) rfl ?_);refine goesL_ (some 10) rfl rfl Try.func119 (by kernel_rfl) rfl #[.slice A0 l0.length c0] rfl (q20_) ?_;(with_reducible refine (spec_tiGood.calls k _ _ l0 true _ ?side1 ?side2 A5.out).mono ?_);(case side1=>exact cX_ HR0.out);(case side2=>exact HC0.out);rintro e w12 ⟨rfl,hb⟩;refine ⟨_,rfl,?_⟩;replace HB:=bS_ HB hb;(try clear hb)) | (go_at_call 119;(with_reducible refine (spec_tiGood.calls k _ _ l1 false _ ?side1 ?side2 A7.out).mono ?_);(case side1=>exact cX_ (Kd.C_below HR1.out HB.out));(case side2=>exact HC1.out);rintro e w13 ⟨rfl,hb⟩;replace HB:=bS_ HB hb;(try clear hb)))
   go_ret;exact ⟨q4_,q19_⟩
 ·replace c6:=Bool.eq_false_iff.mpr c6;subst c6;have H1 : (some false) = some r:=by rw [if_neg (show ¬ (false = true) by decide)] at H;exact H
  clear H;have H:=H1;clear H1;obtain rfl:=Option.some.inj H;go_enter Try.func124,Try.ntmps124
  go_wp2_with (first | ((with_reducible refine gate_callee (f:=119) rfl ?_);refine goesL_ (some 10) rfl rfl Try.func119 (by kernel_rfl) rfl #[.slice A0 l0.length c0] rfl (q20_) ?_;(with_reducible refine (spec_tiGood.calls k _ _ l0 false _ ?side1 ?side2 A5.out).mono ?_);(case side1=>exact cX_ HR0.out);(case side2=>exact HC0.out);rintro e w14 ⟨rfl,hb⟩;refine ⟨_,rfl,?_⟩;replace HB:=bS_ HB hb;(try clear hb)))
  go_ret;exact ⟨q4_,q19_⟩
/-! ### spec_ConfusedGlosses: function 25 -/
mutual
def spec_ConfusedGlosses.l0 : Nat → List (S58) → List (S58) → Int → Int → ByteArray → ByteArray → Int → Int → Option (ByteArray × ByteArray × Int × Bool)
 | 0,_,_,_,_,_,_,_,_=>none
 | k + 1,x0,x1,x2,x3,x12,x13,x14,x15=>if x15 < x3 then ((spec_agGloss.f k x0 x15).bind fun t102=>((spec_agGloss.f k x1 x15).bind fun t103=>(if t102.toList = ([] : List UInt8) then (spec_ConfusedGlosses.j1 k x0 x1 x2 x3 x12 x13 x14 x15 t102 t103 true) else (if t103.toList = ([] : List UInt8) then (spec_ConfusedGlosses.j1 k x0 x1 x2 x3 x12 x13 x14 x15 t102 t103 true) else (spec_ConfusedGlosses.j1 k x0 x1 x2 x3 x12 x13 x14 x15 t102 t103 (t102.toList == t103.toList)))))) else (if x14 = 0 then (some ((⟨#[]⟩ : ByteArray),(⟨#[]⟩ : ByteArray),0,false)) else (some (x12,x13,x14,true)))
def spec_ConfusedGlosses.j1 : Nat → List (S58) → List (S58) → Int → Int → ByteArray → ByteArray → Int → Int → ByteArray → ByteArray → Bool → Option (ByteArray × ByteArray × Int × Bool)
 | 0,_,_,_,_,_,_,_,_,_,_,_=>none
 | k + 1,x0,x1,x2,x3,x12,x13,x14,x15,x16,x17,x48=>if x48 = true then (spec_ConfusedGlosses.l0 k x0 x1 x2 x3 x12 x13 x14 (wrap64 (x15 + 1))) else (spec_ConfusedGlosses.l1 k x0 x1 x2 x3 x12 x13 x14 x15 x16 x17 0 x2)
def spec_ConfusedGlosses.l1 : Nat → List (S58) → List (S58) → Int → Int → ByteArray → ByteArray → Int → Int → ByteArray → ByteArray → Int → Int → Option (ByteArray × ByteArray × Int × Bool)
 | 0,_,_,_,_,_,_,_,_,_,_,_,_=>none
 | k + 1,x0,x1,x2,x3,x12,x13,x14,x15,x16,x17,x18,x19=>if x19 < x3 then ((spec_agGloss.f k x0 x19).bind fun t104=>(if t104.toList = x16.toList then ((spec_agGloss.f k x1 x19).bind fun t105=>(if t105.toList = x17.toList then (spec_ConfusedGlosses.l1 k x0 x1 x2 x3 x12 x13 x14 x15 x16 x17 (wrap64 (x18 + 1)) (wrap64 (x19 + 1))) else (spec_ConfusedGlosses.l1 k x0 x1 x2 x3 x12 x13 x14 x15 x16 x17 x18 (wrap64 (x19 + 1))))) else (spec_ConfusedGlosses.l1 k x0 x1 x2 x3 x12 x13 x14 x15 x16 x17 x18 (wrap64 (x19 + 1))))) else (if x18 > x14 then (spec_ConfusedGlosses.l0 k x0 x1 x2 x3 x16 x17 x18 (wrap64 (x15 + 1))) else (if x18 = x14 then (if (Op.bytesLess x16.toList x12.toList) = true then (spec_ConfusedGlosses.l0 k x0 x1 x2 x3 x16 x17 x18 (wrap64 (x15 + 1))) else (if x16.toList = x12.toList then (if (Op.bytesLess x17.toList x13.toList) = true then (spec_ConfusedGlosses.l0 k x0 x1 x2 x3 x16 x17 x18 (wrap64 (x15 + 1))) else (spec_ConfusedGlosses.l0 k x0 x1 x2 x3 x12 x13 x14 (wrap64 (x15 + 1)))) else (spec_ConfusedGlosses.l0 k x0 x1 x2 x3 x12 x13 x14 (wrap64 (x15 + 1))))) else (spec_ConfusedGlosses.l0 k x0 x1 x2 x3 x12 x13 x14 (wrap64 (x15 + 1)))))
end
def spec_ConfusedGlosses.f (k : Nat) (l0 : List (S58)) (l1 : List (S58)) (a2 : Int) (a3 : Int) : Option (ByteArray × ByteArray × Int × Bool):=(spec_agAsked.f k l0 l1 a2 a3).bind fun t101=>(if t101 = true then (spec_ConfusedGlosses.l0 k l0 l1 a2 a3 (⟨#[]⟩ : ByteArray) (⟨#[]⟩ : ByteArray) 0 a2) else (some ((⟨#[]⟩ : ByteArray),(⟨#[]⟩ : ByteArray),0,false)))
set_option maxHeartbeats 8000000 in
set_option maxRecDepth 100000 in
theorem spec_ConfusedGlosses.calls (k : Nat) (A0 : Option Addr) (c0 : Nat) (l0 : List (S58)) (A1 : Option Addr) (c1 : Nat) (l1 : List (S58)) (a2 : Int) (a3 : Int) (r1 : ByteArray) (r2 : ByteArray) (r3 : Int) (r4 : Bool) (w : World) (hr0 : Kd.C k58 w A0 l0.length l0) (hc0 : l0.length ≤ c0) (hr1 : Kd.C k58 w A1 l1.length l1) (hc1 : l1.length ≤ c1) (h : spec_ConfusedGlosses.f k l0 l1 a2 a3 = some (r1,r2,r3,r4)) :
  Calls Try.prog 25 #[.slice A0 l0.length c0,.slice A1 l1.length c1,.int .i64 a2,.int .i64 a3] w fun e w' => e = .returned (.tuple #[.string r1,.string r2,.int .i64 r3,.bool r4]) ∧ Below w.heap.size w w' := by
 have HR0:=Aside0.mk hr0;have HC0:=Aside0.mk hc0;clear hr0 hc0;have HR1:=Aside0.mk hr1;have HC1:=Aside0.mk hc1;clear hr1 hc1;have HB:=Aside0.mk (Below.refl w.heap.size w);have H : ((spec_agAsked.f k l0 l1 a2 a3).bind fun t101=>(if t101 = true then (spec_ConfusedGlosses.l0 k l0 l1 a2 a3 (⟨#[]⟩ : ByteArray) (⟨#[]⟩ : ByteArray) 0 a2) else (some ((⟨#[]⟩ : ByteArray),(⟨#[]⟩ : ByteArray),0,false)))) = some (r1,r2,r3,r4):=h;clear h;replace H:=Option.bind_eq_some_iff.mp H;obtain ⟨t101,A50,H⟩:=H;(try dsimp only at H);have A5:=Aside0.mk A50;clear A50;by_cases c6 : t101 = true
 ·subst c6;have H1 : (spec_ConfusedGlosses.l0 k l0 l1 a2 a3 (⟨#[]⟩ : ByteArray) (⟨#[]⟩ : ByteArray) 0 a2) = some (r1,r2,r3,r4):=by rw [if_pos rfl] at H;exact H
  clear H;have H:=H1;clear H1;have H' := Aside0.mk H;clear H;go_enter Try.func25,Try.ntmps25
  go_wp2_with (first | ((with_reducible refine gate_callee (f:=124) rfl ?_);refine goesL_ (some 24) rfl rfl Try.func124 (by kernel_rfl) rfl #[.slice A0 l0.length c0,.slice A1 l1.length c1,.int .i64 a2,.int .i64 a3] rfl (q20_) ?_;(with_reducible refine (spec_agAsked.calls k _ _ l0 _ _ l1 a2 a3 true _ ?side1 ?side2 ?side3 ?side4 A5.out).mono ?_);(case side1=>exact cX_ HR0.out);(case side2=>exact HC0.out);(case side3=>exact cX_ HR1.out);(case side4=>exact HC1.out);rintro e w7 ⟨rfl,hb⟩;refine ⟨_,rfl,?_⟩;replace HB:=bS_ HB hb;(try clear hb)))
  go_loopg [12,13,14,15] k (fun kq v12 v13 v14 v15 w' => ∃ (x12_1 : ByteArray) (x13_1 : ByteArray) (x14_1 : Int) (x15_1 : Int),v12 = .string x12_1 ∧ v13 = .string x13_1 ∧ v14 = .int .i64 x14_1 ∧ v15 = .int .i64 x15_1 ∧ Aside0 (spec_ConfusedGlosses.l0 kq l0 l1 a2 a3 x12_1 x13_1 x14_1 x15_1 = some (r1,r2,r3,r4)) ∧ Aside0 (kq ≤ k) ∧ Aside0 (Below w.heap.size w w'))
  case atStart=>exact ⟨((⟨#[]⟩ : ByteArray)),((⟨#[]⟩ : ByteArray)),(0),(a2),(q1_),(q1_),(q1_),(q1_),H', ⟨Nat.le_refl _⟩,⟨q19_⟩⟩
  case round =>
   clear H';try clear c1
   try clear c6
   obtain ⟨x12_1,x13_1,x14_1,x15_1,rfl,rfl,rfl,rfl,HA,HK1,HB⟩:=hrel;cases gk with
   | zero=>exact absurd HA.out (by simp [spec_ConfusedGlosses.l0])
   | succ k1 =>
    have H:=HA.out;clear HA;simp only [spec_ConfusedGlosses.l0] at H;by_cases c8 : x15_1 < a3
    ·rw [if_pos c8] at H;have c8b0 : decide (x15_1 < a3) = true:=decide_eq_true c8;clear c8;replace H:=Option.bind_eq_some_iff.mp H;obtain ⟨t102,A90,H⟩:=H;(try dsimp only at H);have A9:=Aside0.mk A90;clear A90;replace H:=Option.bind_eq_some_iff.mp H;obtain ⟨t103,A100,H⟩:=H;(try dsimp only at H);have A10:=Aside0.mk A100;clear A100;have HC11:=Aside0.mk H;clear H;go_upto_region 8 with (first | ((with_reducible refine gate_callee (f:=125) rfl ?_);refine goesL_ (some 34) rfl rfl Try.func125 (by kernel_rfl) rfl #[.slice A0 l0.length c0,.int .i64 x15_1] rfl (q20_) ?_;(with_reducible refine (spec_agGloss.calls k1 _ _ l0 x15_1 t102 _ ?side1 ?side2 A9.out).mono ?_);(case side1=>exact cX_ (Kd.C_below HR0.out HB.out));(case side2=>exact HC0.out);rintro e w12 ⟨rfl,hb⟩;refine ⟨_,rfl,?_⟩;replace HB:=bS_ HB hb;(try clear hb)) | ((with_reducible refine gate_callee (f:=125) rfl ?_);refine goesL_ (some 37) rfl rfl Try.func125 (by kernel_rfl) rfl #[.slice A1 l1.length c1,.int .i64 x15_1] rfl (q20_) ?_;(with_reducible refine (spec_agGloss.calls k1 _ _ l1 x15_1 t103 _ ?side1 ?side2 A10.out).mono ?_);(case side1=>exact cX_ (Kd.C_below HR1.out HB.out));(case side2=>exact HC1.out);rintro e w13 ⟨rfl,hb⟩;refine ⟨_,rfl,?_⟩;replace HB:=bS_ HB hb;(try clear hb)))
     (try simp only [Act.put,List.setIfInBounds_toArray,List.set_cons_zero,List.set_cons_succ])
     go_cut [48] (fun v48 wc=>∃ (kq : Nat) (x48_10 : Bool),v48 = .bool x48_10 ∧ Aside0 (spec_ConfusedGlosses.j1 kq l0 l1 a2 a3 x12_1 x13_1 x14_1 x15_1 t102 t103 x48_10 = some (r1,r2,r3,r4)) ∧ Aside0 (kq ≤ k1) ∧ Aside0 (Below w.heap.size w wc))
     case first =>
      have H:=HC11.out;clear HC11;by_cases c14 : t102.toList = ([] : List UInt8)
      ·rw [if_pos c14] at H;have c14b0 : (t102.toList == ([] : List UInt8)) = true:=beq_iff_eq.mpr c14;have c14b1 : (t102.toList != ([] : List UInt8)) = false:=bne_eq_false_iff_eq.mpr c14;clear c14
       (first | rw [c14b0] | (simp only [i64_w,i32_w];rw [c14b0]) | skip)
       have H' := Aside0.mk H;clear H;go_wp2;go_meet
       case rel=>exact ⟨_,(true),(q1_),H', ⟨by have:=HK1.out;first | omega | exact Nat.le_refl _⟩,⟨q19_⟩⟩
      ·rw [if_neg c14] at H;have c14b0 : (t102.toList == ([] : List UInt8)) = false:=beq_eq_false_iff_ne.mpr c14;have c14b1 : (t102.toList != ([] : List UInt8)) = true:=bne_iff_ne.mpr c14
       (first | rw [c14b0] | (simp only [i64_w,i32_w];rw [c14b0]) | skip)
       by_cases c15 : t103.toList = ([] : List UInt8)
       ·rw [if_pos c15] at H;have c15b0 : (t103.toList == ([] : List UInt8)) = true:=beq_iff_eq.mpr c15;have c15b1 : (t103.toList != ([] : List UInt8)) = false:=bne_eq_false_iff_eq.mpr c15;clear c15;have H' := Aside0.mk H;clear H;go_wp2;go_meet
        case rel=>exact ⟨_,(true),(q1_),H', ⟨by have:=HK1.out;first | omega | exact Nat.le_refl _⟩,⟨q19_⟩⟩
       ·rw [if_neg c15] at H;have c15b0 : (t103.toList == ([] : List UInt8)) = false:=beq_eq_false_iff_ne.mpr c15;have c15b1 : (t103.toList != ([] : List UInt8)) = true:=bne_iff_ne.mpr c15;have H' := Aside0.mk H;clear H;go_wp2;go_meet
        case rel=>exact ⟨_,((t102.toList == t103.toList)),(q1_),H', ⟨by have:=HK1.out;first | omega | exact Nat.le_refl _⟩,⟨q19_⟩⟩
     case rest =>
      clear HC11;try clear c1
      try clear c6
      try clear c8
      try clear c8b0
      try clear c14
      try clear c14b0
      try clear c14b1
      try clear c15
      try clear c15b0
      try clear c15b1
      obtain ⟨kq,x48_10,rfl,HA,HJ10,HB⟩:=hcut;cases kq with
      | zero=>exact absurd HA.out (by simp [spec_ConfusedGlosses.j1])
      | succ kj10 =>
       have H:=HA.out;clear HA;simp only [spec_ConfusedGlosses.j1] at H;by_cases c16 : x48_10 = true
       ·subst c16;have H1 : (spec_ConfusedGlosses.l0 kj10 l0 l1 a2 a3 x12_1 x13_1 x14_1 (wrap64 (x15_1 + 1))) = some (r1,r2,r3,r4):=by rw [if_pos rfl] at H;exact H
        clear H;have H:=H1;clear H1;have H' := Aside0.mk H;clear H;go_wp2;go_roundg kj10
        case measure=>have:=HK1.out;have:=HJ10.out;omega
        case rel=>exact ⟨(x12_1),(x13_1),(x14_1),(wrap64 (x15_1 + 1)),(q1_),(q1_),(q1_),(q1_),H', ⟨by have:=HK1.out;have:=HJ10.out;omega⟩,⟨q19_⟩⟩
       ·replace c16:=Bool.eq_false_iff.mpr c16;subst c16;have H1 : (spec_ConfusedGlosses.l1 kj10 l0 l1 a2 a3 x12_1 x13_1 x14_1 x15_1 t102 t103 0 a2) = some (r1,r2,r3,r4):=by rw [if_neg (show ¬ (false = true) by decide)] at H;exact H
        clear H;have H:=H1;clear H1;have H' := Aside0.mk H;clear H;go_wp2;go_loopg [18,19] kj10 (fun kq v18 v19 w' => ∃ (x18_3 : Int) (x19_3 : Int),v18 = .int .i64 x18_3 ∧ v19 = .int .i64 x19_3 ∧ Aside0 (spec_ConfusedGlosses.l1 kq l0 l1 a2 a3 x12_1 x13_1 x14_1 x15_1 t102 t103 x18_3 x19_3 = some (r1,r2,r3,r4)) ∧ Aside0 (kq ≤ kj10) ∧ Aside0 (Below w.heap.size w w'))
        case atStart=>exact ⟨(0),(a2),(q1_),(q1_),H', ⟨Nat.le_refl _⟩,⟨q19_⟩⟩
        case round =>
         clear H';try clear c1
         try clear c6
         try clear c8
         try clear c8b0
         try clear c14
         try clear c14b0
         try clear c14b1
         try clear c15
         try clear c15b0
         try clear c15b1
         try clear c16
         obtain ⟨x18_3,x19_3,rfl,rfl,HA,HK3,HB⟩:=hrel;cases gk with
         | zero=>exact absurd HA.out (by simp [spec_ConfusedGlosses.l1])
         | succ k3 =>
          have H:=HA.out;clear HA;simp only [spec_ConfusedGlosses.l1] at H;by_cases c17 : x19_3 < a3
          ·rw [if_pos c17] at H;have c17b0 : decide (x19_3 < a3) = true:=decide_eq_true c17;clear c17;replace H:=Option.bind_eq_some_iff.mp H;obtain ⟨t104,A180,H⟩:=H;(try dsimp only at H);have A18:=Aside0.mk A180;clear A180;by_cases c19 : t104.toList = t102.toList
           ·rw [if_pos c19] at H;have c19b0 : (t104.toList == t102.toList) = true:=beq_iff_eq.mpr c19;have c19b1 : (t104.toList != t102.toList) = false:=bne_eq_false_iff_eq.mpr c19;clear c19;replace H:=Option.bind_eq_some_iff.mp H;obtain ⟨t105,A200,H⟩:=H;(try dsimp only at H);have A20:=Aside0.mk A200;clear A200;by_cases c21 : t105.toList = t103.toList
            ·rw [if_pos c21] at H;have c21b0 : (t105.toList == t103.toList) = true:=beq_iff_eq.mpr c21;have c21b1 : (t105.toList != t103.toList) = false:=bne_eq_false_iff_eq.mpr c21;clear c21;have H' := Aside0.mk H;clear H;go_wp2_with (first | ((with_reducible refine gate_callee (f:=125) rfl ?_);refine goesL_ (some 57) rfl rfl Try.func125 (by kernel_rfl) rfl #[.slice A0 l0.length c0,.int .i64 x19_3] rfl (q20_) ?_;(with_reducible refine (spec_agGloss.calls k3 _ _ l0 x19_3 t104 _ ?side1 ?side2 A18.out).mono ?_);(case side1=>exact cX_ (Kd.C_below HR0.out HB.out));(case side2=>exact HC0.out);rintro e w22 ⟨rfl,hb⟩;refine ⟨_,rfl,?_⟩;replace HB:=bS_ HB hb;(try clear hb)) | (go_at_call 125;(with_reducible refine (spec_agGloss.calls k3 _ _ l1 x19_3 t105 _ ?side1 ?side2 A20.out).mono ?_);(case side1=>exact cX_ (Kd.C_below HR1.out HB.out));(case side2=>exact HC1.out);rintro e w23 ⟨rfl,hb⟩;replace HB:=bS_ HB hb;(try clear hb)))
             go_roundg k3
             case measure=>have:=HK1.out;have:=HJ10.out;have:=HK3.out;omega
             case rel=>exact ⟨(wrap64 (x18_3 + 1)),(wrap64 (x19_3 + 1)),(q1_),(q1_),H', ⟨by have:=HK1.out;have:=HJ10.out;have:=HK3.out;omega⟩,⟨q19_⟩⟩
            ·rw [if_neg c21] at H;have c21b0 : (t105.toList == t103.toList) = false:=beq_eq_false_iff_ne.mpr c21;have c21b1 : (t105.toList != t103.toList) = true:=bne_iff_ne.mpr c21;have H' := Aside0.mk H;clear H;go_wp2_with (first | ((with_reducible refine gate_callee (f:=125) rfl ?_);refine goesL_ (some 57) rfl rfl Try.func125 (by kernel_rfl) rfl #[.slice A0 l0.length c0,.int .i64 x19_3] rfl (q20_) ?_;(with_reducible refine (spec_agGloss.calls k3 _ _ l0 x19_3 t104 _ ?side1 ?side2 A18.out).mono ?_);(case side1=>exact cX_ (Kd.C_below HR0.out HB.out));(case side2=>exact HC0.out);rintro e w24 ⟨rfl,hb⟩;refine ⟨_,rfl,?_⟩;replace HB:=bS_ HB hb;(try clear hb)) | (go_at_call 125;(with_reducible refine (spec_agGloss.calls k3 _ _ l1 x19_3 t105 _ ?side1 ?side2 A20.out).mono ?_);(case side1=>exact cX_ (Kd.C_below HR1.out HB.out));(case side2=>exact HC1.out);rintro e w25 ⟨rfl,hb⟩;replace HB:=bS_ HB hb;(try clear hb)))
             go_roundg k3
             case measure=>have:=HK1.out;have:=HJ10.out;have:=HK3.out;omega
             case rel=>exact ⟨(x18_3),(wrap64 (x19_3 + 1)),(q1_),(q1_),H', ⟨by have:=HK1.out;have:=HJ10.out;have:=HK3.out;omega⟩,⟨q19_⟩⟩
           ·rw [if_neg c19] at H;have c19b0 : (t104.toList == t102.toList) = false:=beq_eq_false_iff_ne.mpr c19;have c19b1 : (t104.toList != t102.toList) = true:=bne_iff_ne.mpr c19;have H' := Aside0.mk H;clear H;go_wp2_with (first | ((with_reducible refine gate_callee (f:=125) rfl ?_);refine goesL_ (some 57) rfl rfl Try.func125 (by kernel_rfl) rfl #[.slice A0 l0.length c0,.int .i64 x19_3] rfl (q20_) ?_;(with_reducible refine (spec_agGloss.calls k3 _ _ l0 x19_3 t104 _ ?side1 ?side2 A18.out).mono ?_);(case side1=>exact cX_ (Kd.C_below HR0.out HB.out));(case side2=>exact HC0.out);rintro e w26 ⟨rfl,hb⟩;refine ⟨_,rfl,?_⟩;replace HB:=bS_ HB hb;(try clear hb)))
            go_roundg k3
            case measure=>have:=HK1.out;have:=HJ10.out;have:=HK3.out;omega
            case rel=>exact ⟨(x18_3),(wrap64 (x19_3 + 1)),(q1_),(q1_),H', ⟨by have:=HK1.out;have:=HJ10.out;have:=HK3.out;omega⟩,⟨q19_⟩⟩
          ·rw [if_neg c17] at H;have c17b0 : decide (x19_3 < a3) = false:=decide_eq_false c17;clear c17;by_cases c27 : x18_3 > x14_1
           ·rw [if_pos c27] at H;have c27b0 : decide (x14_1 < x18_3) = true:=decide_eq_true c27;clear c27;have H' := Aside0.mk H;clear H;go_wp2;go_roundg k3
            case measure=>have:=HK1.out;have:=HJ10.out;have:=HK3.out;omega
            case rel=>exact ⟨(t102),(t103),(x18_3),(wrap64 (x15_1 + 1)),(q1_),(q1_),(q1_),(q1_),H', ⟨by have:=HK1.out;have:=HJ10.out;have:=HK3.out;omega⟩,⟨q19_⟩⟩
           ·rw [if_neg c27] at H;have c27b0 : decide (x14_1 < x18_3) = false:=decide_eq_false c27;clear c27;by_cases c28 : x18_3 = x14_1
            ·rw [if_pos c28] at H;have c28b0 : (x18_3 == x14_1) = true:=beq_iff_eq.mpr c28;have c28b1 : (x18_3 != x14_1) = false:=bne_eq_false_iff_eq.mpr c28;clear c28;by_cases c29 : (Op.bytesLess t102.toList x12_1.toList) = true
             ·rw [if_pos c29] at H;have c29b0 : (Op.bytesLess t102.toList x12_1.toList) = true:=c29;clear c29;have H' := Aside0.mk H;clear H;go_wp2;go_roundg k3
              case measure=>have:=HK1.out;have:=HJ10.out;have:=HK3.out;omega
              case rel=>exact ⟨(t102),(t103),(x18_3),(wrap64 (x15_1 + 1)),(q1_),(q1_),(q1_),(q1_),H', ⟨by have:=HK1.out;have:=HJ10.out;have:=HK3.out;omega⟩,⟨q19_⟩⟩
             ·rw [if_neg c29] at H;have c29b0 : (Op.bytesLess t102.toList x12_1.toList) = false:=by simpa using c29
              clear c29;by_cases c30 : t102.toList = x12_1.toList
              ·rw [if_pos c30] at H;have c30b0 : (t102.toList == x12_1.toList) = true:=beq_iff_eq.mpr c30;have c30b1 : (t102.toList != x12_1.toList) = false:=bne_eq_false_iff_eq.mpr c30;clear c30;by_cases c31 : (Op.bytesLess t103.toList x13_1.toList) = true
               ·rw [if_pos c31] at H;have c31b0 : (Op.bytesLess t103.toList x13_1.toList) = true:=c31;clear c31;have H' := Aside0.mk H;clear H;go_wp2;go_roundg k3
                case measure=>have:=HK1.out;have:=HJ10.out;have:=HK3.out;omega
                case rel=>exact ⟨(t102),(t103),(x18_3),(wrap64 (x15_1 + 1)),(q1_),(q1_),(q1_),(q1_),H', ⟨by have:=HK1.out;have:=HJ10.out;have:=HK3.out;omega⟩,⟨q19_⟩⟩
               ·rw [if_neg c31] at H;have c31b0 : (Op.bytesLess t103.toList x13_1.toList) = false:=by simpa using c31
                clear c31;have H' := Aside0.mk H;clear H;go_wp2;go_roundg k3
                case measure=>have:=HK1.out;have:=HJ10.out;have:=HK3.out;omega
                case rel=>exact ⟨(x12_1),(x13_1),(x14_1),(wrap64 (x15_1 + 1)),(q1_),(q1_),(q1_),(q1_),H', ⟨by have:=HK1.out;have:=HJ10.out;have:=HK3.out;omega⟩,⟨q19_⟩⟩
              ·rw [if_neg c30] at H;have c30b0 : (t102.toList == x12_1.toList) = false:=beq_eq_false_iff_ne.mpr c30;have c30b1 : (t102.toList != x12_1.toList) = true:=bne_iff_ne.mpr c30;have H' := Aside0.mk H;clear H;go_wp2;go_roundg k3
               case measure=>have:=HK1.out;have:=HJ10.out;have:=HK3.out;omega
               case rel=>exact ⟨(x12_1),(x13_1),(x14_1),(wrap64 (x15_1 + 1)),(q1_),(q1_),(q1_),(q1_),H', ⟨by have:=HK1.out;have:=HJ10.out;have:=HK3.out;omega⟩,⟨q19_⟩⟩
            ·rw [if_neg c28] at H;have c28b0 : (x18_3 == x14_1) = false:=beq_eq_false_iff_ne.mpr c28;have c28b1 : (x18_3 != x14_1) = true:=bne_iff_ne.mpr c28;have H' := Aside0.mk H;clear H;go_wp2;go_roundg k3
             case measure=>have:=HK1.out;have:=HJ10.out;have:=HK3.out;omega
             case rel=>exact ⟨(x12_1),(x13_1),(x14_1),(wrap64 (x15_1 + 1)),(q1_),(q1_),(q1_),(q1_),H', ⟨by have:=HK1.out;have:=HJ10.out;have:=HK3.out;omega⟩,⟨q19_⟩⟩
    ·rw [if_neg c8] at H;have c8b0 : decide (x15_1 < a3) = false:=decide_eq_false c8;clear c8;by_cases c32 : x14_1 = 0
     ·rw [if_pos c32] at H;have c32b0 : (x14_1 == 0) = true:=beq_iff_eq.mpr c32;have c32b1 : (x14_1 != 0) = false:=bne_eq_false_iff_eq.mpr c32;clear c32;simp only [Option.some.injEq,Prod.mk.injEq] at H;obtain ⟨rfl,rfl,rfl,rfl⟩:=H;go_wp2;refine bodyPost_ret (results_list (rs:=[.tmp 8,.tmp 9,.tmp 10,.tmp 11]) rfl (by simp) (.tmp (.tmp (.tmp (.tmp .nil))))) rfl ?_;exact ⟨q4_,q19_⟩
     ·rw [if_neg c32] at H;have c32b0 : (x14_1 == 0) = false:=beq_eq_false_iff_ne.mpr c32;have c32b1 : (x14_1 != 0) = true:=bne_iff_ne.mpr c32;simp only [Option.some.injEq,Prod.mk.injEq] at H;obtain ⟨rfl,rfl,rfl,rfl⟩:=H;go_wp2;refine bodyPost_ret (results_list (rs:=[.tmp 8,.tmp 9,.tmp 10,.tmp 11]) rfl (by simp) (.tmp (.tmp (.tmp (.tmp .nil))))) rfl ?_;exact ⟨q4_,q19_⟩
 ·replace c6:=Bool.eq_false_iff.mpr c6;subst c6;have H1 : (some ((⟨#[]⟩ : ByteArray),(⟨#[]⟩ : ByteArray),0,false)) = some (r1,r2,r3,r4):=by rw [if_neg (show ¬ (false = true) by decide)] at H;exact H
  clear H;have H:=H1;clear H1;simp only [Option.some.injEq,Prod.mk.injEq] at H;obtain ⟨rfl,rfl,rfl,rfl⟩:=H;go_enter Try.func25,Try.ntmps25
  go_wp2_with (first | ((with_reducible refine gate_callee (f:=124) rfl ?_);refine goesL_ (some 24) rfl rfl Try.func124 (by kernel_rfl) rfl #[.slice A0 l0.length c0,.slice A1 l1.length c1,.int .i64 a2,.int .i64 a3] rfl (q20_) ?_;(with_reducible refine (spec_agAsked.calls k _ _ l0 _ _ l1 a2 a3 false _ ?side1 ?side2 ?side3 ?side4 A5.out).mono ?_);(case side1=>exact cX_ HR0.out);(case side2=>exact HC0.out);(case side3=>exact cX_ HR1.out);(case side4=>exact HC1.out);rintro e w33 ⟨rfl,hb⟩;refine ⟨_,rfl,?_⟩;replace HB:=bS_ HB hb;(try clear hb)))
  refine bodyPost_ret (results_list (rs:=[.tmp 8,.tmp 9,.tmp 10,.tmp 11]) rfl (by simp) (.tmp (.tmp (.tmp (.tmp .nil))))) rfl ?_;exact ⟨q4_,q19_⟩
/-! ### impl_frameGlosses: function 127 -/
def impl_frameGlosses.l0 : Nat → List (S58) → Int → List ByteArray → Int → Option (List ByteArray)
 | 0,_,_,_,_=>none
 | k + 1,x0,x2,x7,x8=>if x8 < x2 then ((impl_glossAt.f x0 x8).bind fun t101=>(if x7.length < 8796093022208 then (impl_frameGlosses.l0 k x0 x2 (x7 ++ [t101]) (wrap64 (x8 + 1))) else (none))) else (some x7)
def impl_frameGlosses.f (k : Nat) (l0 : List (S58)) (a1 : Int) (a2 : Int) : Option (List ByteArray):=impl_frameGlosses.l0 k l0 a2 ([] : List ByteArray) a1
set_option maxHeartbeats 8000000 in
set_option maxRecDepth 100000 in
theorem impl_frameGlosses.calls (k : Nat) (A0 : Option Addr) (c0 : Nat) (l0 : List (S58)) (a1 : Int) (a2 : Int) (r : List ByteArray) (w : World) (hr0 : Kd.C k58 w A0 l0.length l0) (hc0 : l0.length ≤ c0) (h : impl_frameGlosses.f k l0 a1 a2 = some r) :
  Calls Try.prog 127 #[.slice A0 l0.length c0,.int .i64 a1,.int .i64 a2] w fun e w' => ∃ v0_ : Value,e = .returned (v0_) ∧ Kd.R Kd.string 9 w' w.heap.size (fun _=>True) v0_ r ∧ Below w.heap.size w w' := by
 have HR0:=Aside0.mk hr0;have HC0:=Aside0.mk hc0;clear hr0 hc0;have HB:=Aside0.mk (Below.refl w.heap.size w);have H : (impl_frameGlosses.l0 k l0 a2 ([] : List ByteArray) a1) = some r:=h;clear h;have H' := Aside0.mk H;clear H;go_enter Try.func127,Try.ntmps127
 go_wp2;go_loopg [7,8] k (fun kq v7 v8 w' => ∃ (x7_1 : List ByteArray) (x8_1 : Int),v8 = .int .i64 x8_1 ∧ Aside0 (impl_frameGlosses.l0 kq l0 a2 x7_1 x8_1 = some r) ∧ Aside0 (kq ≤ k) ∧ Aside0 (Kd.R Kd.string 9 w' w.heap.size (fun _=>True) v7 x7_1) ∧ Aside0 (Below w.heap.size w w'))
 case atStart=>exact ⟨(([] : List ByteArray)),(a1),(q1_),H', ⟨Nat.le_refl _⟩,⟨q21_⟩,⟨q19_⟩⟩
 case round =>
  clear H';obtain ⟨x7_1,x8_1,rfl,HA,HK1,HO_7,HB⟩:=hrel;cases gk with
  | zero=>exact absurd HA.out (by simp [impl_frameGlosses.l0])
  | succ k1 =>
   have H:=HA.out;clear HA;simp only [impl_frameGlosses.l0] at H;by_cases c4 : x8_1 < a2
   ·rw [if_pos c4] at H;have c4b0 : decide (x8_1 < a2) = true:=decide_eq_true c4;clear c4;replace H:=Option.bind_eq_some_iff.mp H;obtain ⟨t101,A50,H⟩:=H;(try dsimp only at H);have A5:=Aside0.mk A50;clear A50;by_cases c6 : x7_1.length < 8796093022208
    ·rw [if_pos c6] at H;have LMc6:=Aside0.mk c6;clear c6;obtain ⟨y102,hy102⟩ : ∃ y_ : List ByteArray,y_ = (x7_1 ++ [t101]):=⟨_,rfl⟩;replace H : (impl_frameGlosses.l0 k1 l0 a2 y102 (wrap64 (x8_1 + 1))) = some r:=by first | (rw [hy102];with_reducible exact H) | (have H2_:=(Option.bind_some _ _).symm.trans H;rw [hy102];with_reducible exact H2_) | (have H2_:=(Option.bind_some _ _).symm.trans H;with_reducible exact H2_) | with_reducible exact H | (rw [hy102];exact H) | exact H
     have Ny102:=Aside0.mk hy102;clear hy102;have H' := Aside0.mk H;clear H;go_wp2_with (first | ((with_reducible refine gate_callee (f:=182) rfl ?_);refine goesL_ (some 18) rfl rfl Try.func182 (by kernel_rfl) rfl #[.slice A0 l0.length c0,.int .i64 x8_1] rfl (q20_) ?_;(with_reducible refine (impl_glossAt.calls _ _ l0 x8_1 t101 _ ?side1 ?side2 A5.out).mono ?_);(case side1=>exact cX_ (Kd.C_below HR0.out HB.out));(case side2=>exact HC0.out);rintro e w7 ⟨rfl,hb⟩;refine ⟨_,rfl,?_⟩;replace HO_7:=rB_ HO_7 hb;replace HB:=bS_ HB hb;(try clear hb);(try clear hk)) | ((with_reducible refine gate_builtin (b:=.append) (xs:=#[.tmp 15,.tmp 19]) rfl ?_);at_builtin;refine Kd.R_append Kd.string (w0:=w) w.heap.size rfl (.tmp 15) (.tmp 19) 97 9 (.string ⟨#[]⟩) 16 rfl Try.underlying97 info9 rfl (by decide) (by omega) u7 x7_1 t101 [.string t101] (fun _=>True) (fun _=>False) rfl rfl ?aP (fun _ hk=>hk.elim) ?aF ?aO ?aB ?aS ?aL ?_;(case aP=>exact rfl);(case aB=>exact (q19_));(case aF=>exact (fun _ _=>trivial));(case aO=>exact (by (with_reducible repeat (first | apply Kd.R_alloc | apply Kd.R_drewN | apply Kd.R_drew));exact HO_7.out));(case aS=>exact (below_size (q19_)));(case aL=>have:=LMc6.out;omega);intro v103 w8 ho hb hg hat;rw [← Ny102.out] at ho;replace HB:=Aside0.mk (hb);have HO104:=Aside0.mk (ho);clear HO_7;clear ho hb hg hat))
     go_roundg k1
     case measure=>have:=HK1.out;omega
     case rel=>exact ⟨(y102),(wrap64 (x8_1 + 1)),(q1_),H', ⟨by have:=HK1.out;omega⟩,⟨q10_⟩,⟨q19_⟩⟩
    ·rw [if_neg c6] at H;exact absurd H (by simp)
   ·rw [if_neg c4] at H;have c4b0 : decide (x8_1 < a2) = false:=decide_eq_false c4;clear c4;obtain rfl:=Option.some.inj H;go_wp2;go_ret;exact ⟨_,q4_,by (with_reducible repeat (first | apply Kd.R_alloc | apply Kd.R_drewN | apply Kd.R_drew));exact HO_7.out,q19_⟩
/-! ### cmp_isNaN_string: function 258 -/
def cmp_isNaN_string.f (a0 : ByteArray) : Option (Bool):=some (a0.toList != a0.toList)
set_option maxHeartbeats 8000000 in
set_option maxRecDepth 100000 in
theorem cmp_isNaN_string.calls (a0 : ByteArray) (r : Bool) (w : World) (h : cmp_isNaN_string.f a0 = some r) :
  Calls Try.prog 258 #[.string a0] w fun e w' => e = .returned (.bool r) ∧ Drawn0 w w' := by
 have H : (some (a0.toList != a0.toList)) = some r:=h;clear h;obtain rfl:=Option.some.inj H;go_enter Try.func258,Try.ntmps258
 go_wp2;go_ret;exact ⟨q1_,q3_⟩
end Go.Proofs.Ytgapcmmhbegdeaa.G
