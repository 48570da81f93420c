-- Written by this session's own program over the kit's print (wip/tools/myprint.py); Lean checks it.
import Derived.Test.YtgapcmmhbegdeaaMBase
import Derived.Test.YtgapcmmhbegdeaaG0
import Derived.Test.YtgapcmmhbegdeaaG2
import Derived.Test.YtgapcmmhbegdeaaG3
import Derived.Test.YtgapcmmhbegdeaaG4
namespace Go.Proofs.Ytgapcmmhbegdeaa.G
open Go.RowKit Go.Proofs.YtgapcmmhbegdeaaW.PrintWords Go.Proofs.YtgapcmmhbegdeaaW.PrintLast Go.Proofs.YtgapcmmhbegdeaaW.PrintMore
attribute [local go_sem] max2_int min2_int max_two min_two max_three min_three max_four min_four str_geq str_gtr str_leq   -- for this text's walks alone
set_option linter.unusedVariables false
set_option linter.unusedSimpArgs false
/-! ### yAV: function 112 -/
def yAV.l0 : Nat → List (List (S58)) → List (List (S58)) → Int → Int → Option (Bool)
 | 0,_,_,_,_=>none
 | k + 1,x0,x5,x6,x7=>if x7 < x6 then (if 0 ≤ x7 then (if x7 < (x5.length : Int) then ((yAK.f k (rd_L13 x5 x7)).bind fun t102=>(if t102 = true then (yAV.l0 k x0 x5 x6 (wrap64 (x7 + 1))) else (some false))) else (none)) else (none)) else ((yAc.f (x0.length : Int) 1 5).bind fun t103=>(some t103))
def yAV.f (k : Nat) (l0 : List (List (S58))) : Option (Bool):=yAV.l0 k l0 l0 (l0.length : Int) 0
set_option maxHeartbeats 8000000 in
set_option maxRecDepth 100000 in
theorem yAV.calls (k : Nat) (A0 : Option Addr) (c0 : Nat) (l0 : List (List (S58))) (r : Bool) (w : World) (hr0 : Kd.C (Kd.slice 58 k58) w A0 l0.length l0) (hc0 : l0.length ≤ c0) (h : yAV.f k l0 = some r) :
  Calls Try.prog 112 #[.slice A0 l0.length c0] w fun e w' => e = .returned (.bool r) ∧ Below w.heap.size w w' := by
 have HR0:=Aside0.mk hr0;have HC0:=Aside0.mk hc0;clear hr0 hc0;have HB:=Aside0.mk (Below.refl w.heap.size w);have H : (yAV.l0 k l0 l0 (l0.length : Int) 0) = some r:=h;clear h;have H' := Aside0.mk H;clear H;go_enter Try.func112,Try.ntmps112
 go_wp2;go_loopg [7] k (fun kq v7 w' => ∃ (x7_1 : Int),v7 = .int .i64 x7_1 ∧ Aside0 (yAV.l0 kq l0 l0 (l0.length : Int) x7_1 = some r) ∧ Aside0 (kq ≤ k) ∧ Aside0 (Below w.heap.size w w'))
 case atStart=>exact ⟨(0),(q1_),H', ⟨Nat.le_refl _⟩,⟨q29_⟩⟩
 case round =>
  clear H';obtain ⟨x7_1,rfl,HA,HK1,HB⟩:=hrel;cases gk with
  | zero=>exact absurd HA.out (by simp [yAV.l0])
  | succ k1 =>
   have H:=HA.out;clear HA;simp only [yAV.l0] at H;by_cases c2 : x7_1 < (l0.length : Int)
   ·rw [if_pos c2] at H;have c2b0:=decide_eq_true c2;clear c2;by_cases c3 : 0 ≤ x7_1
    ·rw [if_pos c3] at H;have c3b0:=decide_eq_true c3;clear c3;by_cases c4 : x7_1 < (l0.length : Int)
     ·rw [if_pos c4] at H;have c4b0:=decide_eq_true c4;clear c4;replace H:=Option.bind_eq_some_iff.mp H;obtain ⟨t102,A50,H⟩:=H;(try dsimp only at H);have A5:=Aside0.mk A50;clear A50;by_cases c6 : t102 = true
      ·subst c6;rw [if_pos rfl] at H;have H' := Aside0.mk H;clear H;have p101 : 0 ≤ (x7_1 : Int):=of_decide_eq_true (q2_);have q101 : x7_1 < (l0.length : Int):=of_decide_eq_true (q2_);obtain ⟨ad101,A101_0,c101_0,e101,hx101_0,hl101_0,hi101_0⟩:=at_L13 HR0.out x7_1 p101 q101;cases e101;replace hx101_0:=hB_ HB.out hx101_0;have HR101_0:=Aside0.mk hi101_0;have HC101_0:=Aside0.mk hl101_0;clear hi101_0 hl101_0;replace p101:=eq_true p101;replace q101:=eq_true q101;go_wp2_with (first | ((with_reducible refine gate_callee (f:=119) rfl ?_);refine goesL_ (some 12) rfl rfl Try.func119 (by kernel_rfl) rfl #[.slice A101_0 (rd_L13 l0 x7_1).length c101_0] rfl (q30_) ?_;(with_reducible refine (yAK.calls k1 _ _ (rd_L13 l0 x7_1) true _ ?side1 ?side2 A5.out).mono ?_);(case side1=>exact cX_ (Kd.C_below HR101_0.out HB.out));(case side2=>exact HC101_0.out);rintro e w7 ⟨rfl,hb⟩;refine ⟨_,rfl,?_⟩;replace HB:=bS_ HB hb;(try clear hb)))
       go_roundg k1
       case measure=>have:=HK1.out;omega
       case rel=>exact ⟨(wrap64 (x7_1 + 1)),(q1_),H', ⟨by have:=HK1.out;omega⟩,⟨q29_⟩⟩
      ·replace c6:=Bool.eq_false_iff.mpr c6;subst c6;rw [if_neg (show ¬ (false = true) by decide)] at H;obtain rfl:=Option.some.inj H;have p101 : 0 ≤ (x7_1 : Int):=of_decide_eq_true (q2_);have q101 : x7_1 < (l0.length : Int):=of_decide_eq_true (q2_);obtain ⟨ad101,A101_0,c101_0,e101,hx101_0,hl101_0,hi101_0⟩:=at_L13 HR0.out x7_1 p101 q101;cases e101;replace hx101_0:=hB_ HB.out hx101_0;have HR101_0:=Aside0.mk hi101_0;have HC101_0:=Aside0.mk hl101_0;clear hi101_0 hl101_0;replace p101:=eq_true p101;replace q101:=eq_true q101;go_wp2_with (first | ((with_reducible refine gate_callee (f:=119) rfl ?_);refine goesL_ (some 12) rfl rfl Try.func119 (by kernel_rfl) rfl #[.slice A101_0 (rd_L13 l0 x7_1).length c101_0] rfl (q30_) ?_;(with_reducible refine (yAK.calls k1 _ _ (rd_L13 l0 x7_1) false _ ?side1 ?side2 A5.out).mono ?_);(case side1=>exact cX_ (Kd.C_below HR101_0.out HB.out));(case side2=>exact HC101_0.out);rintro e w8 ⟨rfl,hb⟩;refine ⟨_,rfl,?_⟩;replace HB:=bS_ HB hb;(try clear hb)))
       go_ret;exact ⟨q4_,q29_⟩
     ·rw [if_neg c4] at H;exact absurd H (by simp)
    ·rw [if_neg c3] at H;exact absurd H (by simp)
   ·rw [if_neg c2] at H;have c2b0:=decide_eq_false c2;clear c2;replace H:=Option.bind_eq_some_iff.mp H;obtain ⟨t103,A90,H⟩:=H;(try dsimp only at H);have A9:=Aside0.mk A90;clear A90;obtain rfl:=Option.some.inj H;go_wp2_with (first | ((with_reducible refine gate_callee (f:=146) rfl ?_);refine goesL_ (some 17) rfl rfl Try.func146 (by kernel_rfl) rfl #[.int .i64 (l0.length : Int),.int .i64 1,.int .i64 5] rfl (q30_) ?_;(with_reducible refine (yAc.calls (l0.length : Int) 1 5 t103 _ A9.out).mono ?_);rintro e w' ⟨rfl,⟨nd,rfl⟩⟩;refine ⟨_,rfl,?_⟩))
    go_ret;exact ⟨q4_,q29_⟩
/-! ### yAh: function 114 -/
def yAh.l0 : Nat → List (S58) → List (S58) → Int → Int → Int → Option (Int)
 | 0,_,_,_,_,_=>none
 | k + 1,x0,x1,x3,x9,x10=>if x10 < x3 then ((yAR.f k x0 x10).bind fun t101=>((yAR.f k x1 x10).bind fun t102=>(if t101.toList = t102.toList then (yAh.l0 k x0 x1 x3 (wrap64 (x9 + 1)) (wrap64 (x10 + 1))) else (yAh.l0 k x0 x1 x3 x9 (wrap64 (x10 + 1)))))) else (some x9)
def yAh.f (k : Nat) (l0 : List (S58)) (l1 : List (S58)) (a2 : Int) (a3 : Int) : Option (Int):=yAh.l0 k l0 l1 a3 0 a2
set_option maxHeartbeats 8000000 in
set_option maxRecDepth 100000 in
theorem yAh.calls (k : Nat) (A0 : Option Addr) (c0 : Nat) (l0 : List (S58)) (A1 : Option Addr) (c1 : Nat) (l1 : List (S58)) (a2 : Int) (a3 : Int) (r : Int) (w : World) (hr0 : Kd.C k58 w A0 l0.length l0) (hc0 : l0.length ≤ c0) (hr1 : Kd.C k58 w A1 l1.length l1) (hc1 : l1.length ≤ c1) (h : yAh.f k l0 l1 a2 a3 = some r) :
  Calls Try.prog 114 #[.slice A0 l0.length c0,.slice A1 l1.length c1,.int .i64 a2,.int .i64 a3] w fun e w' => e = .returned (.int .i64 r) ∧ Below w.heap.size w w' := by
 have HR0:=Aside0.mk hr0;have HC0:=Aside0.mk hc0;clear hr0 hc0;have HR1:=Aside0.mk hr1;have HC1:=Aside0.mk hc1;clear hr1 hc1;have HB:=Aside0.mk (Below.refl w.heap.size w);have H : (yAh.l0 k l0 l1 a3 0 a2) = some r:=h;clear h;have H' := Aside0.mk H;clear H;go_enter Try.func114,Try.ntmps114
 go_wp2;go_loopg [9,10] k (fun kq v9 v10 w' => ∃ (x9_1 : Int) (x10_1 : Int),v9 = .int .i64 x9_1 ∧ v10 = .int .i64 x10_1 ∧ Aside0 (yAh.l0 kq l0 l1 a3 x9_1 x10_1 = some r) ∧ Aside0 (kq ≤ k) ∧ Aside0 (Below w.heap.size w w'))
 case atStart=>exact ⟨(0),(a2),(q1_),(q1_),H', ⟨Nat.le_refl _⟩,⟨q29_⟩⟩
 case round =>
  clear H';try clear c1
  obtain ⟨x9_1,x10_1,rfl,rfl,HA,HK1,HB⟩:=hrel;cases gk with
  | zero=>exact absurd HA.out (by simp [yAh.l0])
  | succ k1 =>
   have H:=HA.out;clear HA;simp only [yAh.l0] at H;by_cases c5 : x10_1 < a3
   ·rw [if_pos c5] at H;have c5b0:=decide_eq_true c5;clear c5;replace H:=Option.bind_eq_some_iff.mp H;obtain ⟨t101,A60,H⟩:=H;(try dsimp only at H);have A6:=Aside0.mk A60;clear A60;replace H:=Option.bind_eq_some_iff.mp H;obtain ⟨t102,A70,H⟩:=H;(try dsimp only at H);have A7:=Aside0.mk A70;clear A70;by_cases c8 : t101.toList = t102.toList
    ·rw [if_pos c8] at H;have c8b0 : (t101.toList == t102.toList) = true:=beq_iff_eq.mpr c8;have c8b1 : (t101.toList != t102.toList) = false:=bne_eq_false_iff_eq.mpr c8;clear c8;have H' := Aside0.mk H;clear H;go_wp2_with (first | ((with_reducible refine gate_callee (f:=125) rfl ?_);refine goesL_ (some 19) rfl rfl Try.func125 (by kernel_rfl) rfl #[.slice A0 l0.length c0,.int .i64 x10_1] rfl (q30_) ?_;(with_reducible refine (yAR.calls k1 _ _ l0 x10_1 t101 _ ?side1 ?side2 A6.out).mono ?_);(case side1=>exact cX_ (Kd.C_below HR0.out HB.out));(case side2=>exact HC0.out);rintro e w9 ⟨rfl,hb⟩;refine ⟨_,rfl,?_⟩;replace HB:=bS_ HB hb;(try clear hb)) | ((with_reducible refine gate_callee (f:=125) rfl ?_);refine goesL_ (some 22) rfl rfl Try.func125 (by kernel_rfl) rfl #[.slice A1 l1.length c1,.int .i64 x10_1] rfl (q30_) ?_;(with_reducible refine (yAR.calls k1 _ _ l1 x10_1 t102 _ ?side1 ?side2 A7.out).mono ?_);(case side1=>exact cX_ (Kd.C_below HR1.out HB.out));(case side2=>exact HC1.out);rintro e w10 ⟨rfl,hb⟩;refine ⟨_,rfl,?_⟩;replace HB:=bS_ HB hb;(try clear hb)))
     go_roundg k1
     case measure=>have:=HK1.out;omega
     case rel=>exact ⟨(wrap64 (x9_1 + 1)),(wrap64 (x10_1 + 1)),(q1_),(q1_),H', ⟨by have:=HK1.out;omega⟩,⟨q29_⟩⟩
    ·rw [if_neg c8] at H;have c8b0 : (t101.toList == t102.toList) = false:=beq_eq_false_iff_ne.mpr c8;have c8b1 : (t101.toList != t102.toList) = true:=bne_iff_ne.mpr c8;have H' := Aside0.mk H;clear H;go_wp2_with (first | ((with_reducible refine gate_callee (f:=125) rfl ?_);refine goesL_ (some 19) rfl rfl Try.func125 (by kernel_rfl) rfl #[.slice A0 l0.length c0,.int .i64 x10_1] rfl (q30_) ?_;(with_reducible refine (yAR.calls k1 _ _ l0 x10_1 t101 _ ?side1 ?side2 A6.out).mono ?_);(case side1=>exact cX_ (Kd.C_below HR0.out HB.out));(case side2=>exact HC0.out);rintro e w11 ⟨rfl,hb⟩;refine ⟨_,rfl,?_⟩;replace HB:=bS_ HB hb;(try clear hb)) | ((with_reducible refine gate_callee (f:=125) rfl ?_);refine goesL_ (some 22) rfl rfl Try.func125 (by kernel_rfl) rfl #[.slice A1 l1.length c1,.int .i64 x10_1] rfl (q30_) ?_;(with_reducible refine (yAR.calls k1 _ _ l1 x10_1 t102 _ ?side1 ?side2 A7.out).mono ?_);(case side1=>exact cX_ (Kd.C_below HR1.out HB.out));(case side2=>exact HC1.out);rintro e w12 ⟨rfl,hb⟩;refine ⟨_,rfl,?_⟩;replace HB:=bS_ HB hb;(try clear hb)))
     go_roundg k1
     case measure=>have:=HK1.out;omega
     case rel=>exact ⟨(x9_1),(wrap64 (x10_1 + 1)),(q1_),(q1_),H', ⟨by have:=HK1.out;omega⟩,⟨q29_⟩⟩
   ·rw [if_neg c5] at H;have c5b0:=decide_eq_false c5;clear c5;obtain rfl:=Option.some.inj H;go_wp2;go_ret;exact ⟨q4_,q29_⟩
/-! ### yAG: function 14 -/
mutual
def yAG.j0 : Nat → List (List (S58)) → Int → Int → Bool → Option (Int × Int × Bool)
 | 0,_,_,_,_=>none
 | k + 1,x0,x1,x2,x24=>if x24 = true then (some (0,0,false)) else (yAG.l0 k x0 x1 x2 0 (-1) x0 (x0.length : Int) 0)
def yAG.l0 : Nat → List (List (S58)) → Int → Int → Int → Int → List (List (S58)) → Int → Int → Option (Int × Int × Bool)
 | 0,_,_,_,_,_,_,_,_=>none
 | k + 1,x0,x1,x2,x9,x10,x25,x26,x27=>if x27 < x26 then (if 0 ≤ x27 then (if x27 < (x25.length : Int) then (yAG.l1 k x0 x1 x2 x9 x10 x27 (rd_L13 x25 x27) 0 x25 x26 x27 x0 (x0.length : Int) 0) else (none)) else (none)) else (some (x9,x10,true))
def yAG.l1 : Nat → List (List (S58)) → Int → Int → Int → Int → Int → List (S58) → Int → List (List (S58)) → Int → Int → List (List (S58)) → Int → Int → Option (Int × Int × Bool)
 | 0,_,_,_,_,_,_,_,_,_,_,_,_,_,_=>none
 | k + 1,x0,x1,x2,x9,x10,x11,x12,x13,x25,x26,x27,x32,x33,x34=>if x34 < x33 then (if 0 ≤ x34 then (if x34 < (x32.length : Int) then (if x34 = x11 then (yAG.l1 k x0 x1 x2 x9 x10 x11 x12 x13 x25 x26 x27 x32 x33 (wrap64 (x34 + 1))) else ((yAh.f k x12 (rd_L13 x32 x34) x1 x2).bind fun t105=>(yAG.l1 k x0 x1 x2 x9 x10 x11 x12 (wrap64 (x13 + t105)) x25 x26 x27 x32 x33 (wrap64 (x34 + 1))))) else (none)) else (none)) else (if x13 > x10 then (yAG.l0 k x0 x1 x2 x11 x13 x25 x26 (wrap64 (x27 + 1))) else (yAG.l0 k x0 x1 x2 x9 x10 x25 x26 (wrap64 (x27 + 1))))
end
def yAG.f (k : Nat) (l0 : List (List (S58))) (a1 : Int) (a2 : Int) : Option (Int × Int × Bool):=(yAV.f k l0).bind fun t101=>(if t101 = true then ((yAs.f a1 a2).bind fun t102=>(yAG.j0 k l0 a1 a2 (!t102))) else (yAG.j0 k l0 a1 a2 true))
set_option maxHeartbeats 8000000 in
set_option maxRecDepth 100000 in
theorem yAG.calls (k : Nat) (A0 : Option Addr) (c0 : Nat) (l0 : List (List (S58))) (a1 : Int) (a2 : Int) (r1 : Int) (r2 : Int) (r3 : Bool) (w : World) (hr0 : Kd.C (Kd.slice 58 k58) w A0 l0.length l0) (hc0 : l0.length ≤ c0) (h : yAG.f k l0 a1 a2 = some (r1,r2,r3)) :
  Calls Try.prog 14 #[.slice A0 l0.length c0,.int .i64 a1,.int .i64 a2] w fun e w' => e = .returned (.tuple #[.int .i64 r1,.int .i64 r2,.bool r3]) ∧ Below w.heap.size w w' := by
 have HR0:=Aside0.mk hr0;have HC0:=Aside0.mk hc0;clear hr0 hc0;have HB:=Aside0.mk (Below.refl w.heap.size w);have H : ((yAV.f k l0).bind fun t101=>(if t101 = true then ((yAs.f a1 a2).bind fun t102=>(yAG.j0 k l0 a1 a2 (!t102))) else (yAG.j0 k l0 a1 a2 true))) = some (r1,r2,r3):=h;clear h;have HC4:=Aside0.mk H;clear H;go_enter Try.func14,Try.ntmps14
 go_upto_region 1 with (fail)
 go_cut [24] (fun v24 wc=>∃ (kq : Nat) (x24_3 : Bool),v24 = .bool x24_3 ∧ Aside0 (yAG.j0 kq l0 a1 a2 x24_3 = some (r1,r2,r3)) ∧ Aside0 (kq ≤ k) ∧ Aside0 (Below w.heap.size w wc))
 case first =>
  have H:=HC4.out;clear HC4;replace H:=Option.bind_eq_some_iff.mp H;obtain ⟨t101,A50,H⟩:=H;(try dsimp only at H);have A5:=Aside0.mk A50;clear A50;by_cases c6 : t101 = true
  ·subst c6;rw [if_pos rfl] at H;replace H:=Option.bind_eq_some_iff.mp H;obtain ⟨t102,A70,H⟩:=H;(try dsimp only at H);have A7:=Aside0.mk A70;clear A70;have H' := Aside0.mk H;clear H;go_wp2_with (first | ((with_reducible refine gate_callee (f:=112) rfl ?_);refine goesL_ (some 17) rfl rfl Try.func112 (by kernel_rfl) rfl #[.slice A0 l0.length c0] rfl (q30_) ?_;(with_reducible refine (yAV.calls k _ _ l0 true _ ?side1 ?side2 A5.out).mono ?_);(case side1=>exact cX_ (Kd.C_below HR0.out HB.out));(case side2=>exact HC0.out);rintro e w8 ⟨rfl,hb⟩;refine ⟨_,rfl,?_⟩;replace HB:=bS_ HB hb;(try clear hb)) | (go_at_call 113;(with_reducible refine (yAs.calls a1 a2 t102 _ A7.out).mono ?_);rintro e w' ⟨rfl,⟨nd,rfl⟩⟩))
   go_meet
   case rel=>exact ⟨_,(!t102),(q1_),H', ⟨by first | omega | exact Nat.le_refl _⟩,⟨q29_⟩⟩
  ·replace c6:=Bool.eq_false_iff.mpr c6;subst c6;rw [if_neg (show ¬ (false = true) by decide)] at H;have H' := Aside0.mk H;clear H;go_wp2_with (first | ((with_reducible refine gate_callee (f:=112) rfl ?_);refine goesL_ (some 17) rfl rfl Try.func112 (by kernel_rfl) rfl #[.slice A0 l0.length c0] rfl (q30_) ?_;(with_reducible refine (yAV.calls k _ _ l0 false _ ?side1 ?side2 A5.out).mono ?_);(case side1=>exact cX_ (Kd.C_below HR0.out HB.out));(case side2=>exact HC0.out);rintro e w9 ⟨rfl,hb⟩;refine ⟨_,rfl,?_⟩;replace HB:=bS_ HB hb;(try clear hb)))
   go_meet
   case rel=>exact ⟨_,(true),(q1_),H', ⟨by first | omega | exact Nat.le_refl _⟩,⟨q29_⟩⟩
 case rest =>
  clear HC4;try clear c6
  obtain ⟨kq,x24_3,rfl,HA,HJ3,HB⟩:=hcut;cases kq with
  | zero=>exact absurd HA.out (by simp [yAG.j0])
  | succ kj3 =>
   have H:=HA.out;clear HA;simp only [yAG.j0] at H;by_cases c10 : x24_3 = true
   ·subst c10;rw [if_pos rfl] at H;simp only [Option.some.injEq,Prod.mk.injEq] at H;obtain ⟨rfl,rfl,rfl⟩:=H;go_wp2;go_ret3
    exact ⟨q4_,q29_⟩
   ·replace c10:=Bool.eq_false_iff.mpr c10;subst c10;rw [if_neg (show ¬ (false = true) by decide)] at H;have H' := Aside0.mk H;clear H;go_wp2;go_loopg [9,10,27] kj3 (fun kq v9 v10 v27 w' => ∃ (x9_2 : Int) (x10_2 : Int) (x27_2 : Int),v9 = .int .i64 x9_2 ∧ v10 = .int .i64 x10_2 ∧ v27 = .int .i64 x27_2 ∧ Aside0 (yAG.l0 kq l0 a1 a2 x9_2 x10_2 l0 (l0.length : Int) x27_2 = some (r1,r2,r3)) ∧ Aside0 (kq ≤ kj3) ∧ Aside0 (Below w.heap.size w w'))
    case atStart=>exact ⟨(0),((-1)),(0),(q1_),(q1_),(q1_),H', ⟨Nat.le_refl _⟩,⟨q29_⟩⟩
    case round =>
     clear H';try clear c6
     try clear c10
     obtain ⟨x9_2,x10_2,x27_2,rfl,rfl,rfl,HA,HK2,HB⟩:=hrel;cases gk with
     | zero=>exact absurd HA.out (by simp [yAG.l0])
     | succ k2 =>
      have H:=HA.out;clear HA;simp only [yAG.l0] at H;by_cases c11 : x27_2 < (l0.length : Int)
      ·rw [if_pos c11] at H;have c11b0:=decide_eq_true c11;clear c11;by_cases c12 : 0 ≤ x27_2
       ·rw [if_pos c12] at H;have c12b0:=decide_eq_true c12;clear c12;by_cases c13 : x27_2 < (l0.length : Int)
        ·rw [if_pos c13] at H;have c13b0:=decide_eq_true c13;clear c13;have H' := Aside0.mk H;clear H;have p103 : 0 ≤ (x27_2 : Int):=of_decide_eq_true (q2_);have q103 : x27_2 < (l0.length : Int):=of_decide_eq_true (q2_);obtain ⟨ad103,A103_0,c103_0,e103,hx103_0,hl103_0,hi103_0⟩:=at_L13 HR0.out x27_2 p103 q103;cases e103;replace hx103_0:=hB_ HB.out hx103_0;have HR103_0:=Aside0.mk hi103_0;have HC103_0:=Aside0.mk hl103_0;clear hi103_0 hl103_0;replace p103:=eq_true p103;replace q103:=eq_true q103;go_wp2;go_loopg [13,34] k2 (fun kq v13 v34 w' => ∃ (x13_3 : Int) (x34_3 : Int),v13 = .int .i64 x13_3 ∧ v34 = .int .i64 x34_3 ∧ Aside0 (yAG.l1 kq l0 a1 a2 x9_2 x10_2 x27_2 (rd_L13 l0 x27_2) x13_3 l0 (l0.length : Int) x27_2 l0 (l0.length : Int) x34_3 = some (r1,r2,r3)) ∧ Aside0 (kq ≤ k2) ∧ Aside0 (Below w.heap.size w w'))
         case atStart=>exact ⟨(0),(0),(q1_),(q1_),H', ⟨Nat.le_refl _⟩,⟨q29_⟩⟩
         case round =>
          clear H';try clear c6
          try clear c10
          try clear c11
          try clear c11b0
          try clear c12
          try clear c12b0
          try clear c13
          try clear c13b0
          try clear hx103_0
          try clear p103
          try clear q103
          obtain ⟨x13_3,x34_3,rfl,rfl,HA,HK3,HB⟩:=hrel;cases gk with
          | zero=>exact absurd HA.out (by simp [yAG.l1])
          | succ k3 =>
           have H:=HA.out;clear HA;simp only [yAG.l1] at H;by_cases c14 : x34_3 < (l0.length : Int)
           ·rw [if_pos c14] at H;have c14b0:=decide_eq_true c14;clear c14;by_cases c15 : 0 ≤ x34_3
            ·rw [if_pos c15] at H;have c15b0:=decide_eq_true c15;clear c15;by_cases c16 : x34_3 < (l0.length : Int)
             ·rw [if_pos c16] at H;have c16b0:=decide_eq_true c16;clear c16;by_cases c17 : x34_3 = x27_2
              ·rw [if_pos c17] at H;have c17b0 : (x34_3 == x27_2) = true:=beq_iff_eq.mpr c17;have c17b1 : (x34_3 != x27_2) = false:=bne_eq_false_iff_eq.mpr c17;clear c17;have H' := Aside0.mk H;clear H;have p104 : 0 ≤ (x34_3 : Int):=of_decide_eq_true (q2_);have q104 : x34_3 < (l0.length : Int):=of_decide_eq_true (q2_);obtain ⟨ad104,A104_0,c104_0,e104,hx104_0,hl104_0,hi104_0⟩:=at_L13 HR0.out x34_3 p104 q104;obtain rfl : ad103 = ad104:=(by injection e104);replace hx104_0:=hB_ HB.out hx104_0;have HR104_0:=Aside0.mk hi104_0;have HC104_0:=Aside0.mk hl104_0;clear hi104_0 hl104_0;replace p104:=eq_true p104;replace q104:=eq_true q104;go_wp2;go_roundg k3
               case measure=>have:=HJ3.out;have:=HK2.out;have:=HK3.out;omega
               case rel=>exact ⟨(x13_3),(wrap64 (x34_3 + 1)),(q1_),(q1_),H', ⟨by have:=HJ3.out;have:=HK2.out;have:=HK3.out;omega⟩,⟨q29_⟩⟩
              ·rw [if_neg c17] at H;have c17b0 : (x34_3 == x27_2) = false:=beq_eq_false_iff_ne.mpr c17;have c17b1 : (x34_3 != x27_2) = true:=bne_iff_ne.mpr c17;replace H:=Option.bind_eq_some_iff.mp H;obtain ⟨t105,A180,H⟩:=H;(try dsimp only at H);have A18:=Aside0.mk A180;clear A180;have H' := Aside0.mk H;clear H;have p104 : 0 ≤ (x34_3 : Int):=of_decide_eq_true (q2_);have q104 : x34_3 < (l0.length : Int):=of_decide_eq_true (q2_);obtain ⟨ad104,A104_0,c104_0,e104,hx104_0,hl104_0,hi104_0⟩:=at_L13 HR0.out x34_3 p104 q104;obtain rfl : ad103 = ad104:=(by injection e104);replace hx104_0:=hB_ HB.out hx104_0;have HR104_0:=Aside0.mk hi104_0;have HC104_0:=Aside0.mk hl104_0;clear hi104_0 hl104_0;replace p104:=eq_true p104;replace q104:=eq_true q104;go_wp2_with (first | ((with_reducible refine gate_callee (f:=114) rfl ?_);refine goesL_ (some 47) rfl rfl Try.func114 (by kernel_rfl) rfl #[.slice A103_0 (rd_L13 l0 x27_2).length c103_0,.slice A104_0 (rd_L13 l0 x34_3).length c104_0,.int .i64 a1,.int .i64 a2] rfl (q30_) ?_;(with_reducible refine (yAh.calls k3 _ _ (rd_L13 l0 x27_2) _ _ (rd_L13 l0 x34_3) a1 a2 t105 _ ?side1 ?side2 ?side3 ?side4 A18.out).mono ?_);(case side1=>exact cX_ (Kd.C_below HR103_0.out HB.out));(case side2=>exact HC103_0.out);(case side3=>exact cX_ (Kd.C_below HR104_0.out HB.out));(case side4=>exact HC104_0.out);rintro e w19 ⟨rfl,hb⟩;refine ⟨_,rfl,?_⟩;replace HB:=bS_ HB hb;(try clear hb)))
               go_roundg k3
               case measure=>have:=HJ3.out;have:=HK2.out;have:=HK3.out;omega
               case rel=>exact ⟨(wrap64 (x13_3 + t105)),(wrap64 (x34_3 + 1)),(q1_),(q1_),H', ⟨by have:=HJ3.out;have:=HK2.out;have:=HK3.out;omega⟩,⟨q29_⟩⟩
             ·rw [if_neg c16] at H;exact absurd H (by simp)
            ·rw [if_neg c15] at H;exact absurd H (by simp)
           ·rw [if_neg c14] at H;have c14b0:=decide_eq_false c14;clear c14;by_cases c20 : x13_3 > x10_2
            ·rw [if_pos c20] at H;have c20b0 : decide (x10_2 < x13_3) = true:=decide_eq_true c20;clear c20;have H' := Aside0.mk H;clear H;go_wp2;go_roundg k3
             case measure=>have:=HJ3.out;have:=HK2.out;have:=HK3.out;omega
             case rel=>exact ⟨(x27_2),(x13_3),(wrap64 (x27_2 + 1)),(q1_),(q1_),(q1_),H', ⟨by have:=HJ3.out;have:=HK2.out;have:=HK3.out;omega⟩,⟨q29_⟩⟩
            ·rw [if_neg c20] at H;have c20b0 : decide (x10_2 < x13_3) = false:=decide_eq_false c20;clear c20;have H' := Aside0.mk H;clear H;go_wp2;go_roundg k3
             case measure=>have:=HJ3.out;have:=HK2.out;have:=HK3.out;omega
             case rel=>exact ⟨(x9_2),(x10_2),(wrap64 (x27_2 + 1)),(q1_),(q1_),(q1_),H', ⟨by have:=HJ3.out;have:=HK2.out;have:=HK3.out;omega⟩,⟨q29_⟩⟩
        ·rw [if_neg c13] at H;exact absurd H (by simp)
       ·rw [if_neg c12] at H;exact absurd H (by simp)
      ·rw [if_neg c11] at H;have c11b0:=decide_eq_false c11;clear c11;simp only [Option.some.injEq,Prod.mk.injEq] at H;obtain ⟨rfl,rfl,rfl⟩:=H;go_wp2;go_ret3
       exact ⟨q4_,q29_⟩
/-! ### yA5: function 267 -/
set_option maxHeartbeats 4000000 in
set_option maxRecDepth 100000 in
theorem yA5.with (p : List (S58) → Bool) (g : Nat) (lb : Array Value) (eg : ∀ args w,(callFunc g args).run Try.prog w = .ok (.enter g args) w) (A0 : Option Addr) (c0 : Nat) (l0 : List (List (S58))) (w : World) (hr0 : Kd.C ((Kd.slice 58 k58)) w A0 l0.length l0)
  (hp : ∀ (W : World) (A : Option Addr) (c : Nat) (x : List (S58)),x ∈ l0 → Below w.heap.size w W → Kd.C (k58) W A x.length x → x.length ≤ c → Calls Try.prog g (#[.slice A x.length c] ++ lb) W fun e w' => e = .returned (.bool (p x)) ∧ Below w.heap.size w w') :
  Calls Try.prog 267 #[.slice A0 l0.length c0,.func (.func g) #[] lb] w fun e w' => e = .returned (.int .i64 (idxOf p l0)) ∧ Below w.heap.size w w' := by
 have HR:=Aside0.mk hr0;have HP:=Aside0.mk hp;have HL:=Aside0.mk hr0.2.1;clear hr0 hp;go_enter Try.func267,Try.ntmps267
 go_wp2;go_loopg [5,8] l0.length (fun gg _ s8 wr=>∃ x : Int,s8 = .int .i64 x ∧ Aside0 (0 ≤ x ∧ x ≤ (l0.length : Int) ∧ (l0.length : Int) - x ≤ (gg : Int)) ∧ Aside0 (Below w.heap.size w wr) ∧ Aside0 (∀ j,j < x.toNat → p (l0.getD j []) = false))
 case atStart=>exact ⟨0,rfl,⟨by omega⟩,⟨Below.refl _ w⟩,⟨fun j hj=>absurd hj (Nat.not_lt_zero _)⟩⟩
 case round =>
  obtain ⟨x,rfl,HX,BW,HA⟩:=hrel;by_cases hlt : x < (l0.length : Int)
  ·have p1 : 0 ≤ x:=HX.out.1;have q1:=hlt;have hw : wrap64 (x + 1) = x + 1:=by have:=HL.out;unfold wrap64;omega
   have HW:=Aside0.mk hw;clear hw;obtain ⟨ad,Ai,ci,e,hx0,hl0,hi0⟩:=at_L13 HR.out x p1 q1;cases e
   have hmem : rd_L13 l0 x ∈ l0:=by
    show l0.getD x.toNat [] ∈ l0;rw [List.getD_eq_getElem?_getD,List.getElem?_eq_getElem (show x.toNat < l0.length by omega)];exact List.getElem_mem _
   have hcall:=HP.out wr Ai ci (rd_L13 l0 x) hmem BW.out (Kd.C_below hi0 BW.out) hl0;replace hx0:=(BW.out.cell (World.block_lt_of_cell? w _ hx0)).trans hx0;clear hmem hi0 hl0;obtain ⟨y,hy⟩ : ∃ y,rd_L13 l0 x = y:=⟨_,rfl⟩;rw [hy] at hx0 hcall;have HY:=Aside0.mk hy;clear hy;have HLT:=Aside0.mk hlt;have b1 : decide (x < (l0.length : Int)) = true:=decide_eq_true hlt;clear hlt;replace p1:=eq_true p1;replace q1:=eq_true q1;cases hq : p y with
   | true =>
    rw [hq] at hcall;have HQ:=Aside0.mk hq;clear hq;have HC:=Aside0.mk hcall;clear hcall;go_wp2_with fail
    refine HC.out.mono ?_;clear HC;rintro e w' ⟨rfl,hb'⟩;have HB' := Aside0.mk hb';clear hb';go_wp2;go_ret;exact ⟨by rw [idxOf_hit [] (i:=x.toNat) (by have:=HX.out;have:=HLT.out;omega) (by show p (rd_L13 l0 x) = true;rw [HY.out];exact HQ.out) HA.out,Int.toNat_of_nonneg HX.out.1];rfl,HB'.out⟩
   | false =>
    rw [hq] at hcall;have HQ:=Aside0.mk hq;clear hq;have HC:=Aside0.mk hcall;clear hcall;go_wp2_with fail
    refine HC.out.mono ?_;clear HC;rintro e w' ⟨rfl,hb'⟩;have HB' := Aside0.mk hb';clear hb';go_wp2;go_roundg (l0.length - (x.toNat + 1))
    case measure=>have:=HX.out;have:=HLT.out;omega
    case rel =>
     refine ⟨x + 1,by first | rfl | (rw [HW.out]) | (simp [HW.out]),⟨by have:=HX.out;have:=HLT.out;omega⟩,⟨HB'.out⟩,⟨fun j hj=>?_⟩⟩;by_cases e : j = x.toNat
     ·subst e;show p (rd_L13 l0 x) = false;rw [HY.out];exact HQ.out
     ·exact HA.out j (by have:=HX.out;omega)
  ·have b1 : decide (x < (l0.length : Int)) = false:=decide_eq_false hlt;have HLT:=Aside0.mk hlt;clear hlt;go_wp2;go_ret;exact ⟨by rw [idxOf_miss [] (fun j hj=>HA.out j (by have:=HX.out;have:=HLT.out;omega))];rfl,BW.out⟩
end Go.Proofs.Ytgapcmmhbegdeaa.G
