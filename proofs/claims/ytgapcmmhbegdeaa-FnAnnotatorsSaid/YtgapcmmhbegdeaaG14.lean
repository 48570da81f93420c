-- Written by this session's own program over the kit's print (wip/tools/myprint.py); Lean checks it.
import Derived.Test.YtgapcmmhbegdeaaMBase
import Derived.Test.YtgapcmmhbegdeaaG0
import Derived.Test.YtgapcmmhbegdeaaG3
import Derived.Test.YtgapcmmhbegdeaaG4
import Derived.Test.YtgapcmmhbegdeaaG12
namespace Go.Proofs.Ytgapcmmhbegdeaa.G
open Go.RowKit Go.Proofs.YtgapcmmhbegdeaaW.PrintWords Go.Proofs.YtgapcmmhbegdeaaW.PrintLast Go.Proofs.YtgapcmmhbegdeaaW.PrintMore
attribute [local go_sem] max2_int min2_int max_two min_two max_three min_three max_four min_four str_geq str_gtr str_leq   -- for this text's walks alone
set_option linter.unusedVariables false
set_option linter.unusedSimpArgs false
/-! ### yAQ: function 118 -/
mutual
def yAQ.l0 : Nat → List (List (S58)) → Int → List (List (S58)) → Int → Int → Option (ByteArray)
 | 0,_,_,_,_,_=>none
 | k + 1,x0,x1,x11,x12,x13=>if x13 < x12 then (if 0 ≤ x13 then (if x13 < (x11.length : Int) then ((yAR.f k (rd_L13 x11 x13) x1).bind fun t102=>(yAQ.l1 k x0 x1 t102 0 x11 x12 x13 x0 (x0.length : Int) 0)) else (none)) else (none)) else (some (⟨#[]⟩ : ByteArray))
def yAQ.l1 : Nat → List (List (S58)) → Int → ByteArray → Int → List (List (S58)) → Int → Int → List (List (S58)) → Int → Int → Option (ByteArray)
 | 0,_,_,_,_,_,_,_,_,_,_=>none
 | k + 1,x0,x1,x7,x8,x11,x12,x13,x20,x21,x22=>if x22 < x21 then (if 0 ≤ x22 then (if x22 < (x20.length : Int) then ((yAR.f k (rd_L13 x20 x22) x1).bind fun t104=>(if t104.toList = x7.toList then (yAQ.l1 k x0 x1 x7 (wrap64 (x8 + 1)) x11 x12 x13 x20 x21 (wrap64 (x22 + 1))) else (yAQ.l1 k x0 x1 x7 x8 x11 x12 x13 x20 x21 (wrap64 (x22 + 1))))) else (none)) else (none)) else (if (wrap64 (2 * x8)) > (x0.length : Int) then (some x7) else (yAQ.l0 k x0 x1 x11 x12 (wrap64 (x13 + 1))))
end
def yAQ.f (k : Nat) (l0 : List (List (S58))) (a1 : Int) : Option (ByteArray):=yAQ.l0 k l0 a1 l0 (l0.length : Int) 0
set_option maxHeartbeats 8000000 in
set_option maxRecDepth 100000 in
theorem yAQ.calls (k : Nat) (A0 : Option Addr) (c0 : Nat) (l0 : List (List (S58))) (a1 : Int) (r : ByteArray) (w : World) (hr0 : Kd.C (Kd.slice 58 k58) w A0 l0.length l0) (hc0 : l0.length ≤ c0) (h : yAQ.f k l0 a1 = some r) :
  Calls Try.prog 118 #[.slice A0 l0.length c0,.int .i64 a1] w fun e w' => e = .returned (.string r) ∧ Below w.heap.size w w' := by
 have HR0:=Aside0.mk hr0;have HC0:=Aside0.mk hc0;clear hr0 hc0;have HB:=Aside0.mk (Below.refl w.heap.size w);have H : (yAQ.l0 k l0 a1 l0 (l0.length : Int) 0) = some r:=h;clear h;have H' := Aside0.mk H;clear H;go_enter Try.func118,Try.ntmps118
 go_wp2;go_loopg [13] k (fun kq v13 w' => ∃ (x13_1 : Int),v13 = .int .i64 x13_1 ∧ Aside0 (yAQ.l0 kq l0 a1 l0 (l0.length : Int) x13_1 = some r) ∧ Aside0 (kq ≤ k) ∧ Aside0 (Below w.heap.size w w'))
 case atStart=>exact ⟨(0),(q1_),H', ⟨Nat.le_refl _⟩,⟨q29_⟩⟩
 case round =>
  clear H';obtain ⟨x13_1,rfl,HA,HK1,HB⟩:=hrel;cases gk with
  | zero=>exact absurd HA.out (by simp [yAQ.l0])
  | succ k1 =>
   have H:=HA.out;clear HA;simp only [yAQ.l0] at H;by_cases c3 : x13_1 < (l0.length : Int)
   ·rw [if_pos c3] at H;have c3b0:=decide_eq_true c3;clear c3;by_cases c4 : 0 ≤ x13_1
    ·rw [if_pos c4] at H;have c4b0:=decide_eq_true c4;clear c4;by_cases c5 : x13_1 < (l0.length : Int)
     ·rw [if_pos c5] at H;have c5b0:=decide_eq_true c5;clear c5;replace H:=Option.bind_eq_some_iff.mp H;obtain ⟨t102,A60,H⟩:=H;(try dsimp only at H);have A6:=Aside0.mk A60;clear A60;have H' := Aside0.mk H;clear H;have p101 : 0 ≤ (x13_1 : Int):=of_decide_eq_true (q2_);have q101 : x13_1 < (l0.length : Int):=of_decide_eq_true (q2_);obtain ⟨ad101,A101_0,c101_0,e101,hx101_0,hl101_0,hi101_0⟩:=at_L13 HR0.out x13_1 p101 q101;cases e101;replace hx101_0:=hB_ HB.out hx101_0;have HR101_0:=Aside0.mk hi101_0;have HC101_0:=Aside0.mk hl101_0;clear hi101_0 hl101_0;replace p101:=eq_true p101;replace q101:=eq_true q101;go_wp2_with (first | ((with_reducible refine gate_callee (f:=125) rfl ?_);refine goesL_ (some 19) rfl rfl Try.func125 (by kernel_rfl) rfl #[.slice A101_0 (rd_L13 l0 x13_1).length c101_0,.int .i64 a1] rfl (q30_) ?_;(with_reducible refine (yAR.calls k1 _ _ (rd_L13 l0 x13_1) a1 t102 _ ?side1 ?side2 A6.out).mono ?_);(case side1=>exact cX_ (Kd.C_below HR101_0.out HB.out));(case side2=>exact HC101_0.out);rintro e w7 ⟨rfl,hb⟩;refine ⟨_,rfl,?_⟩;replace HB:=bS_ HB hb;(try clear hb)))
      go_loopg [8,22] k1 (fun kq v8 v22 w' => ∃ (x8_2 : Int) (x22_2 : Int),v8 = .int .i64 x8_2 ∧ v22 = .int .i64 x22_2 ∧ Aside0 (yAQ.l1 kq l0 a1 t102 x8_2 l0 (l0.length : Int) x13_1 l0 (l0.length : Int) x22_2 = some r) ∧ Aside0 (kq ≤ k1) ∧ Aside0 (Below w.heap.size w w'))
      case atStart=>exact ⟨(0),(0),(q1_),(q1_),H', ⟨Nat.le_refl _⟩,⟨q29_⟩⟩
      case round =>
       clear H';try clear c3
       try clear c3b0
       try clear c4
       try clear c4b0
       try clear c5
       try clear c5b0
       try clear hx101_0
       try clear p101
       try clear q101
       obtain ⟨x8_2,x22_2,rfl,rfl,HA,HK2,HB⟩:=hrel;cases gk with
       | zero=>exact absurd HA.out (by simp [yAQ.l1])
       | succ k2 =>
        have H:=HA.out;clear HA;simp only [yAQ.l1] at H;by_cases c8 : x22_2 < (l0.length : Int)
        ·rw [if_pos c8] at H;have c8b0:=decide_eq_true c8;clear c8;by_cases c9 : 0 ≤ x22_2
         ·rw [if_pos c9] at H;have c9b0:=decide_eq_true c9;clear c9;by_cases c10 : x22_2 < (l0.length : Int)
          ·rw [if_pos c10] at H;have c10b0:=decide_eq_true c10;clear c10;replace H:=Option.bind_eq_some_iff.mp H;obtain ⟨t104,A110,H⟩:=H;(try dsimp only at H);have A11:=Aside0.mk A110;clear A110;by_cases c12 : t104.toList = t102.toList
           ·rw [if_pos c12] at H;have c12b0 : (t104.toList == t102.toList) = true:=beq_iff_eq.mpr c12;have c12b1 : (t104.toList != t102.toList) = false:=bne_eq_false_iff_eq.mpr c12;clear c12;have H' := Aside0.mk H;clear H;have p103 : 0 ≤ (x22_2 : Int):=of_decide_eq_true (q2_);have q103 : x22_2 < (l0.length : Int):=of_decide_eq_true (q2_);obtain ⟨ad103,A103_0,c103_0,e103,hx103_0,hl103_0,hi103_0⟩:=at_L13 HR0.out x22_2 p103 q103;obtain rfl : ad101 = ad103:=(by injection e103);replace hx103_0:=hB_ HB.out hx103_0;have HR103_0:=Aside0.mk hi103_0;have HC103_0:=Aside0.mk hl103_0;clear hi103_0 hl103_0;replace p103:=eq_true p103;replace q103:=eq_true q103;go_wp2_with (first | ((with_reducible refine gate_callee (f:=125) rfl ?_);refine goesL_ (some 28) rfl rfl Try.func125 (by kernel_rfl) rfl #[.slice A103_0 (rd_L13 l0 x22_2).length c103_0,.int .i64 a1] rfl (q30_) ?_;(with_reducible refine (yAR.calls k2 _ _ (rd_L13 l0 x22_2) a1 t104 _ ?side1 ?side2 A11.out).mono ?_);(case side1=>exact cX_ (Kd.C_below HR103_0.out HB.out));(case side2=>exact HC103_0.out);rintro e w13 ⟨rfl,hb⟩;refine ⟨_,rfl,?_⟩;replace HB:=bS_ HB hb;(try clear hb)))
            go_roundg k2
            case measure=>have:=HK1.out;have:=HK2.out;omega
            case rel=>exact ⟨(wrap64 (x8_2 + 1)),(wrap64 (x22_2 + 1)),(q1_),(q1_),H', ⟨by have:=HK1.out;have:=HK2.out;omega⟩,⟨q29_⟩⟩
           ·rw [if_neg c12] at H;have c12b0 : (t104.toList == t102.toList) = false:=beq_eq_false_iff_ne.mpr c12;have c12b1 : (t104.toList != t102.toList) = true:=bne_iff_ne.mpr c12;have H' := Aside0.mk H;clear H;have p103 : 0 ≤ (x22_2 : Int):=of_decide_eq_true (q2_);have q103 : x22_2 < (l0.length : Int):=of_decide_eq_true (q2_);obtain ⟨ad103,A103_0,c103_0,e103,hx103_0,hl103_0,hi103_0⟩:=at_L13 HR0.out x22_2 p103 q103;obtain rfl : ad101 = ad103:=(by injection e103);replace hx103_0:=hB_ HB.out hx103_0;have HR103_0:=Aside0.mk hi103_0;have HC103_0:=Aside0.mk hl103_0;clear hi103_0 hl103_0;replace p103:=eq_true p103;replace q103:=eq_true q103;go_wp2_with (first | ((with_reducible refine gate_callee (f:=125) rfl ?_);refine goesL_ (some 28) rfl rfl Try.func125 (by kernel_rfl) rfl #[.slice A103_0 (rd_L13 l0 x22_2).length c103_0,.int .i64 a1] rfl (q30_) ?_;(with_reducible refine (yAR.calls k2 _ _ (rd_L13 l0 x22_2) a1 t104 _ ?side1 ?side2 A11.out).mono ?_);(case side1=>exact cX_ (Kd.C_below HR103_0.out HB.out));(case side2=>exact HC103_0.out);rintro e w14 ⟨rfl,hb⟩;refine ⟨_,rfl,?_⟩;replace HB:=bS_ HB hb;(try clear hb)))
            go_roundg k2
            case measure=>have:=HK1.out;have:=HK2.out;omega
            case rel=>exact ⟨(x8_2),(wrap64 (x22_2 + 1)),(q1_),(q1_),H', ⟨by have:=HK1.out;have:=HK2.out;omega⟩,⟨q29_⟩⟩
          ·rw [if_neg c10] at H;exact absurd H (by simp)
         ·rw [if_neg c9] at H;exact absurd H (by simp)
        ·rw [if_neg c8] at H;have c8b0:=decide_eq_false c8;clear c8;by_cases c15 : (wrap64 (2 * x8_2)) > (l0.length : Int)
         ·rw [if_pos c15] at H;have c15b0 : decide ((l0.length : Int) < (wrap64 (2 * x8_2))) = true:=decide_eq_true c15;clear c15;obtain rfl:=Option.some.inj H;go_wp2;go_ret;exact ⟨q4_,q29_⟩
         ·rw [if_neg c15] at H;have c15b0 : decide ((l0.length : Int) < (wrap64 (2 * x8_2))) = false:=decide_eq_false c15;clear c15;have H' := Aside0.mk H;clear H;go_wp2;go_roundg k2
          case measure=>have:=HK1.out;have:=HK2.out;omega
          case rel=>exact ⟨(wrap64 (x13_1 + 1)),(q1_),H', ⟨by have:=HK1.out;have:=HK2.out;omega⟩,⟨q29_⟩⟩
     ·rw [if_neg c5] at H;exact absurd H (by simp)
    ·rw [if_neg c4] at H;exact absurd H (by simp)
   ·rw [if_neg c3] at H;have c3b0:=decide_eq_false c3;clear c3;obtain rfl:=Option.some.inj H;go_wp2;go_ret;exact ⟨q4_,q29_⟩
/-! ### yAM: function 18 -/
mutual
def yAM.j0 : Nat → List (List (S58)) → Int → Int → Bool → Option ((List (S58)) × Bool)
 | 0,_,_,_,_=>none
 | k + 1,x0,x1,x2,x21=>if x21 = true then (some (([] : List (S58)),false)) else (yAM.l0 k x0 x2 ([] : List (S58)) (⟨#[]⟩ : ByteArray) x1)
def yAM.l0 : Nat → List (List (S58)) → Int → List (S58) → ByteArray → Int → Option ((List (S58)) × Bool)
 | 0,_,_,_,_,_=>none
 | k + 1,x0,x2,x8,x9,x10=>if x10 < x2 then ((yAQ.f k x0 x10).bind fun t104=>(if t104.toList = ([] : List UInt8) then (yAM.l0 k x0 x2 x8 t104 (wrap64 (x10 + 1))) else (if t104.toList = x9.toList then (if 0 ≤ (wrap64 ((x8.length : Int) - 1)) then (if (wrap64 ((x8.length : Int) - 1)) < (x8.length : Int) then (yAM.l0 k x0 x2 (x8.set ((wrap64 ((x8.length : Int) - 1)) : Int).toNat (⟨(rd_T58 x8 (wrap64 ((x8.length : Int) - 1))).f0,wrap64 (x10 + 1),(rd_T58 x8 (wrap64 ((x8.length : Int) - 1))).f2⟩ : S58)) t104 (wrap64 (x10 + 1))) else (none)) else (none)) else (if x8.length < 4398046511104 then (yAM.l0 k x0 x2 (x8 ++ [(⟨x10,wrap64 (x10 + 1),t104⟩ : S58)]) t104 (wrap64 (x10 + 1))) else (none))))) else ((yAK.f k x8).bind fun t103=>(if t103 = true then (some (x8,true)) else (some (([] : List (S58)),false))))
end
def yAM.f (k : Nat) (l0 : List (List (S58))) (a1 : Int) (a2 : Int) : Option ((List (S58)) × Bool):=(yAV.f k l0).bind fun t101=>(if t101 = true then ((yAs.f a1 a2).bind fun t102=>(yAM.j0 k l0 a1 a2 (!t102))) else (yAM.j0 k l0 a1 a2 true))
set_option maxHeartbeats 8000000 in
set_option maxRecDepth 100000 in
theorem yAM.calls (k : Nat) (A0 : Option Addr) (c0 : Nat) (l0 : List (List (S58))) (a1 : Int) (a2 : Int) (r1 : List (S58)) (r2 : Bool) (w : World) (hr0 : Kd.C (Kd.slice 58 k58) w A0 l0.length l0) (hc0 : l0.length ≤ c0) (h : yAM.f k l0 a1 a2 = some (r1,r2)) :
  Calls Try.prog 18 #[.slice A0 l0.length c0,.int .i64 a1,.int .i64 a2] w fun e w' => ∃ v0_ : Value,e = .returned (.tuple #[v0_,.bool r2]) ∧ Kd.R k58 58 w' w.heap.size (fun _=>True) v0_ r1 ∧ Below w.heap.size w w' := by
 have hu58:=Try.underlying58;have HR0:=Aside0.mk hr0;have HC0:=Aside0.mk hc0;clear hr0 hc0;have HB:=Aside0.mk (Below.refl w.heap.size w);have H : ((yAV.f k l0).bind fun t101=>(if t101 = true then ((yAs.f a1 a2).bind fun t102=>(yAM.j0 k l0 a1 a2 (!t102))) else (yAM.j0 k l0 a1 a2 true))) = some (r1,r2):=h;clear h;have HC4:=Aside0.mk H;clear H;go_enter Try.func18,Try.ntmps18
 go_upto_region 1 with (fail)
 go_cut [21] (fun v21 wc=>∃ (kq : Nat) (x21_3 : Bool),v21 = .bool x21_3 ∧ Aside0 (yAM.j0 kq l0 a1 a2 x21_3 = some (r1,r2)) ∧ Aside0 (kq ≤ k) ∧ Aside0 (Below w.heap.size w wc))
 case first =>
  have H:=HC4.out;clear HC4;replace H:=Option.bind_eq_some_iff.mp H;obtain ⟨t101,A50,H⟩:=H;(try dsimp only at H);have A5:=Aside0.mk A50;clear A50;by_cases c6 : t101 = true
  ·subst c6;rw [if_pos rfl] at H;replace H:=Option.bind_eq_some_iff.mp H;obtain ⟨t102,A70,H⟩:=H;(try dsimp only at H);have A7:=Aside0.mk A70;clear A70;have H' := Aside0.mk H;clear H;go_wp2_with (first | ((with_reducible refine gate_callee (f:=112) rfl ?_);refine goesL_ (some 14) rfl rfl Try.func112 (by kernel_rfl) rfl #[.slice A0 l0.length c0] rfl (q30_) ?_;(with_reducible refine (yAV.calls k _ _ l0 true _ ?side1 ?side2 A5.out).mono ?_);(case side1=>exact cX_ (Kd.C_below HR0.out HB.out));(case side2=>exact HC0.out);rintro e w8 ⟨rfl,hb⟩;refine ⟨_,rfl,?_⟩;replace HB:=bS_ HB hb;(try clear hb)) | (go_at_call 113;(with_reducible refine (yAs.calls a1 a2 t102 _ A7.out).mono ?_);rintro e w' ⟨rfl,⟨nd,rfl⟩⟩))
   go_meet
   case rel=>exact ⟨_,(!t102),(q1_),H', ⟨by first | omega | exact Nat.le_refl _⟩,⟨q29_⟩⟩
  ·replace c6:=Bool.eq_false_iff.mpr c6;subst c6;rw [if_neg (show ¬ (false = true) by decide)] at H;have H' := Aside0.mk H;clear H;go_wp2_with (first | ((with_reducible refine gate_callee (f:=112) rfl ?_);refine goesL_ (some 14) rfl rfl Try.func112 (by kernel_rfl) rfl #[.slice A0 l0.length c0] rfl (q30_) ?_;(with_reducible refine (yAV.calls k _ _ l0 false _ ?side1 ?side2 A5.out).mono ?_);(case side1=>exact cX_ (Kd.C_below HR0.out HB.out));(case side2=>exact HC0.out);rintro e w9 ⟨rfl,hb⟩;refine ⟨_,rfl,?_⟩;replace HB:=bS_ HB hb;(try clear hb)))
   go_meet
   case rel=>exact ⟨_,(true),(q1_),H', ⟨by first | omega | exact Nat.le_refl _⟩,⟨q29_⟩⟩
 case rest =>
  clear HC4;try clear c6
  obtain ⟨kq,x21_3,rfl,HA,HJ3,HB⟩:=hcut;cases kq with
  | zero=>exact absurd HA.out (by simp [yAM.j0])
  | succ kj3 =>
   have H:=HA.out;clear HA;simp only [yAM.j0] at H;by_cases c10 : x21_3 = true
   ·subst c10;rw [if_pos rfl] at H;simp only [Option.some.injEq,Prod.mk.injEq] at H;obtain ⟨rfl,rfl⟩:=H;go_wp2;go_ret2
    exact ⟨_,q4_,q32_,q29_⟩
   ·replace c10:=Bool.eq_false_iff.mpr c10;subst c10;rw [if_neg (show ¬ (false = true) by decide)] at H;have H' := Aside0.mk H;clear H;go_wp2;go_loopg [8,9,10] kj3 (fun kq v8 v9 v10 w' => ∃ (x8_2 : List (S58)) (x9_2 : ByteArray) (x10_2 : Int),v9 = .string x9_2 ∧ v10 = .int .i64 x10_2 ∧ Aside0 (yAM.l0 kq l0 a2 x8_2 x9_2 x10_2 = some (r1,r2)) ∧ Aside0 (kq ≤ kj3) ∧ Aside0 (Kd.R k58 58 w' w.heap.size (fun _=>True) v8 x8_2) ∧ Aside0 (Below w.heap.size w w'))
    case atStart=>exact ⟨(([] : List (S58))),((⟨#[]⟩ : ByteArray)),(a1),(q1_),(q1_),H', ⟨Nat.le_refl _⟩,⟨q32_⟩,⟨q29_⟩⟩
    case round =>
     clear H';try clear c6
     try clear c10
     obtain ⟨x8_2,x9_2,x10_2,rfl,rfl,HA,HK2,HO_8,HB⟩:=hrel;cases gk with
     | zero=>exact absurd HA.out (by simp [yAM.l0])
     | succ k2 =>
      have H:=HA.out;clear HA;simp only [yAM.l0] at H;by_cases c11 : x10_2 < a2
      ·rw [if_pos c11] at H;have c11b0:=decide_eq_true c11;clear c11;replace H:=Option.bind_eq_some_iff.mp H;obtain ⟨t104,A120,H⟩:=H;(try dsimp only at H);have A12:=Aside0.mk A120;clear A120;by_cases c13 : t104.toList = ([] : List UInt8)
       ·rw [if_pos c13] at H;have c13b0 : (t104.toList == ([] : List UInt8)) = true:=beq_iff_eq.mpr c13;have c13b1 : (t104.toList != ([] : List UInt8)) = false:=bne_eq_false_iff_eq.mpr c13;clear c13;have H' := Aside0.mk H;clear H;go_wp2_with (first | ((with_reducible refine gate_callee (f:=118) rfl ?_);refine goesL_ (some 30) rfl rfl Try.func118 (by kernel_rfl) rfl #[.slice A0 l0.length c0,.int .i64 x10_2] rfl (q30_) ?_;(with_reducible refine (yAQ.calls k2 _ _ l0 x10_2 t104 _ ?side1 ?side2 A12.out).mono ?_);(case side1=>exact cX_ (Kd.C_below HR0.out HB.out));(case side2=>exact HC0.out);rintro e w14 ⟨rfl,hb⟩;refine ⟨_,rfl,?_⟩;replace HO_8:=rB_ HO_8 hb;replace HB:=bS_ HB hb;(try clear hb)))
        go_roundg k2
        case measure=>have:=HJ3.out;have:=HK2.out;omega
        case rel=>exact ⟨(x8_2),(t104),(wrap64 (x10_2 + 1)),(q1_),(q1_),H', ⟨by have:=HJ3.out;have:=HK2.out;omega⟩,⟨q6_⟩,⟨q29_⟩⟩
       ·rw [if_neg c13] at H;have c13b0 : (t104.toList == ([] : List UInt8)) = false:=beq_eq_false_iff_ne.mpr c13;have c13b1 : (t104.toList != ([] : List UInt8)) = true:=bne_iff_ne.mpr c13;by_cases c15 : t104.toList = x9_2.toList
        ·rw [if_pos c15] at H;have c15b0 : (t104.toList == x9_2.toList) = true:=beq_iff_eq.mpr c15;have c15b1 : (t104.toList != x9_2.toList) = false:=bne_eq_false_iff_eq.mpr c15;clear c15;obtain ⟨ji16,hji16⟩ : ∃ j_ : Int,(wrap64 ((x8_2.length : Int) - 1)) = j_:=⟨_,rfl⟩;replace H : (if 0 ≤ (ji16) then (if (ji16) < (x8_2.length : Int) then (yAM.l0 k2 l0 a2 (x8_2.set ((ji16) : Int).toNat (⟨(rd_T58 x8_2 (ji16)).f0,wrap64 (x10_2 + 1),(rd_T58 x8_2 (ji16)).f2⟩ : S58)) t104 (wrap64 (x10_2 + 1))) else (none)) else (none)) = some (r1,r2):=by first | (rw [hji16] at H;exact H) | (simp only [hji16] at H ⊢;exact H)
         (try rw [hji16] at A12)
         have hji16w : (IntKind.i64.wrap ((x8_2.length : Int) - 1)) = ji16:=(i64_w _).trans hji16;by_cases c17 : 0 ≤ (ji16)
         ·rw [if_pos c17] at H;have c17b0:=decide_eq_true c17;clear c17;by_cases c18 : (ji16) < (x8_2.length : Int)
          ·rw [if_pos c18] at H;have c18b0:=decide_eq_true c18;clear c18;obtain ⟨y107,hy107⟩ : ∃ y_ : List (S58),y_ = (x8_2.set ((ji16) : Int).toNat (⟨(rd_T58 x8_2 (ji16)).f0,wrap64 (x10_2 + 1),(rd_T58 x8_2 (ji16)).f2⟩ : S58)):=⟨_,rfl⟩;replace H : (yAM.l0 k2 l0 a2 y107 t104 (wrap64 (x10_2 + 1))) = some (r1,r2):=by first | (rw [hy107];with_reducible exact H) | (have H2_:=(Option.bind_some _ _).symm.trans H;rw [hy107];with_reducible exact H2_) | (have H2_:=(Option.bind_some _ _).symm.trans H;with_reducible exact H2_) | with_reducible exact H | (rw [hy107];exact H) | exact H
           have Ny107:=Aside0.mk hy107;clear hy107;have H' := Aside0.mk H;clear H;go_wp2_with (first | ((with_reducible refine gate_callee (f:=118) rfl ?_);refine goesL_ (some 30) rfl rfl Try.func118 (by kernel_rfl) rfl #[.slice A0 l0.length c0,.int .i64 x10_2] rfl (q30_) ?_;(with_reducible refine (yAQ.calls k2 _ _ l0 x10_2 t104 _ ?side1 ?side2 A12.out).mono ?_);(case side1=>exact cX_ (Kd.C_below HR0.out HB.out));(case side2=>exact HC0.out);rintro e w20 ⟨rfl,hb⟩;refine ⟨_,rfl,?_⟩;replace HO_8:=rB_ HO_8 hb;replace HB:=bS_ HB hb;(try clear hb);(try clear hk);obtain ⟨Ao21,co21,eo21⟩:=Kd.R_slice HO_8.out;subst eo21;have p105 : 0 ≤ ((ji16) : Int):=of_decide_eq_true (q2_);have q105 : (ji16) < (x8_2.length : Int):=of_decide_eq_true (q2_);obtain ⟨ad105,e105,hx105_0,hx105_1,hx105_2⟩:=at_T58 (Kd.R_reads' HO_8.out).2.2 (ji16) p105 q105;cases e105;replace p105:=eq_true p105;replace q105:=eq_true q105) | ((with_reducible refine gate_dst (N:=12) rfl ?_);refine box_event ?hg (N:=12) ?hd (cs:=#[.int .i64 0,.int .i64 0,.string (⟨#[]⟩ : ByteArray)]) (t:=58) ?hr ?_;(case hd=>rfl);(case hg=>rfl);(case hr=>first | (go_simp;done) | (go_simp;rfl));intro gb106 hg w22 hbox hb;replace HO_8:=Aside0.mk (Kd.R_below (Kd.R_elderB (q6_) gb106 (Nat.le_of_eq hg.symm)) hb);have BK106:=Aside0.mk (hbox);have GW106:=Aside0.mk ((q67_ : w.heap.size ≤ gb106));have GE106:=Aside0.mk ((q67_ : w.heap.size ≤ gb106));replace HB:=bS_ HB hb;clear hb hbox hg;obtain ⟨hcz23_0,hcz23_1,hcz23_2,hfz23_0,hfz23_1,hfz23_2⟩:=bx3_ BK106.out) | ((with_reducible refine gate_store (t:=58) (p:=12) rfl ?_);refine store_event (t:=58) (p:=12) (v:=?vo_w24) (w1:=(((w22.setCell ⟨gb106,0,none⟩ (.int .i64 ((rd_T58 x8_2 (ji16)).f0))).setCell ⟨gb106,1,none⟩ (.int .i64 ((rd_T58 x8_2 (ji16)).f1))).setCell ⟨gb106,2,none⟩ (.string ((rd_T58 x8_2 (ji16)).f2)))) ?hg ?ho ?hn ?hr ?_;(case ho=>rfl);(case hg=>rfl);(case hn=>rfl);(case hr=>first | (go_simp;done) | (go_simp;rfl));intro w24 hw;have n0_ : Aside0 (Kd.R k58 58 w24 w.heap.size (fun k_=>k_ ≠ gb106) (.slice (some ad105) x8_2.length co21) x8_2):=⟨(by rw [hw];exact (by (with_reducible repeat (first | apply Kd.R_alloc | apply Kd.R_drewN | apply Kd.R_drew));exact Kd.R_mono (Kd.R_far (p:=⟨gb106,2,none⟩) (Kd.R_far (p:=⟨gb106,1,none⟩) (Kd.R_far (p:=⟨gb106,0,none⟩) (Kd.R_mono HO_8.out (fun k_ hk=>(⟨hk,hk.2⟩ : _ ∧ k_ ≠ gb106))) (fun _ hk=>hk.2) (.int .i64 ((rd_T58 x8_2 (ji16)).f0))) (fun _ hk=>hk.2) (.int .i64 ((rd_T58 x8_2 (ji16)).f1))) (fun _ hk=>hk.2) (.string ((rd_T58 x8_2 (ji16)).f2))) (fun _ hk=>hk.1.2)))⟩;have n1_ : Aside0 (w24.heap[gb106]? = some (.cells #[.int .i64 ((rd_T58 x8_2 (ji16)).f0),.int .i64 ((rd_T58 x8_2 (ji16)).f1),.string ((rd_T58 x8_2 (ji16)).f2)] 58 (0,0))):=⟨(by rw [hw];exact (by (with_reducible repeat (first | refine blk_drewN ?_ _ | refine blk_drew ?_ | refine blk_alloc ?_ _));refine blk_put (cs:=#[.int .i64 ((rd_T58 x8_2 (ji16)).f0),.int .i64 ((rd_T58 x8_2 (ji16)).f1),.string (⟨#[]⟩ : ByteArray)]) ?_ 2 _ rfl;(with_reducible repeat (first | refine blk_drewN ?_ _ | refine blk_drew ?_ | refine blk_alloc ?_ _));refine blk_put (cs:=#[.int .i64 ((rd_T58 x8_2 (ji16)).f0),.int .i64 0,.string (⟨#[]⟩ : ByteArray)]) ?_ 1 _ rfl;(with_reducible repeat (first | refine blk_drewN ?_ _ | refine blk_drew ?_ | refine blk_alloc ?_ _));refine blk_put (cs:=#[.int .i64 0,.int .i64 0,.string (⟨#[]⟩ : ByteArray)]) ?_ 0 _ rfl;(with_reducible repeat (first | refine blk_drewN ?_ _ | refine blk_drew ?_ | refine blk_alloc ?_ _));exact BK106.out))⟩;have n2_ : Aside0 (Below w.heap.size w w24):=⟨(by rw [hw];exact (by repeat (first | (with_reducible first | exact HB.out | apply below_alloc | apply pw_below_drewN | apply below_drew1 | refine below_set ?_ GE106.out) | exact HB.out)))⟩;clear hw;clear HO_8;clear BK106;clear HB;have HO_8:=n0_;have BK106:=n1_;have HB:=n2_;clear n0_ n1_ n2_;obtain ⟨hcz25_0,hcz25_1,hcz25_2,hfz25_0,hfz25_1,hfz25_2⟩:=bx3_ BK106.out) | ((with_reducible refine gate_store (t:=3) (p:=54) rfl ?_);refine store_event (t:=3) (p:=54) (v:=?vo_w26) (w1:=(w24.setCell ⟨gb106,1,none⟩ (.int .i64 (wrap64 (x10_2 + 1))))) ?hg ?ho ?hn ?hr ?_;(case ho=>rfl);(case hg=>rfl);(case hn=>rfl);(case hr=>first | (go_simp;done) | (go_simp;rfl));intro w26 hw;have n0_ : Aside0 (Kd.R k58 58 w26 w.heap.size (fun k_=>k_ ≠ gb106) (.slice (some ad105) x8_2.length co21) x8_2):=⟨(by rw [hw];exact (by (with_reducible repeat (first | apply Kd.R_alloc | apply Kd.R_drewN | apply Kd.R_drew));exact Kd.R_mono (Kd.R_far (p:=⟨gb106,1,none⟩) (Kd.R_mono HO_8.out (fun k_ hk=>(⟨hk,hk⟩ : _ ∧ k_ ≠ gb106))) (fun _ hk=>hk.2) (.int .i64 (wrap64 (x10_2 + 1)))) (fun _ hk=>hk.1)))⟩;have n1_ : Aside0 (w26.heap[gb106]? = some (.cells #[.int .i64 ((rd_T58 x8_2 (ji16)).f0),.int .i64 (wrap64 (x10_2 + 1)),.string ((rd_T58 x8_2 (ji16)).f2)] 58 (0,0))):=⟨(by rw [hw];exact (by (with_reducible repeat (first | refine blk_drewN ?_ _ | refine blk_drew ?_ | refine blk_alloc ?_ _));refine blk_put (cs:=#[.int .i64 ((rd_T58 x8_2 (ji16)).f0),.int .i64 ((rd_T58 x8_2 (ji16)).f1),.string ((rd_T58 x8_2 (ji16)).f2)]) ?_ 1 _ rfl;(with_reducible repeat (first | refine blk_drewN ?_ _ | refine blk_drew ?_ | refine blk_alloc ?_ _));exact BK106.out))⟩;have n2_ : Aside0 (Below w.heap.size w w26):=⟨(by rw [hw];exact (by repeat (first | (with_reducible first | exact HB.out | apply below_alloc | apply pw_below_drewN | apply below_drew1 | refine below_set ?_ GE106.out) | exact HB.out)))⟩;clear hw;clear HO_8;clear BK106;clear HB;have HO_8:=n0_;have BK106:=n1_;have HB:=n2_;clear n0_ n1_ n2_;obtain ⟨hcz27_0,hcz27_1,hcz27_2,hfz27_0,hfz27_1,hfz27_2⟩:=bx3_ BK106.out;have p19 : 0 ≤ ((ji16) : Int):=of_decide_eq_true (q2_);have q19 : ((ji16) : Int) < ((x8_2.length : Int) : Int):=of_decide_eq_true (q2_);obtain ⟨go19,co19,eo19,gb19,gl19,cl19,HG19⟩:=Kd.R_form HO_8.out (by omega);(first | cases eo19 | (injection eo19 with ea_ en_ ec_;(first | subst ea_ | (injection ea_ with ea_;subst ea_));subst ec_;clear en_));have GB19:=Aside0.mk gb19;have GG19:=Aside0.mk HG19;clear gb19 gl19 HG19;(first | simp only [add_plain] at hx105_0 | skip);(first | simp only [add_plain] at hx105_1 | skip);(first | simp only [add_plain] at hx105_2 | skip);obtain ⟨ce19,hcl19,hM19,hcc19,hfr19⟩:=Kd.R_elem HO_8.out z58 ((ji16) : Int) p19 q19;obtain rfl:=k58_openM hM19;have hx19_0 : w26.cell? ⟨go19,((ji16) : Int).toNat * 3,none⟩ = some (.int .i64 ((rd_T58 x8_2 (ji16)).f0)):=hcc19 0 _ rfl;have hx19_1 : w26.cell? ⟨go19,((ji16) : Int).toNat * 3 + 1,none⟩ = some (.int .i64 ((rd_T58 x8_2 (ji16)).f1)):=hcc19 1 _ rfl;have hx19_2 : w26.cell? ⟨go19,((ji16) : Int).toNat * 3 + 2,none⟩ = some (.string ((rd_T58 x8_2 (ji16)).f2)):=hcc19 2 _ rfl;have hf19_0 : w26.frozen? ⟨go19,((ji16) : Int).toNat * 3,none⟩ = false:=hfr19 0;have hf19_1 : w26.frozen? ⟨go19,((ji16) : Int).toNat * 3 + 1,none⟩ = false:=hfr19 1;have hf19_2 : w26.frozen? ⟨go19,((ji16) : Int).toNat * 3 + 2,none⟩ = false:=hfr19 2;clear hcl19 hcc19 hfr19 hM19;replace p19:=eq_true p19;replace q19:=eq_true q19;have HX28:=Aside0.mk (show Kd.R k58 58 w26 w.heap.size (fun k_=>k_ ≠ gb106) (.slice (some ⟨go19,0,none⟩) x8_2.length co21) x8_2 from (q6_));obtain ⟨ce28,hcl28,hM28,hcc28,hfr28⟩:=Kd.R_elem HX28.out z58 ((ji16) : Int) (of_decide_eq_true (q2_)) (by have h_ : ((ji16) : Int) < ((x8_2.length : Int) : Int):=of_decide_eq_true (q2_);first | exact h_ | (have e_:=(Kd.R_reads' HO_8.out).1;omega) | simpa using h_);obtain rfl:=k58_openM hM28;have HP28:=Kd.R_seg HX28.out ((ji16) : Int) (of_decide_eq_true (q2_)) (by have h_ : ((ji16) : Int) < ((x8_2.length : Int) : Int):=of_decide_eq_true (q2_);first | exact h_ | (have e_:=(Kd.R_reads' HO_8.out).1;omega) | simpa using h_) (seg:=[.int .i64 ((rd_T58 x8_2 (ji16)).f0),.int .i64 (wrap64 (x10_2 + 1)),.string ((rd_T58 x8_2 (ji16)).f2)]) (j:=0) hcl28 hcc28 (show 3 ≤ 3 from by decide) (x' := (⟨(rd_T58 x8_2 (ji16)).f0,wrap64 (x10_2 + 1),(rd_T58 x8_2 (ji16)).f2⟩ : S58)) (k58_mkM _ _ _ (⟨(rd_T58 x8_2 (ji16)).f0,wrap64 (x10_2 + 1),(rd_T58 x8_2 (ji16)).f2⟩ : S58) ) (fun _ hk=>hk);have hx28_0:=hcc28 0 _ rfl;(try simp only [show (k58).sz = 3 from rfl,Nat.mul_one,Nat.add_zero] at hx28_0);have hf28_0:=hfr28 0;(try simp only [show (k58).sz = 3 from rfl,Nat.mul_one,Nat.add_zero] at hf28_0);have hx28_1:=hcc28 1 _ rfl;(try simp only [show (k58).sz = 3 from rfl,Nat.mul_one,Nat.add_zero] at hx28_1);have hf28_1:=hfr28 1;(try simp only [show (k58).sz = 3 from rfl,Nat.mul_one,Nat.add_zero] at hf28_1);have hx28_2:=hcc28 2 _ rfl;(try simp only [show (k58).sz = 3 from rfl,Nat.mul_one,Nat.add_zero] at hx28_2);have hf28_2:=hfr28 2;(try simp only [show (k58).sz = 3 from rfl,Nat.mul_one,Nat.add_zero] at hf28_2);clear hcl28 hcc28 hfr28 hM28) | ((with_reducible refine gate_store (t:=58) (p:=60) rfl ?_);refine store_event (t:=58) (p:=60) (v:=?vo_w29) (w1:=(((w26.setCell ⟨go19,((ji16) : Int).toNat * 3,none⟩ (.int .i64 ((rd_T58 x8_2 (ji16)).f0))).setCell ⟨go19,((ji16) : Int).toNat * 3 + 1,none⟩ (.int .i64 (wrap64 (x10_2 + 1)))).setCell ⟨go19,((ji16) : Int).toNat * 3 + 2,none⟩ (.string ((rd_T58 x8_2 (ji16)).f2)))) ?hg ?ho ?hn ?hr ?_;(case ho=>rfl);(case hg=>rfl);(case hn=>rfl);(case hr=>first | (go_simp;done) | (go_simp;rfl));intro w29 hw;have hg : w26.grownBy w29 (some go19):=(by rw [hw];exact HP28.2);have hp_ : Kd.R k58 58 w29 w.heap.size (fun k_=>k_ ≠ gb106) (.slice (some ⟨go19,0,none⟩) x8_2.length co21) y107:=(by rw [hw,Ny107.out];exact HP28.1);clear HP28;replace BK106:=Aside0.mk (blk_grown (g:=gb106) (o:=.cells #[.int .i64 ((rd_T58 x8_2 (ji16)).f0),.int .i64 (wrap64 (x10_2 + 1)),.string ((rd_T58 x8_2 (ji16)).f2)] 58 (0,0)) (by (with_reducible repeat (first | refine blk_drewN ?_ _ | refine blk_drew ?_ | refine blk_alloc ?_ _));exact BK106.out) hg (Kd.R_away HO_8.out (fun _ hk=>hk)));replace HO_8:=Aside0.mk (hp_);replace HB:=Aside0.mk ((by rw [hw];exact below_set (below_set (below_set (HB.out) GB19.out) GB19.out) GB19.out : Below w.heap.size w w29));clear hg hw hp_))
           go_roundg k2
           case measure=>have:=HJ3.out;have:=HK2.out;omega
           case rel=>exact ⟨(y107),(t104),(wrap64 (x10_2 + 1)),(q1_),(q1_),H', ⟨by have:=HJ3.out;have:=HK2.out;omega⟩,⟨by (with_reducible repeat (first | apply Kd.R_alloc | apply Kd.R_drewN | apply Kd.R_drew));exact Kd.R_mono HO_8.out (fun _ hk=>trivial)⟩,⟨by repeat (first | (with_reducible first | exact HB.out | apply below_alloc | apply pw_below_drewN | apply below_drew1 | refine below_set ?_ GE106.out) | exact HB.out)⟩⟩
          ·rw [if_neg c18] at H;exact absurd H (by simp)
         ·rw [if_neg c17] at H;exact absurd H (by simp)
        ·rw [if_neg c15] at H;have c15b0 : (t104.toList == x9_2.toList) = false:=beq_eq_false_iff_ne.mpr c15;have c15b1 : (t104.toList != x9_2.toList) = true:=bne_iff_ne.mpr c15;by_cases c30 : x8_2.length < 4398046511104
         ·rw [if_pos c30] at H;have LMc30:=Aside0.mk c30;clear c30;obtain ⟨y108,hy108⟩ : ∃ y_ : List (S58),y_ = (x8_2 ++ [(⟨x10_2,wrap64 (x10_2 + 1),t104⟩ : S58)]):=⟨_,rfl⟩;replace H : (yAM.l0 k2 l0 a2 y108 t104 (wrap64 (x10_2 + 1))) = some (r1,r2):=by first | (rw [hy108];with_reducible exact H) | (have H2_:=(Option.bind_some _ _).symm.trans H;rw [hy108];with_reducible exact H2_) | (have H2_:=(Option.bind_some _ _).symm.trans H;with_reducible exact H2_) | with_reducible exact H | (rw [hy108];exact H) | exact H
          have Ny108:=Aside0.mk hy108;clear hy108;have H' := Aside0.mk H;clear H;go_wp2_with (first | ((with_reducible refine gate_callee (f:=118) rfl ?_);refine goesL_ (some 30) rfl rfl Try.func118 (by kernel_rfl) rfl #[.slice A0 l0.length c0,.int .i64 x10_2] rfl (q30_) ?_;(with_reducible refine (yAQ.calls k2 _ _ l0 x10_2 t104 _ ?side1 ?side2 A12.out).mono ?_);(case side1=>exact cX_ (Kd.C_below HR0.out HB.out));(case side2=>exact HC0.out);rintro e w31 ⟨rfl,hb⟩;refine ⟨_,rfl,?_⟩;replace HO_8:=rB_ HO_8 hb;replace HB:=bS_ HB hb;(try clear hb);(try clear hk)) | ((with_reducible refine gate_builtin (b:=.append) (xs:=#[.tmp 31,.tmp 37]) rfl ?_);at_builtin;refine Kd.R_append k58 (w0:=w) w.heap.size rfl (.tmp 31) (.tmp 37) 30 58 (.agg #[(.int .i64 0),(.int .i64 0),(.string ⟨#[]⟩)]) 32 rfl Try.underlying30 info58 rfl (by decide) (by omega) u8 x8_2 (⟨x10_2,wrap64 (x10_2 + 1),t104⟩ : S58) [.int .i64 x10_2,.int .i64 (wrap64 (x10_2 + 1)),.string t104] (fun _=>True) (fun _=>False) rfl rfl ?aP (fun _ hk=>hk.elim) ?aF ?aO ?aB ?aS ?aL ?_;(case aP=>exact k58_mkM _ _ _ (⟨x10_2,wrap64 (x10_2 + 1),t104⟩ : S58));(case aB=>exact (q29_));(case aF=>exact (fun _ _=>trivial));(case aO=>exact (q6_));(case aS=>exact (below_size (q29_)));(case aL=>have:=LMc30.out;omega);intro v109 w32 ho hb hg hat;rw [← Ny108.out] at ho;replace HB:=Aside0.mk (hb);have HO110:=Aside0.mk (ho);clear HO_8;clear ho hb hg hat))
          go_roundg k2
          case measure=>have:=HJ3.out;have:=HK2.out;omega
          case rel=>exact ⟨(y108),(t104),(wrap64 (x10_2 + 1)),(q1_),(q1_),H', ⟨by have:=HJ3.out;have:=HK2.out;omega⟩,⟨q17_⟩,⟨q29_⟩⟩
         ·rw [if_neg c30] at H;exact absurd H (by simp)
      ·rw [if_neg c11] at H;have c11b0:=decide_eq_false c11;clear c11;replace H:=Option.bind_eq_some_iff.mp H;obtain ⟨t103,A330,H⟩:=H;(try dsimp only at H);have A33:=Aside0.mk A330;clear A330;by_cases c34 : t103 = true
       ·subst c34;rw [if_pos rfl] at H;simp only [Option.some.injEq,Prod.mk.injEq] at H;obtain ⟨rfl,rfl⟩:=H;obtain ⟨Ao35,co35,eo35⟩:=Kd.R_slice HO_8.out;subst eo35;go_wp2_with (first | ((with_reducible refine gate_callee (f:=119) rfl ?_);refine goesL_ (some 63) rfl rfl Try.func119 (by kernel_rfl) rfl #[.slice Ao35 x8_2.length co35] rfl (q30_) ?_;(with_reducible refine (yAK.calls k2 _ _ x8_2 true _ ?side1 ?side2 A33.out).mono ?_);(case side1=>exact cX_ (Kd.R_reads' HO_8.out).2.2);(case side2=>exact (Kd.R_reads' HO_8.out).2.1);rintro e w36 ⟨rfl,hb⟩;refine ⟨_,rfl,?_⟩;replace HO_8:=rB_ HO_8 hb;replace HB:=bS_ HB hb;(try clear hb)))
        go_ret2
        exact ⟨_,q4_,q6_,q29_⟩
       ·replace c34:=Bool.eq_false_iff.mpr c34;subst c34;rw [if_neg (show ¬ (false = true) by decide)] at H;simp only [Option.some.injEq,Prod.mk.injEq] at H;obtain ⟨rfl,rfl⟩:=H;obtain ⟨Ao37,co37,eo37⟩:=Kd.R_slice HO_8.out;subst eo37;go_wp2_with (first | ((with_reducible refine gate_callee (f:=119) rfl ?_);refine goesL_ (some 63) rfl rfl Try.func119 (by kernel_rfl) rfl #[.slice Ao37 x8_2.length co37] rfl (q30_) ?_;(with_reducible refine (yAK.calls k2 _ _ x8_2 false _ ?side1 ?side2 A33.out).mono ?_);(case side1=>exact cX_ (Kd.R_reads' HO_8.out).2.2);(case side2=>exact (Kd.R_reads' HO_8.out).2.1);rintro e w38 ⟨rfl,hb⟩;refine ⟨_,rfl,?_⟩;replace HO_8:=rB_ HO_8 hb;replace HB:=bS_ HB hb;(try clear hb)))
        go_ret2
        exact ⟨_,q4_,q32_,q29_⟩
/-! ### yAY: function 120 -/
def yAY.go (n a1 : Int) : List (List (S58)) → List ByteArray → Option ByteArray
 | [],_=>some ⟨#[]⟩
 | x :: l,seen=>(yAr.f x a1).bind fun s=>if s.size ≤ 140737488355328 then (if wrap64 (2 * MMap.cnt (seen ++ [s]) s) > n then some s else yAY.go n a1 l (seen ++ [s])) else none
def yAY.f (l0 : List (List (S58))) (a1 : Int) : Option ByteArray:=if l0.length ≤ 1000 then yAY.go (l0.length : Int) a1 l0 [] else none
set_option maxHeartbeats 8000000 in
set_option maxRecDepth 100000 in
theorem yAY.calls (A0 : Option Addr) (c0 : Nat) (l0 : List (List (S58))) (a1 : Int) (r : ByteArray) (w : World) (hr0 : Kd.C ((Kd.slice 58 k58)) w A0 l0.length l0) (hc0 : l0.length ≤ c0) (h : yAY.f l0 a1 = some r) :
  Calls Try.prog 120 #[.slice A0 l0.length c0,.int .i64 a1] w fun e w' => e = .returned (.string r) ∧ Below w.heap.size w w' := by
 unfold yAY.f at h
 split at h
 rotate_left
 ·exact absurd h (by simp)
 rename_i hn;have HN:=Aside0.mk hn;have HR:=Aside0.mk hr0;have HF:=Aside0.mk h;have HB:=Aside0.mk (Below.refl w.heap.size w);have hmm:=@run_makeMap Try.prog;clear hn hr0 hc0 h;go_enter Try.func120,Try.ntmps120
 go_wp2;obtain ⟨B,hB⟩ : ∃ B,w.heap.size = B:=⟨_,rfl⟩;have HWB:=Aside0.mk (show w.heap.size ≤ B by omega);rw [hB];go_loopg [7,8,12] l0.length (fun gg _ _ s12 wr=>∃ (i : Int) (seen : List ByteArray),s12 = .int .i64 i ∧ Aside0 (0 ≤ i ∧ i ≤ (l0.length : Int) ∧ (l0.length : Int) - i ≤ (gg : Int)) ∧ Aside0 (seen.length = i.toNat ∧ yAY.go (l0.length : Int) a1 (l0.drop i.toNat) seen = some r) ∧ Aside0 (∃ D,MMap.Has seen D ∧ wr.ownsMap Try.prog 9 (plainElem Try.prog 3) B i.toNat D) ∧ Aside0 (Below w.heap.size w wr))
 case atStart=>exact ⟨0,[],rfl,⟨by omega⟩,⟨rfl,HF.out⟩,⟨_,MMap.Has.start,by rw [← hB];exact World.ownsMap_made _ _ _ _⟩,⟨q29_⟩⟩
 case round =>
  clear HB HF hB;obtain ⟨i,seen,rfl,HX,HG,HO,HB⟩:=hrel;by_cases hlt : i < (l0.length : Int)
  ·have p1 : 0 ≤ i:=HX.out.1;have q1:=hlt;have hw : wrap64 (i + 1) = i + 1:=by have:=HN.out;unfold wrap64;omega
   have HW:=Aside0.mk hw;clear hw;obtain ⟨ad,Ai,ci,e,hx0,hl0,hi0⟩:=at_L13 HR.out i p1 q1;cases e;replace hx0:=hB_ HB.out hx0
   have hdr : l0.drop i.toNat = rd_L13 l0 i :: l0.drop (i.toNat + 1):=by
    rw [List.drop_eq_getElem_cons (show i.toNat < l0.length by omega)]
    congr 1
    show _ = l0.getD i.toNat [];rw [List.getD_eq_getElem?_getD,List.getElem?_eq_getElem (show i.toNat < l0.length by omega)];rfl
   have hG:=HG.out.2;rw [hdr,yAY.go] at hG;obtain ⟨s,hs,hG⟩:=Option.bind_eq_some_iff.mp hG;have hcall:=yAr.calls Ai ci (rd_L13 l0 i) a1 s wr (Kd.C_below hi0 HB.out) hl0 hs;clear hi0 hl0 hdr hs;obtain ⟨y,hy⟩ : ∃ y,rd_L13 l0 i = y:=⟨_,rfl⟩;rw [hy] at hx0 hcall;clear hy
   split at hG
   rotate_left
   ·exact absurd hG (by simp)
   rename_i hsz;have hkey : keyOf Try.prog 9 (.string s) = some (MMap.key s):=Go.WideMaps.keyOf_string_mk Try.underlying9 (Nat.le_trans hsz (by unfold maxLen;omega));have HC:=Aside0.mk hcall;have HG2:=Aside0.mk hG;have HK:=Aside0.mk hkey;have HLT:=Aside0.mk hlt;have b1 : decide (i < (l0.length : Int)) = true:=decide_eq_true hlt;clear hcall hG hkey hsz hlt;replace p1:=eq_true p1;replace q1:=eq_true q1;go_wp2_with fail
   refine HC.out.mono ?_;clear HC;rintro e wk ⟨rfl,hb⟩;have HB1:=Aside0.mk (below_step HB.out hb);obtain ⟨D,hD,hown0⟩:=HO.out;have hown:=MMap.own_below hown0 hb;clear hb hx0 hown0 HO HB;have hkey:=HK.out;obtain ⟨c,hrun,hat,_⟩:=hown.lookup_int (MMap.law Try.underlying9) Try.underlying170 Try.underlying3 (show (zeroValue 3).run Try.prog wk = .ok (.int .i64 0) wk by kernel_rfl) hkey
   have hc : c = MMap.cnt seen s:=by
    rw [hD.2 s] at hat;injection hat with hat
    injection hat with _ hat
    exact hat.symm
   subst hc;have hcnt : MMap.cnt (seen ++ [s]) s = MMap.cnt seen s + 1:=by rw [MMap.cnt_step,if_pos (by simp)]
   have HCN:=Aside0.mk hcnt
   have HCW:=Aside0.mk (show wrap64 (MMap.cnt seen s + 1) = MMap.cnt seen s + 1 by
    have h1:=MMap.cnt_le seen s;have:=HG.out.1;have:=HX.out;have:=HN.out;unfold wrap64;omega)
   have HD:=Aside0.mk (hD.step s);clear hat hD hcnt;go_wp2_with (first | (at_mapUpdate;refine wpList_mapUpdate_own _ rfl _ _ _ 170 rfl 9 3 (MMap.law Try.underlying9) Try.underlying170 _ B i.toNat _ rfl hown (by have:=HN.out;have:=HX.out;unfold maxLen;omega) _ _ _ rfl rfl hkey _ [] (plainElem_int Try.underlying3 (wrap64_wf _)) ?_) | go_in)
   intro w1 hown1 hgrow1;have HB2:=Aside0.mk (HB1.out.grown hgrow1 HB1.out.size (fun k hk=>by cases hk;exact HWB.out));rw [HCW.out] at hown1;clear hown hgrow1 hrun HB1;obtain ⟨c,hrun,hat,_⟩:=hown1.lookup_int (MMap.law Try.underlying9) Try.underlying170 Try.underlying3 (show (zeroValue 3).run Try.prog w1 = .ok (.int .i64 0) w1 by kernel_rfl) hkey
   have hc : c = MMap.cnt (seen ++ [s]) s:=by
    rw [HD.out.2 s] at hat;injection hat with hat
    injection hat with _ hat
    exact hat.symm
   subst hc;have HO1:=Aside0.mk hown1;clear hat hown1 hkey;have hG:=HG2.out;clear HG2;obtain ⟨q,hq⟩ : ∃ q,wrap64 (2 * MMap.cnt (seen ++ [s]) s) = q:=⟨_,rfl⟩;rw [hq] at hG;by_cases hgt : q > (l0.length : Int)
   ·rw [if_pos hgt] at hG;obtain rfl:=Option.some.inj hG;have b2 : decide ((l0.length : Int) < q) = true:=decide_eq_true hgt;clear hG hgt;go_wp2;go_ret;exact ⟨rfl,HB2.out⟩
   ·rw [if_neg hgt] at hG;have HG3:=Aside0.mk hG;have b2 : decide ((l0.length : Int) < q) = false:=decide_eq_false hgt;clear hG hgt;go_wp2;go_roundg (l0.length - (i.toNat + 1))
    case measure=>have:=HX.out;have:=HLT.out;omega
    case rel =>
     have hn : (i + 1).toNat = i.toNat + 1:=by have:=HX.out;omega
     refine ⟨i + 1,seen ++ [s],by first | rfl | (rw [HW.out]) | (simp [HW.out]),⟨by have:=HX.out;have:=HLT.out;omega⟩,⟨by rw [List.length_append,HG.out.1,hn];rfl,by rw [hn];exact HG3.out⟩,⟨_,HD.out,by rw [hn];exact HO1.out⟩,⟨HB2.out⟩⟩
  ·have b1 : decide (i < (l0.length : Int)) = false:=decide_eq_false hlt;have hG:=HG.out.2;rw [List.drop_eq_nil_of_le (by have:=HX.out;omega),yAY.go] at hG;obtain rfl:=Option.some.inj hG;clear hG hlt HO;go_wp2;go_ret;exact ⟨rfl,HB.out⟩
end Go.Proofs.Ytgapcmmhbegdeaa.G
