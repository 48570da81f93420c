-- Written by this session's own program over the kit's print (wip/tools/myprint.py); Lean checks it.
import Derived.Test.YtgapcmmhbegdeaaMBase
import Derived.Test.YtgapcmmhbegdeaaG0
import Derived.Test.YtgapcmmhbegdeaaG2
namespace Go.Proofs.Ytgapcmmhbegdeaa.G
open Go.RowKit Go.Proofs.YtgapcmmhbegdeaaW.PrintWords Go.Proofs.YtgapcmmhbegdeaaW.PrintLast Go.Proofs.YtgapcmmhbegdeaaW.PrintMore
attribute [local go_sem] max2_int min2_int max_two min_two max_three min_three max_four min_four str_geq str_gtr str_leq   -- for this text's walks alone
set_option linter.unusedVariables false
set_option linter.unusedSimpArgs false
/-! ### impl_sameFrames: function 117 -/
def impl_sameFrames.l0 : Nat → List (S58) → List (S58) → Int → Int → Int → Option (Int)
 | 0,_,_,_,_,_=>none
 | k + 1,x0,x1,x3,x9,x10=>if x10 < x3 then ((impl_glossAt.f x0 x10).bind fun t101=>((impl_glossAt.f x1 x10).bind fun t102=>(if t101.toList = t102.toList then (impl_sameFrames.l0 k x0 x1 x3 (wrap64 (x9 + 1)) (wrap64 (x10 + 1))) else (impl_sameFrames.l0 k x0 x1 x3 x9 (wrap64 (x10 + 1)))))) else (some x9)
def impl_sameFrames.f (k : Nat) (l0 : List (S58)) (l1 : List (S58)) (a2 : Int) (a3 : Int) : Option (Int):=impl_sameFrames.l0 k l0 l1 a3 0 a2
set_option maxHeartbeats 8000000 in
set_option maxRecDepth 100000 in
theorem impl_sameFrames.calls (k : Nat) (A0 : Option Addr) (c0 : Nat) (l0 : List (S58)) (A1 : Option Addr) (c1 : Nat) (l1 : List (S58)) (a2 : Int) (a3 : Int) (r : Int) (w : World) (hr0 : Kd.C k58 w A0 l0.length l0) (hc0 : l0.length ≤ c0) (hr1 : Kd.C k58 w A1 l1.length l1) (hc1 : l1.length ≤ c1) (h : impl_sameFrames.f k l0 l1 a2 a3 = some r) :
  Calls Try.prog 117 #[.slice A0 l0.length c0,.slice A1 l1.length c1,.int .i64 a2,.int .i64 a3] w fun e w' => e = .returned (.int .i64 r) ∧ Below w.heap.size w w' := by
 have HR0:=Aside0.mk hr0;have HC0:=Aside0.mk hc0;clear hr0 hc0;have HR1:=Aside0.mk hr1;have HC1:=Aside0.mk hc1;clear hr1 hc1;have HB:=Aside0.mk (Below.refl w.heap.size w);have H : (impl_sameFrames.l0 k l0 l1 a3 0 a2) = some r:=h;clear h;have H' := Aside0.mk H;clear H;go_enter Try.func117,Try.ntmps117
 go_wp2;go_loopg [9,10] k (fun kq v9 v10 w' => ∃ (x9_1 : Int) (x10_1 : Int),v9 = .int .i64 x9_1 ∧ v10 = .int .i64 x10_1 ∧ Aside0 (impl_sameFrames.l0 kq l0 l1 a3 x9_1 x10_1 = some r) ∧ Aside0 (kq ≤ k) ∧ Aside0 (Below w.heap.size w w'))
 case atStart=>exact ⟨(0),(a2),(q1_),(q1_),H', ⟨Nat.le_refl _⟩,⟨q19_⟩⟩
 case round =>
  clear H';try clear c1
  obtain ⟨x9_1,x10_1,rfl,rfl,HA,HK1,HB⟩:=hrel;cases gk with
  | zero=>exact absurd HA.out (by simp [impl_sameFrames.l0])
  | succ k1 =>
   have H:=HA.out;clear HA;simp only [impl_sameFrames.l0] at H;by_cases c5 : x10_1 < a3
   ·rw [if_pos c5] at H;have c5b0 : decide (x10_1 < a3) = true:=decide_eq_true c5;clear c5;replace H:=Option.bind_eq_some_iff.mp H;obtain ⟨t101,A60,H⟩:=H;(try dsimp only at H);have A6:=Aside0.mk A60;clear A60;replace H:=Option.bind_eq_some_iff.mp H;obtain ⟨t102,A70,H⟩:=H;(try dsimp only at H);have A7:=Aside0.mk A70;clear A70;by_cases c8 : t101.toList = t102.toList
    ·rw [if_pos c8] at H;have c8b0 : (t101.toList == t102.toList) = true:=beq_iff_eq.mpr c8;have c8b1 : (t101.toList != t102.toList) = false:=bne_eq_false_iff_eq.mpr c8;clear c8;have H' := Aside0.mk H;clear H;go_wp2_with (first | ((with_reducible refine gate_callee (f:=182) rfl ?_);refine goesL_ (some 19) rfl rfl Try.func182 (by kernel_rfl) rfl #[.slice A0 l0.length c0,.int .i64 x10_1] rfl (q20_) ?_;(with_reducible refine (impl_glossAt.calls _ _ l0 x10_1 t101 _ ?side1 ?side2 A6.out).mono ?_);(case side1=>exact cX_ (Kd.C_below HR0.out HB.out));(case side2=>exact HC0.out);rintro e w9 ⟨rfl,hb⟩;refine ⟨_,rfl,?_⟩;replace HB:=bS_ HB hb;(try clear hb)) | ((with_reducible refine gate_callee (f:=182) rfl ?_);refine goesL_ (some 22) rfl rfl Try.func182 (by kernel_rfl) rfl #[.slice A1 l1.length c1,.int .i64 x10_1] rfl (q20_) ?_;(with_reducible refine (impl_glossAt.calls _ _ l1 x10_1 t102 _ ?side1 ?side2 A7.out).mono ?_);(case side1=>exact cX_ (Kd.C_below HR1.out HB.out));(case side2=>exact HC1.out);rintro e w10 ⟨rfl,hb⟩;refine ⟨_,rfl,?_⟩;replace HB:=bS_ HB hb;(try clear hb)))
     go_roundg k1
     case measure=>have:=HK1.out;omega
     case rel=>exact ⟨(wrap64 (x9_1 + 1)),(wrap64 (x10_1 + 1)),(q1_),(q1_),H', ⟨by have:=HK1.out;omega⟩,⟨q19_⟩⟩
    ·rw [if_neg c8] at H;have c8b0 : (t101.toList == t102.toList) = false:=beq_eq_false_iff_ne.mpr c8;have c8b1 : (t101.toList != t102.toList) = true:=bne_iff_ne.mpr c8;have H' := Aside0.mk H;clear H;go_wp2_with (first | ((with_reducible refine gate_callee (f:=182) rfl ?_);refine goesL_ (some 19) rfl rfl Try.func182 (by kernel_rfl) rfl #[.slice A0 l0.length c0,.int .i64 x10_1] rfl (q20_) ?_;(with_reducible refine (impl_glossAt.calls _ _ l0 x10_1 t101 _ ?side1 ?side2 A6.out).mono ?_);(case side1=>exact cX_ (Kd.C_below HR0.out HB.out));(case side2=>exact HC0.out);rintro e w11 ⟨rfl,hb⟩;refine ⟨_,rfl,?_⟩;replace HB:=bS_ HB hb;(try clear hb)) | ((with_reducible refine gate_callee (f:=182) rfl ?_);refine goesL_ (some 22) rfl rfl Try.func182 (by kernel_rfl) rfl #[.slice A1 l1.length c1,.int .i64 x10_1] rfl (q20_) ?_;(with_reducible refine (impl_glossAt.calls _ _ l1 x10_1 t102 _ ?side1 ?side2 A7.out).mono ?_);(case side1=>exact cX_ (Kd.C_below HR1.out HB.out));(case side2=>exact HC1.out);rintro e w12 ⟨rfl,hb⟩;refine ⟨_,rfl,?_⟩;replace HB:=bS_ HB hb;(try clear hb)))
     go_roundg k1
     case measure=>have:=HK1.out;omega
     case rel=>exact ⟨(x9_1),(wrap64 (x10_1 + 1)),(q1_),(q1_),H', ⟨by have:=HK1.out;omega⟩,⟨q19_⟩⟩
   ·rw [if_neg c5] at H;have c5b0 : decide (x10_1 < a3) = false:=decide_eq_false c5;clear c5;obtain rfl:=Option.some.inj H;go_wp2;go_ret;exact ⟨q4_,q19_⟩
/-! ### spec_agSame: function 114 -/
def spec_agSame.l0 : Nat → List (S58) → List (S58) → Int → Int → Int → Option (Int)
 | 0,_,_,_,_,_=>none
 | k + 1,x0,x1,x3,x9,x10=>if x10 < x3 then ((spec_agGloss.f k x0 x10).bind fun t101=>((spec_agGloss.f k x1 x10).bind fun t102=>(if t101.toList = t102.toList then (spec_agSame.l0 k x0 x1 x3 (wrap64 (x9 + 1)) (wrap64 (x10 + 1))) else (spec_agSame.l0 k x0 x1 x3 x9 (wrap64 (x10 + 1)))))) else (some x9)
def spec_agSame.f (k : Nat) (l0 : List (S58)) (l1 : List (S58)) (a2 : Int) (a3 : Int) : Option (Int):=spec_agSame.l0 k l0 l1 a3 0 a2
set_option maxHeartbeats 8000000 in
set_option maxRecDepth 100000 in
theorem spec_agSame.calls (k : Nat) (A0 : Option Addr) (c0 : Nat) (l0 : List (S58)) (A1 : Option Addr) (c1 : Nat) (l1 : List (S58)) (a2 : Int) (a3 : Int) (r : Int) (w : World) (hr0 : Kd.C k58 w A0 l0.length l0) (hc0 : l0.length ≤ c0) (hr1 : Kd.C k58 w A1 l1.length l1) (hc1 : l1.length ≤ c1) (h : spec_agSame.f k l0 l1 a2 a3 = some r) :
  Calls Try.prog 114 #[.slice A0 l0.length c0,.slice A1 l1.length c1,.int .i64 a2,.int .i64 a3] w fun e w' => e = .returned (.int .i64 r) ∧ Below w.heap.size w w' := by
 have HR0:=Aside0.mk hr0;have HC0:=Aside0.mk hc0;clear hr0 hc0;have HR1:=Aside0.mk hr1;have HC1:=Aside0.mk hc1;clear hr1 hc1;have HB:=Aside0.mk (Below.refl w.heap.size w);have H : (spec_agSame.l0 k l0 l1 a3 0 a2) = some r:=h;clear h;have H' := Aside0.mk H;clear H;go_enter Try.func114,Try.ntmps114
 go_wp2;go_loopg [9,10] k (fun kq v9 v10 w' => ∃ (x9_1 : Int) (x10_1 : Int),v9 = .int .i64 x9_1 ∧ v10 = .int .i64 x10_1 ∧ Aside0 (spec_agSame.l0 kq l0 l1 a3 x9_1 x10_1 = some r) ∧ Aside0 (kq ≤ k) ∧ Aside0 (Below w.heap.size w w'))
 case atStart=>exact ⟨(0),(a2),(q1_),(q1_),H', ⟨Nat.le_refl _⟩,⟨q19_⟩⟩
 case round =>
  clear H';try clear c1
  obtain ⟨x9_1,x10_1,rfl,rfl,HA,HK1,HB⟩:=hrel;cases gk with
  | zero=>exact absurd HA.out (by simp [spec_agSame.l0])
  | succ k1 =>
   have H:=HA.out;clear HA;simp only [spec_agSame.l0] at H;by_cases c5 : x10_1 < a3
   ·rw [if_pos c5] at H;have c5b0 : decide (x10_1 < a3) = true:=decide_eq_true c5;clear c5;replace H:=Option.bind_eq_some_iff.mp H;obtain ⟨t101,A60,H⟩:=H;(try dsimp only at H);have A6:=Aside0.mk A60;clear A60;replace H:=Option.bind_eq_some_iff.mp H;obtain ⟨t102,A70,H⟩:=H;(try dsimp only at H);have A7:=Aside0.mk A70;clear A70;by_cases c8 : t101.toList = t102.toList
    ·rw [if_pos c8] at H;have c8b0 : (t101.toList == t102.toList) = true:=beq_iff_eq.mpr c8;have c8b1 : (t101.toList != t102.toList) = false:=bne_eq_false_iff_eq.mpr c8;clear c8;have H' := Aside0.mk H;clear H;go_wp2_with (first | ((with_reducible refine gate_callee (f:=125) rfl ?_);refine goesL_ (some 19) rfl rfl Try.func125 (by kernel_rfl) rfl #[.slice A0 l0.length c0,.int .i64 x10_1] rfl (q20_) ?_;(with_reducible refine (spec_agGloss.calls k1 _ _ l0 x10_1 t101 _ ?side1 ?side2 A6.out).mono ?_);(case side1=>exact cX_ (Kd.C_below HR0.out HB.out));(case side2=>exact HC0.out);rintro e w9 ⟨rfl,hb⟩;refine ⟨_,rfl,?_⟩;replace HB:=bS_ HB hb;(try clear hb)) | ((with_reducible refine gate_callee (f:=125) rfl ?_);refine goesL_ (some 22) rfl rfl Try.func125 (by kernel_rfl) rfl #[.slice A1 l1.length c1,.int .i64 x10_1] rfl (q20_) ?_;(with_reducible refine (spec_agGloss.calls k1 _ _ l1 x10_1 t102 _ ?side1 ?side2 A7.out).mono ?_);(case side1=>exact cX_ (Kd.C_below HR1.out HB.out));(case side2=>exact HC1.out);rintro e w10 ⟨rfl,hb⟩;refine ⟨_,rfl,?_⟩;replace HB:=bS_ HB hb;(try clear hb)))
     go_roundg k1
     case measure=>have:=HK1.out;omega
     case rel=>exact ⟨(wrap64 (x9_1 + 1)),(wrap64 (x10_1 + 1)),(q1_),(q1_),H', ⟨by have:=HK1.out;omega⟩,⟨q19_⟩⟩
    ·rw [if_neg c8] at H;have c8b0 : (t101.toList == t102.toList) = false:=beq_eq_false_iff_ne.mpr c8;have c8b1 : (t101.toList != t102.toList) = true:=bne_iff_ne.mpr c8;have H' := Aside0.mk H;clear H;go_wp2_with (first | ((with_reducible refine gate_callee (f:=125) rfl ?_);refine goesL_ (some 19) rfl rfl Try.func125 (by kernel_rfl) rfl #[.slice A0 l0.length c0,.int .i64 x10_1] rfl (q20_) ?_;(with_reducible refine (spec_agGloss.calls k1 _ _ l0 x10_1 t101 _ ?side1 ?side2 A6.out).mono ?_);(case side1=>exact cX_ (Kd.C_below HR0.out HB.out));(case side2=>exact HC0.out);rintro e w11 ⟨rfl,hb⟩;refine ⟨_,rfl,?_⟩;replace HB:=bS_ HB hb;(try clear hb)) | ((with_reducible refine gate_callee (f:=125) rfl ?_);refine goesL_ (some 22) rfl rfl Try.func125 (by kernel_rfl) rfl #[.slice A1 l1.length c1,.int .i64 x10_1] rfl (q20_) ?_;(with_reducible refine (spec_agGloss.calls k1 _ _ l1 x10_1 t102 _ ?side1 ?side2 A7.out).mono ?_);(case side1=>exact cX_ (Kd.C_below HR1.out HB.out));(case side2=>exact HC1.out);rintro e w12 ⟨rfl,hb⟩;refine ⟨_,rfl,?_⟩;replace HB:=bS_ HB hb;(try clear hb)))
     go_roundg k1
     case measure=>have:=HK1.out;omega
     case rel=>exact ⟨(x9_1),(wrap64 (x10_1 + 1)),(q1_),(q1_),H', ⟨by have:=HK1.out;omega⟩,⟨q19_⟩⟩
   ·rw [if_neg c5] at H;have c5b0 : decide (x10_1 < a3) = false:=decide_eq_false c5;clear c5;obtain rfl:=Option.some.inj H;go_wp2;go_ret;exact ⟨q4_,q19_⟩
end Go.Proofs.Ytgapcmmhbegdeaa.G
