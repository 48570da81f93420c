-- Written by this session's own program over the kit's print (wip/tools/myprint.py); Lean checks it.
import Derived.Test.YtgapcmmhbegdeaaMBase
import Derived.Test.YtgapcmmhbegdeaaG0
import Derived.Test.YtgapcmmhbegdeaaG2
import Derived.Test.YtgapcmmhbegdeaaG18
import Derived.Test.YtgapcmmhbegdeaaG23
namespace Go.Proofs.Ytgapcmmhbegdeaa.G
open Go.RowKit Go.Proofs.YtgapcmmhbegdeaaW.PrintWords Go.Proofs.YtgapcmmhbegdeaaW.PrintLast Go.Proofs.YtgapcmmhbegdeaaW.PrintMore
attribute [local go_sem] max2_int min2_int max_two min_two max_three min_three max_four min_four str_geq str_gtr str_leq   -- for this text's walks alone
set_option linter.unusedVariables false
set_option linter.unusedSimpArgs false
/-! ### spec_BestAnnotator: function 14 -/
mutual
def spec_BestAnnotator.j0 : Nat → List (List (S58)) → Int → Int → Bool → Option (Int × Int × Bool)
 | 0,_,_,_,_=>none
 | k + 1,x0,x1,x2,x24=>if x24 = true then (some (0,0,false)) else (spec_BestAnnotator.l0 k x0 x1 x2 0 (-1) x0 (x0.length : Int) 0)
def spec_BestAnnotator.l0 : Nat → List (List (S58)) → Int → Int → Int → Int → List (List (S58)) → Int → Int → Option (Int × Int × Bool)
 | 0,_,_,_,_,_,_,_,_=>none
 | k + 1,x0,x1,x2,x9,x10,x25,x26,x27=>if x27 < x26 then (if 0 ≤ x27 then (if x27 < (x25.length : Int) then (spec_BestAnnotator.l1 k x0 x1 x2 x9 x10 x27 (rd_L13 x25 x27) 0 x25 x26 x27 x0 (x0.length : Int) 0) else (none)) else (none)) else (some (x9,x10,true))
def spec_BestAnnotator.l1 : Nat → List (List (S58)) → Int → Int → Int → Int → Int → List (S58) → Int → List (List (S58)) → Int → Int → List (List (S58)) → Int → Int → Option (Int × Int × Bool)
 | 0,_,_,_,_,_,_,_,_,_,_,_,_,_,_=>none
 | k + 1,x0,x1,x2,x9,x10,x11,x12,x13,x25,x26,x27,x32,x33,x34=>if x34 < x33 then (if 0 ≤ x34 then (if x34 < (x32.length : Int) then (if x34 = x11 then (spec_BestAnnotator.l1 k x0 x1 x2 x9 x10 x11 x12 x13 x25 x26 x27 x32 x33 (wrap64 (x34 + 1))) else ((spec_agSame.f k x12 (rd_L13 x32 x34) x1 x2).bind fun t105=>(spec_BestAnnotator.l1 k x0 x1 x2 x9 x10 x11 x12 (wrap64 (x13 + t105)) x25 x26 x27 x32 x33 (wrap64 (x34 + 1))))) else (none)) else (none)) else (if x13 > x10 then (spec_BestAnnotator.l0 k x0 x1 x2 x11 x13 x25 x26 (wrap64 (x27 + 1))) else (spec_BestAnnotator.l0 k x0 x1 x2 x9 x10 x25 x26 (wrap64 (x27 + 1))))
end
def spec_BestAnnotator.f (k : Nat) (l0 : List (List (S58))) (a1 : Int) (a2 : Int) : Option (Int × Int × Bool):=(spec_agTiers.f k l0).bind fun t101=>(if t101 = true then ((spec_agWindow.f a1 a2).bind fun t102=>(spec_BestAnnotator.j0 k l0 a1 a2 (!t102))) else (spec_BestAnnotator.j0 k l0 a1 a2 true))
set_option maxHeartbeats 8000000 in
set_option maxRecDepth 100000 in
theorem spec_BestAnnotator.calls (k : Nat) (A0 : Option Addr) (c0 : Nat) (l0 : List (List (S58))) (a1 : Int) (a2 : Int) (r1 : Int) (r2 : Int) (r3 : Bool) (w : World) (hr0 : Kd.C (Kd.slice 58 k58) w A0 l0.length l0) (hc0 : l0.length ≤ c0) (h : spec_BestAnnotator.f k l0 a1 a2 = some (r1,r2,r3)) :
  Calls Try.prog 14 #[.slice A0 l0.length c0,.int .i64 a1,.int .i64 a2] w fun e w' => e = .returned (.tuple #[.int .i64 r1,.int .i64 r2,.bool r3]) ∧ Below w.heap.size w w' := by
 have HR0:=Aside0.mk hr0;have HC0:=Aside0.mk hc0;clear hr0 hc0;have HB:=Aside0.mk (Below.refl w.heap.size w);have H : ((spec_agTiers.f k l0).bind fun t101=>(if t101 = true then ((spec_agWindow.f a1 a2).bind fun t102=>(spec_BestAnnotator.j0 k l0 a1 a2 (!t102))) else (spec_BestAnnotator.j0 k l0 a1 a2 true))) = some (r1,r2,r3):=h;clear h;have HC4:=Aside0.mk H;clear H;go_enter Try.func14,Try.ntmps14
 go_upto_region 1 with (fail)
 go_cut [24] (fun v24 wc=>∃ (kq : Nat) (x24_3 : Bool),v24 = .bool x24_3 ∧ Aside0 (spec_BestAnnotator.j0 kq l0 a1 a2 x24_3 = some (r1,r2,r3)) ∧ Aside0 (kq ≤ k) ∧ Aside0 (Below w.heap.size w wc))
 case first =>
  have H:=HC4.out;clear HC4;replace H:=Option.bind_eq_some_iff.mp H;obtain ⟨t101,A50,H⟩:=H;replace H : (if t101 = true then ((spec_agWindow.f a1 a2).bind fun t102=>(spec_BestAnnotator.j0 k l0 a1 a2 (!t102))) else (spec_BestAnnotator.j0 k l0 a1 a2 true)) = some (r1,r2,r3):=H;have A5:=Aside0.mk A50;clear A50;by_cases c6 : t101 = true
  ·subst c6;have H1 : ((spec_agWindow.f a1 a2).bind fun t102=>(spec_BestAnnotator.j0 k l0 a1 a2 (!t102))) = some (r1,r2,r3):=by rw [if_pos rfl] at H;exact H
   clear H;have H:=H1;clear H1;replace H:=Option.bind_eq_some_iff.mp H;obtain ⟨t102,A70,H⟩:=H;replace H : (spec_BestAnnotator.j0 k l0 a1 a2 (!t102)) = some (r1,r2,r3):=H;have A7:=Aside0.mk A70;clear A70;have H' := Aside0.mk H;clear H;go_wp2_with (first | ((with_reducible refine gate_callee (f:=112) rfl ?_);refine goesL_ (some 17) rfl rfl Try.func112 (by kernel_rfl) rfl #[.slice A0 l0.length c0] rfl (q10_) ?_;(with_reducible refine (spec_agTiers.calls k _ _ l0 true _ ?side1 ?side2 A5.out).mono ?_);(case side1=>repeat (first | exact (Kd.C_below HR0.out HB.out) | (with_reducible refine Kd.C_alloc ?_ _) | (with_reducible refine Kd.C_drewN ?_ _) | (with_reducible refine Kd.C_drew ?_)));(case side2=>exact HC0.out);rintro e w8 ⟨rfl,hb⟩;refine ⟨_,rfl,?_⟩;have n0_:=Aside0.mk (below_step (q9_) hb);clear HB;have HB:=n0_;clear n0_;(try clear hb);(try clear hb2);(try clear hk);(try clear hi)) | (go_at_call 113;(with_reducible refine (spec_agWindow.calls a1 a2 t102 _ A7.out).mono ?_);rintro e w' ⟨rfl,⟨nd,rfl⟩⟩))
   go_meet
   case rel=>exact ⟨_,(!t102),(q1_),H', ⟨by first | omega | exact Nat.le_refl _⟩,⟨q9_⟩⟩
  ·replace c6:=Bool.eq_false_iff.mpr c6;subst c6;have H1 : (spec_BestAnnotator.j0 k l0 a1 a2 true) = some (r1,r2,r3):=by rw [if_neg (show ¬ (false = true) by decide)] at H;exact H
   clear H;have H:=H1;clear H1;have H' := Aside0.mk H;clear H;go_wp2_with (first | ((with_reducible refine gate_callee (f:=112) rfl ?_);refine goesL_ (some 17) rfl rfl Try.func112 (by kernel_rfl) rfl #[.slice A0 l0.length c0] rfl (q10_) ?_;(with_reducible refine (spec_agTiers.calls k _ _ l0 false _ ?side1 ?side2 A5.out).mono ?_);(case side1=>repeat (first | exact (Kd.C_below HR0.out HB.out) | (with_reducible refine Kd.C_alloc ?_ _) | (with_reducible refine Kd.C_drewN ?_ _) | (with_reducible refine Kd.C_drew ?_)));(case side2=>exact HC0.out);rintro e w9 ⟨rfl,hb⟩;refine ⟨_,rfl,?_⟩;have n0_:=Aside0.mk (below_step (q9_) hb);clear HB;have HB:=n0_;clear n0_;(try clear hb);(try clear hb2);(try clear hk);(try clear hi)))
   go_meet
   case rel=>exact ⟨_,(true),(q1_),H', ⟨by first | omega | exact Nat.le_refl _⟩,⟨q9_⟩⟩
 case rest =>
  clear HC4;try clear c6
  obtain ⟨kq,x24_3,rfl,HA,HJ3,HB⟩:=hcut;cases kq with
  | zero=>exact absurd HA.out (by simp [spec_BestAnnotator.j0])
  | succ kj3 =>
   have H:=HA.out;clear HA;simp only [spec_BestAnnotator.j0] at H;by_cases c10 : x24_3 = true
   ·subst c10;have H1 : (some (0,0,false)) = some (r1,r2,r3):=by rw [if_pos rfl] at H;exact H
    clear H;have H:=H1;clear H1;simp only [Option.some.injEq,Prod.mk.injEq] at H;obtain ⟨rfl,rfl,rfl⟩:=H;go_wp2;go_ret3
    exact ⟨q4_,q9_⟩
   ·replace c10:=Bool.eq_false_iff.mpr c10;subst c10;have H1 : (spec_BestAnnotator.l0 kj3 l0 a1 a2 0 (-1) l0 (l0.length : Int) 0) = some (r1,r2,r3):=by rw [if_neg (show ¬ (false = true) by decide)] at H;exact H
    clear H;have H:=H1;clear H1;have H' := Aside0.mk H;clear H;go_wp2;go_loopg [9,10,27] kj3 (fun kq v9 v10 v27 w' => ∃ (x9_2 : Int) (x10_2 : Int) (x27_2 : Int),v9 = .int .i64 x9_2 ∧ v10 = .int .i64 x10_2 ∧ v27 = .int .i64 x27_2 ∧ Aside0 (spec_BestAnnotator.l0 kq l0 a1 a2 x9_2 x10_2 l0 (l0.length : Int) x27_2 = some (r1,r2,r3)) ∧ Aside0 (kq ≤ kj3) ∧ Aside0 (Below w.heap.size w w'))
    case atStart=>exact ⟨(0),((-1)),(0),(q1_),(q1_),(q1_),H', ⟨Nat.le_refl _⟩,⟨q9_⟩⟩
    case round =>
     clear H';try clear c6
     try clear c10
     obtain ⟨x9_2,x10_2,x27_2,rfl,rfl,rfl,HA,HK2,HB⟩:=hrel;cases gk with
     | zero=>exact absurd HA.out (by simp [spec_BestAnnotator.l0])
     | succ k2 =>
      have H:=HA.out;clear HA;simp only [spec_BestAnnotator.l0] at H;by_cases c11 : x27_2 < (l0.length : Int)
      ·rw [if_pos c11] at H;have c11b0 : decide (x27_2 < (l0.length : Int)) = true:=decide_eq_true c11;clear c11;by_cases c12 : 0 ≤ x27_2
       ·rw [if_pos c12] at H;have c12b0 : decide (0 ≤ x27_2) = true:=decide_eq_true c12;clear c12;by_cases c13 : x27_2 < (l0.length : Int)
        ·rw [if_pos c13] at H;have c13b0 : decide (x27_2 < (l0.length : Int)) = true:=decide_eq_true c13;clear c13;have H' := Aside0.mk H;clear H;have p103 : 0 ≤ (x27_2 : Int):=of_decide_eq_true (q2_);have q103 : x27_2 < (l0.length : Int):=of_decide_eq_true (q2_);obtain ⟨ad103,A103_0,c103_0,e103,hx103_0,hl103_0,hi103_0⟩:=at_L13 HR0.out x27_2 p103 q103;cases e103;replace hx103_0:=(HB.out.cell (World.block_lt_of_cell? w _ hx103_0)).trans hx103_0;have HR103_0:=Aside0.mk hi103_0;have HC103_0:=Aside0.mk hl103_0;clear hi103_0 hl103_0;replace p103:=eq_true p103;replace q103:=eq_true q103;go_wp2;go_loopg [13,34] k2 (fun kq v13 v34 w' => ∃ (x13_3 : Int) (x34_3 : Int),v13 = .int .i64 x13_3 ∧ v34 = .int .i64 x34_3 ∧ Aside0 (spec_BestAnnotator.l1 kq l0 a1 a2 x9_2 x10_2 x27_2 (rd_L13 l0 x27_2) x13_3 l0 (l0.length : Int) x27_2 l0 (l0.length : Int) x34_3 = some (r1,r2,r3)) ∧ Aside0 (kq ≤ k2) ∧ Aside0 (Below w.heap.size w w'))
         case atStart=>exact ⟨(0),(0),(q1_),(q1_),H', ⟨Nat.le_refl _⟩,⟨q9_⟩⟩
         case round =>
          clear H';try clear c6
          try clear c10
          try clear c11
          try clear c11b0
          try clear c12
          try clear c12b0
          try clear c13
          try clear c13b0
          try clear hx103_0
          try clear p103
          try clear q103
          obtain ⟨x13_3,x34_3,rfl,rfl,HA,HK3,HB⟩:=hrel;cases gk with
          | zero=>exact absurd HA.out (by simp [spec_BestAnnotator.l1])
          | succ k3 =>
           have H:=HA.out;clear HA;simp only [spec_BestAnnotator.l1] at H;by_cases c14 : x34_3 < (l0.length : Int)
           ·rw [if_pos c14] at H;have c14b0 : decide (x34_3 < (l0.length : Int)) = true:=decide_eq_true c14;clear c14;by_cases c15 : 0 ≤ x34_3
            ·rw [if_pos c15] at H;have c15b0 : decide (0 ≤ x34_3) = true:=decide_eq_true c15;clear c15;by_cases c16 : x34_3 < (l0.length : Int)
             ·rw [if_pos c16] at H;have c16b0 : decide (x34_3 < (l0.length : Int)) = true:=decide_eq_true c16;clear c16;by_cases c17 : x34_3 = x27_2
              ·rw [if_pos c17] at H;have c17b0 : (x34_3 == x27_2) = true:=beq_iff_eq.mpr c17;have c17b1 : (x34_3 != x27_2) = false:=bne_eq_false_iff_eq.mpr c17;clear c17;have H' := Aside0.mk H;clear H;have p104 : 0 ≤ (x34_3 : Int):=of_decide_eq_true (q2_);have q104 : x34_3 < (l0.length : Int):=of_decide_eq_true (q2_);obtain ⟨ad104,A104_0,c104_0,e104,hx104_0,hl104_0,hi104_0⟩:=at_L13 HR0.out x34_3 p104 q104;obtain rfl : ad103 = ad104:=(by injection e104);replace hx104_0:=(HB.out.cell (World.block_lt_of_cell? w _ hx104_0)).trans hx104_0;have HR104_0:=Aside0.mk hi104_0;have HC104_0:=Aside0.mk hl104_0;clear hi104_0 hl104_0;replace p104:=eq_true p104;replace q104:=eq_true q104;go_wp2;go_roundg k3
               case measure=>have:=HJ3.out;have:=HK2.out;have:=HK3.out;omega
               case rel=>exact ⟨(x13_3),(wrap64 (x34_3 + 1)),(q1_),(q1_),H', ⟨by have:=HJ3.out;have:=HK2.out;have:=HK3.out;omega⟩,⟨q9_⟩⟩
              ·rw [if_neg c17] at H;have c17b0 : (x34_3 == x27_2) = false:=beq_eq_false_iff_ne.mpr c17;have c17b1 : (x34_3 != x27_2) = true:=bne_iff_ne.mpr c17;replace H:=Option.bind_eq_some_iff.mp H;obtain ⟨t105,A180,H⟩:=H;replace H : (spec_BestAnnotator.l1 k3 l0 a1 a2 x9_2 x10_2 x27_2 (rd_L13 l0 x27_2) (wrap64 (x13_3 + t105)) l0 (l0.length : Int) x27_2 l0 (l0.length : Int) (wrap64 (x34_3 + 1))) = some (r1,r2,r3):=H;have A18:=Aside0.mk A180;clear A180;have H' := Aside0.mk H;clear H;have p104 : 0 ≤ (x34_3 : Int):=of_decide_eq_true (q2_);have q104 : x34_3 < (l0.length : Int):=of_decide_eq_true (q2_);obtain ⟨ad104,A104_0,c104_0,e104,hx104_0,hl104_0,hi104_0⟩:=at_L13 HR0.out x34_3 p104 q104;obtain rfl : ad103 = ad104:=(by injection e104);replace hx104_0:=(HB.out.cell (World.block_lt_of_cell? w _ hx104_0)).trans hx104_0;have HR104_0:=Aside0.mk hi104_0;have HC104_0:=Aside0.mk hl104_0;clear hi104_0 hl104_0;replace p104:=eq_true p104;replace q104:=eq_true q104;go_wp2_with (first | ((with_reducible refine gate_callee (f:=114) rfl ?_);refine goesL_ (some 47) rfl rfl Try.func114 (by kernel_rfl) rfl #[.slice A103_0 (rd_L13 l0 x27_2).length c103_0,.slice A104_0 (rd_L13 l0 x34_3).length c104_0,.int .i64 a1,.int .i64 a2] rfl (q10_) ?_;(with_reducible refine (spec_agSame.calls k3 _ _ (rd_L13 l0 x27_2) _ _ (rd_L13 l0 x34_3) a1 a2 t105 _ ?side1 ?side2 ?side3 ?side4 A18.out).mono ?_);(case side1=>repeat (first | exact (Kd.C_below HR103_0.out HB.out) | (with_reducible refine Kd.C_alloc ?_ _) | (with_reducible refine Kd.C_drewN ?_ _) | (with_reducible refine Kd.C_drew ?_)));(case side2=>exact HC103_0.out);(case side3=>repeat (first | exact (Kd.C_below HR104_0.out HB.out) | (with_reducible refine Kd.C_alloc ?_ _) | (with_reducible refine Kd.C_drewN ?_ _) | (with_reducible refine Kd.C_drew ?_)));(case side4=>exact HC104_0.out);rintro e w19 ⟨rfl,hb⟩;refine ⟨_,rfl,?_⟩;have n0_:=Aside0.mk (below_step (q9_) hb);clear HB;have HB:=n0_;clear n0_;(try clear hb);(try clear hb2);(try clear hk);(try clear hi)))
               go_roundg k3
               case measure=>have:=HJ3.out;have:=HK2.out;have:=HK3.out;omega
               case rel=>exact ⟨(wrap64 (x13_3 + t105)),(wrap64 (x34_3 + 1)),(q1_),(q1_),H', ⟨by have:=HJ3.out;have:=HK2.out;have:=HK3.out;omega⟩,⟨q9_⟩⟩
             ·rw [if_neg c16] at H;exact absurd H (by simp)
            ·rw [if_neg c15] at H;exact absurd H (by simp)
           ·rw [if_neg c14] at H;have c14b0 : decide (x34_3 < (l0.length : Int)) = false:=decide_eq_false c14;clear c14;by_cases c20 : x13_3 > x10_2
            ·rw [if_pos c20] at H;have c20b0 : decide (x10_2 < x13_3) = true:=decide_eq_true c20;clear c20;have H' := Aside0.mk H;clear H;go_wp2;go_roundg k3
             case measure=>have:=HJ3.out;have:=HK2.out;have:=HK3.out;omega
             case rel=>exact ⟨(x27_2),(x13_3),(wrap64 (x27_2 + 1)),(q1_),(q1_),(q1_),H', ⟨by have:=HJ3.out;have:=HK2.out;have:=HK3.out;omega⟩,⟨q9_⟩⟩
            ·rw [if_neg c20] at H;have c20b0 : decide (x10_2 < x13_3) = false:=decide_eq_false c20;clear c20;have H' := Aside0.mk H;clear H;go_wp2;go_roundg k3
             case measure=>have:=HJ3.out;have:=HK2.out;have:=HK3.out;omega
             case rel=>exact ⟨(x9_2),(x10_2),(wrap64 (x27_2 + 1)),(q1_),(q1_),(q1_),H', ⟨by have:=HJ3.out;have:=HK2.out;have:=HK3.out;omega⟩,⟨q9_⟩⟩
        ·rw [if_neg c13] at H;exact absurd H (by simp)
       ·rw [if_neg c12] at H;exact absurd H (by simp)
      ·rw [if_neg c11] at H;have c11b0 : decide (x27_2 < (l0.length : Int)) = false:=decide_eq_false c11;clear c11;simp only [Option.some.injEq,Prod.mk.injEq] at H;obtain ⟨rfl,rfl,rfl⟩:=H;go_wp2;go_ret3
       exact ⟨q4_,q9_⟩
/-! ### impl_BestAnnotator: function 16 -/
mutual
def impl_BestAnnotator.j0 : Nat → List (List (S58)) → Int → Int → Bool → Option (Int × Int × Bool)
 | 0,_,_,_,_=>none
 | k + 1,x0,x1,x2,x24=>if x24 = true then (some (0,0,false)) else (impl_BestAnnotator.l0 k x0 x1 x2 0 (-1) x0 (x0.length : Int) 0)
def impl_BestAnnotator.l0 : Nat → List (List (S58)) → Int → Int → Int → Int → List (List (S58)) → Int → Int → Option (Int × Int × Bool)
 | 0,_,_,_,_,_,_,_,_=>none
 | k + 1,x0,x1,x2,x9,x10,x25,x26,x27=>if x27 < x26 then (if 0 ≤ x27 then (if x27 < (x25.length : Int) then (impl_BestAnnotator.l1 k x0 x1 x2 x9 x10 x27 (rd_L13 x25 x27) 0 x25 x26 x27 x0 (x0.length : Int) 0) else (none)) else (none)) else (some (x9,x10,true))
def impl_BestAnnotator.l1 : Nat → List (List (S58)) → Int → Int → Int → Int → Int → List (S58) → Int → List (List (S58)) → Int → Int → List (List (S58)) → Int → Int → Option (Int × Int × Bool)
 | 0,_,_,_,_,_,_,_,_,_,_,_,_,_,_=>none
 | k + 1,x0,x1,x2,x9,x10,x11,x12,x13,x25,x26,x27,x32,x33,x34=>if x34 < x33 then (if 0 ≤ x34 then (if x34 < (x32.length : Int) then (if x34 = x11 then (impl_BestAnnotator.l1 k x0 x1 x2 x9 x10 x11 x12 x13 x25 x26 x27 x32 x33 (wrap64 (x34 + 1))) else ((impl_sameFrames.f k x12 (rd_L13 x32 x34) x1 x2).bind fun t105=>(impl_BestAnnotator.l1 k x0 x1 x2 x9 x10 x11 x12 (wrap64 (x13 + t105)) x25 x26 x27 x32 x33 (wrap64 (x34 + 1))))) else (none)) else (none)) else (if x13 > x10 then (impl_BestAnnotator.l0 k x0 x1 x2 x11 x13 x25 x26 (wrap64 (x27 + 1))) else (impl_BestAnnotator.l0 k x0 x1 x2 x9 x10 x25 x26 (wrap64 (x27 + 1))))
end
def impl_BestAnnotator.f (k : Nat) (l0 : List (List (S58))) (a1 : Int) (a2 : Int) : Option (Int × Int × Bool):=(impl_areTiers.f k l0).bind fun t101=>(if t101 = true then ((impl_isWindow.f a1 a2).bind fun t102=>(impl_BestAnnotator.j0 k l0 a1 a2 (!t102))) else (impl_BestAnnotator.j0 k l0 a1 a2 true))
set_option maxHeartbeats 8000000 in
set_option maxRecDepth 100000 in
theorem impl_BestAnnotator.calls (k : Nat) (A0 : Option Addr) (c0 : Nat) (l0 : List (List (S58))) (a1 : Int) (a2 : Int) (r1 : Int) (r2 : Int) (r3 : Bool) (w : World) (hr0 : Kd.C (Kd.slice 58 k58) w A0 l0.length l0) (hc0 : l0.length ≤ c0) (h : impl_BestAnnotator.f k l0 a1 a2 = some (r1,r2,r3)) :
  Calls Try.prog 16 #[.slice A0 l0.length c0,.int .i64 a1,.int .i64 a2] w fun e w' => e = .returned (.tuple #[.int .i64 r1,.int .i64 r2,.bool r3]) ∧ Below w.heap.size w w' := by
 have HR0:=Aside0.mk hr0;have HC0:=Aside0.mk hc0;clear hr0 hc0;have HB:=Aside0.mk (Below.refl w.heap.size w);have H : ((impl_areTiers.f k l0).bind fun t101=>(if t101 = true then ((impl_isWindow.f a1 a2).bind fun t102=>(impl_BestAnnotator.j0 k l0 a1 a2 (!t102))) else (impl_BestAnnotator.j0 k l0 a1 a2 true))) = some (r1,r2,r3):=h;clear h;have HC4:=Aside0.mk H;clear H;go_enter Try.func16,Try.ntmps16
 go_upto_region 1 with (fail)
 go_cut [24] (fun v24 wc=>∃ (kq : Nat) (x24_3 : Bool),v24 = .bool x24_3 ∧ Aside0 (impl_BestAnnotator.j0 kq l0 a1 a2 x24_3 = some (r1,r2,r3)) ∧ Aside0 (kq ≤ k) ∧ Aside0 (Below w.heap.size w wc))
 case first =>
  have H:=HC4.out;clear HC4;replace H:=Option.bind_eq_some_iff.mp H;obtain ⟨t101,A50,H⟩:=H;replace H : (if t101 = true then ((impl_isWindow.f a1 a2).bind fun t102=>(impl_BestAnnotator.j0 k l0 a1 a2 (!t102))) else (impl_BestAnnotator.j0 k l0 a1 a2 true)) = some (r1,r2,r3):=H;have A5:=Aside0.mk A50;clear A50;by_cases c6 : t101 = true
  ·subst c6;have H1 : ((impl_isWindow.f a1 a2).bind fun t102=>(impl_BestAnnotator.j0 k l0 a1 a2 (!t102))) = some (r1,r2,r3):=by rw [if_pos rfl] at H;exact H
   clear H;have H:=H1;clear H1;replace H:=Option.bind_eq_some_iff.mp H;obtain ⟨t102,A70,H⟩:=H;replace H : (impl_BestAnnotator.j0 k l0 a1 a2 (!t102)) = some (r1,r2,r3):=H;have A7:=Aside0.mk A70;clear A70;have H' := Aside0.mk H;clear H;go_wp2_with (first | ((with_reducible refine gate_callee (f:=115) rfl ?_);refine goesL_ (some 17) rfl rfl Try.func115 (by kernel_rfl) rfl #[.slice A0 l0.length c0] rfl (q10_) ?_;(with_reducible refine (impl_areTiers.calls k _ _ l0 true _ ?side1 ?side2 A5.out).mono ?_);(case side1=>repeat (first | exact (Kd.C_below HR0.out HB.out) | (with_reducible refine Kd.C_alloc ?_ _) | (with_reducible refine Kd.C_drewN ?_ _) | (with_reducible refine Kd.C_drew ?_)));(case side2=>exact HC0.out);rintro e w8 ⟨rfl,hb⟩;refine ⟨_,rfl,?_⟩;have n0_:=Aside0.mk (below_step (q9_) hb);clear HB;have HB:=n0_;clear n0_;(try clear hb);(try clear hb2);(try clear hk);(try clear hi)) | (go_at_call 116;(with_reducible refine (impl_isWindow.calls a1 a2 t102 _ A7.out).mono ?_);rintro e w' ⟨rfl,⟨nd,rfl⟩⟩))
   go_meet
   case rel=>exact ⟨_,(!t102),(q1_),H', ⟨by first | omega | exact Nat.le_refl _⟩,⟨q9_⟩⟩
  ·replace c6:=Bool.eq_false_iff.mpr c6;subst c6;have H1 : (impl_BestAnnotator.j0 k l0 a1 a2 true) = some (r1,r2,r3):=by rw [if_neg (show ¬ (false = true) by decide)] at H;exact H
   clear H;have H:=H1;clear H1;have H' := Aside0.mk H;clear H;go_wp2_with (first | ((with_reducible refine gate_callee (f:=115) rfl ?_);refine goesL_ (some 17) rfl rfl Try.func115 (by kernel_rfl) rfl #[.slice A0 l0.length c0] rfl (q10_) ?_;(with_reducible refine (impl_areTiers.calls k _ _ l0 false _ ?side1 ?side2 A5.out).mono ?_);(case side1=>repeat (first | exact (Kd.C_below HR0.out HB.out) | (with_reducible refine Kd.C_alloc ?_ _) | (with_reducible refine Kd.C_drewN ?_ _) | (with_reducible refine Kd.C_drew ?_)));(case side2=>exact HC0.out);rintro e w9 ⟨rfl,hb⟩;refine ⟨_,rfl,?_⟩;have n0_:=Aside0.mk (below_step (q9_) hb);clear HB;have HB:=n0_;clear n0_;(try clear hb);(try clear hb2);(try clear hk);(try clear hi)))
   go_meet
   case rel=>exact ⟨_,(true),(q1_),H', ⟨by first | omega | exact Nat.le_refl _⟩,⟨q9_⟩⟩
 case rest =>
  clear HC4;try clear c6
  obtain ⟨kq,x24_3,rfl,HA,HJ3,HB⟩:=hcut;cases kq with
  | zero=>exact absurd HA.out (by simp [impl_BestAnnotator.j0])
  | succ kj3 =>
   have H:=HA.out;clear HA;simp only [impl_BestAnnotator.j0] at H;by_cases c10 : x24_3 = true
   ·subst c10;have H1 : (some (0,0,false)) = some (r1,r2,r3):=by rw [if_pos rfl] at H;exact H
    clear H;have H:=H1;clear H1;simp only [Option.some.injEq,Prod.mk.injEq] at H;obtain ⟨rfl,rfl,rfl⟩:=H;go_wp2;go_ret3
    exact ⟨q4_,q9_⟩
   ·replace c10:=Bool.eq_false_iff.mpr c10;subst c10;have H1 : (impl_BestAnnotator.l0 kj3 l0 a1 a2 0 (-1) l0 (l0.length : Int) 0) = some (r1,r2,r3):=by rw [if_neg (show ¬ (false = true) by decide)] at H;exact H
    clear H;have H:=H1;clear H1;have H' := Aside0.mk H;clear H;go_wp2;go_loopg [9,10,27] kj3 (fun kq v9 v10 v27 w' => ∃ (x9_2 : Int) (x10_2 : Int) (x27_2 : Int),v9 = .int .i64 x9_2 ∧ v10 = .int .i64 x10_2 ∧ v27 = .int .i64 x27_2 ∧ Aside0 (impl_BestAnnotator.l0 kq l0 a1 a2 x9_2 x10_2 l0 (l0.length : Int) x27_2 = some (r1,r2,r3)) ∧ Aside0 (kq ≤ kj3) ∧ Aside0 (Below w.heap.size w w'))
    case atStart=>exact ⟨(0),((-1)),(0),(q1_),(q1_),(q1_),H', ⟨Nat.le_refl _⟩,⟨q9_⟩⟩
    case round =>
     clear H';try clear c6
     try clear c10
     obtain ⟨x9_2,x10_2,x27_2,rfl,rfl,rfl,HA,HK2,HB⟩:=hrel;cases gk with
     | zero=>exact absurd HA.out (by simp [impl_BestAnnotator.l0])
     | succ k2 =>
      have H:=HA.out;clear HA;simp only [impl_BestAnnotator.l0] at H;by_cases c11 : x27_2 < (l0.length : Int)
      ·rw [if_pos c11] at H;have c11b0 : decide (x27_2 < (l0.length : Int)) = true:=decide_eq_true c11;clear c11;by_cases c12 : 0 ≤ x27_2
       ·rw [if_pos c12] at H;have c12b0 : decide (0 ≤ x27_2) = true:=decide_eq_true c12;clear c12;by_cases c13 : x27_2 < (l0.length : Int)
        ·rw [if_pos c13] at H;have c13b0 : decide (x27_2 < (l0.length : Int)) = true:=decide_eq_true c13;clear c13;have H' := Aside0.mk H;clear H;have p103 : 0 ≤ (x27_2 : Int):=of_decide_eq_true (q2_);have q103 : x27_2 < (l0.length : Int):=of_decide_eq_true (q2_);obtain ⟨ad103,A103_0,c103_0,e103,hx103_0,hl103_0,hi103_0⟩:=at_L13 HR0.out x27_2 p103 q103;cases e103;replace hx103_0:=(HB.out.cell (World.block_lt_of_cell? w _ hx103_0)).trans hx103_0;have HR103_0:=Aside0.mk hi103_0;have HC103_0:=Aside0.mk hl103_0;clear hi103_0 hl103_0;replace p103:=eq_true p103;replace q103:=eq_true q103;go_wp2;go_loopg [13,34] k2 (fun kq v13 v34 w' => ∃ (x13_3 : Int) (x34_3 : Int),v13 = .int .i64 x13_3 ∧ v34 = .int .i64 x34_3 ∧ Aside0 (impl_BestAnnotator.l1 kq l0 a1 a2 x9_2 x10_2 x27_2 (rd_L13 l0 x27_2) x13_3 l0 (l0.length : Int) x27_2 l0 (l0.length : Int) x34_3 = some (r1,r2,r3)) ∧ Aside0 (kq ≤ k2) ∧ Aside0 (Below w.heap.size w w'))
         case atStart=>exact ⟨(0),(0),(q1_),(q1_),H', ⟨Nat.le_refl _⟩,⟨q9_⟩⟩
         case round =>
          clear H';try clear c6
          try clear c10
          try clear c11
          try clear c11b0
          try clear c12
          try clear c12b0
          try clear c13
          try clear c13b0
          try clear hx103_0
          try clear p103
          try clear q103
          obtain ⟨x13_3,x34_3,rfl,rfl,HA,HK3,HB⟩:=hrel;cases gk with
          | zero=>exact absurd HA.out (by simp [impl_BestAnnotator.l1])
          | succ k3 =>
           have H:=HA.out;clear HA;simp only [impl_BestAnnotator.l1] at H;by_cases c14 : x34_3 < (l0.length : Int)
           ·rw [if_pos c14] at H;have c14b0 : decide (x34_3 < (l0.length : Int)) = true:=decide_eq_true c14;clear c14;by_cases c15 : 0 ≤ x34_3
            ·rw [if_pos c15] at H;have c15b0 : decide (0 ≤ x34_3) = true:=decide_eq_true c15;clear c15;by_cases c16 : x34_3 < (l0.length : Int)
             ·rw [if_pos c16] at H;have c16b0 : decide (x34_3 < (l0.length : Int)) = true:=decide_eq_true c16;clear c16;by_cases c17 : x34_3 = x27_2
              ·rw [if_pos c17] at H;have c17b0 : (x34_3 == x27_2) = true:=beq_iff_eq.mpr c17;have c17b1 : (x34_3 != x27_2) = false:=bne_eq_false_iff_eq.mpr c17;clear c17;have H' := Aside0.mk H;clear H;have p104 : 0 ≤ (x34_3 : Int):=of_decide_eq_true (q2_);have q104 : x34_3 < (l0.length : Int):=of_decide_eq_true (q2_);obtain ⟨ad104,A104_0,c104_0,e104,hx104_0,hl104_0,hi104_0⟩:=at_L13 HR0.out x34_3 p104 q104;obtain rfl : ad103 = ad104:=(by injection e104);replace hx104_0:=(HB.out.cell (World.block_lt_of_cell? w _ hx104_0)).trans hx104_0;have HR104_0:=Aside0.mk hi104_0;have HC104_0:=Aside0.mk hl104_0;clear hi104_0 hl104_0;replace p104:=eq_true p104;replace q104:=eq_true q104;go_wp2;go_roundg k3
               case measure=>have:=HJ3.out;have:=HK2.out;have:=HK3.out;omega
               case rel=>exact ⟨(x13_3),(wrap64 (x34_3 + 1)),(q1_),(q1_),H', ⟨by have:=HJ3.out;have:=HK2.out;have:=HK3.out;omega⟩,⟨q9_⟩⟩
              ·rw [if_neg c17] at H;have c17b0 : (x34_3 == x27_2) = false:=beq_eq_false_iff_ne.mpr c17;have c17b1 : (x34_3 != x27_2) = true:=bne_iff_ne.mpr c17;replace H:=Option.bind_eq_some_iff.mp H;obtain ⟨t105,A180,H⟩:=H;replace H : (impl_BestAnnotator.l1 k3 l0 a1 a2 x9_2 x10_2 x27_2 (rd_L13 l0 x27_2) (wrap64 (x13_3 + t105)) l0 (l0.length : Int) x27_2 l0 (l0.length : Int) (wrap64 (x34_3 + 1))) = some (r1,r2,r3):=H;have A18:=Aside0.mk A180;clear A180;have H' := Aside0.mk H;clear H;have p104 : 0 ≤ (x34_3 : Int):=of_decide_eq_true (q2_);have q104 : x34_3 < (l0.length : Int):=of_decide_eq_true (q2_);obtain ⟨ad104,A104_0,c104_0,e104,hx104_0,hl104_0,hi104_0⟩:=at_L13 HR0.out x34_3 p104 q104;obtain rfl : ad103 = ad104:=(by injection e104);replace hx104_0:=(HB.out.cell (World.block_lt_of_cell? w _ hx104_0)).trans hx104_0;have HR104_0:=Aside0.mk hi104_0;have HC104_0:=Aside0.mk hl104_0;clear hi104_0 hl104_0;replace p104:=eq_true p104;replace q104:=eq_true q104;go_wp2_with (first | ((with_reducible refine gate_callee (f:=117) rfl ?_);refine goesL_ (some 47) rfl rfl Try.func117 (by kernel_rfl) rfl #[.slice A103_0 (rd_L13 l0 x27_2).length c103_0,.slice A104_0 (rd_L13 l0 x34_3).length c104_0,.int .i64 a1,.int .i64 a2] rfl (q10_) ?_;(with_reducible refine (impl_sameFrames.calls k3 _ _ (rd_L13 l0 x27_2) _ _ (rd_L13 l0 x34_3) a1 a2 t105 _ ?side1 ?side2 ?side3 ?side4 A18.out).mono ?_);(case side1=>repeat (first | exact (Kd.C_below HR103_0.out HB.out) | (with_reducible refine Kd.C_alloc ?_ _) | (with_reducible refine Kd.C_drewN ?_ _) | (with_reducible refine Kd.C_drew ?_)));(case side2=>exact HC103_0.out);(case side3=>repeat (first | exact (Kd.C_below HR104_0.out HB.out) | (with_reducible refine Kd.C_alloc ?_ _) | (with_reducible refine Kd.C_drewN ?_ _) | (with_reducible refine Kd.C_drew ?_)));(case side4=>exact HC104_0.out);rintro e w19 ⟨rfl,hb⟩;refine ⟨_,rfl,?_⟩;have n0_:=Aside0.mk (below_step (q9_) hb);clear HB;have HB:=n0_;clear n0_;(try clear hb);(try clear hb2);(try clear hk);(try clear hi)))
               go_roundg k3
               case measure=>have:=HJ3.out;have:=HK2.out;have:=HK3.out;omega
               case rel=>exact ⟨(wrap64 (x13_3 + t105)),(wrap64 (x34_3 + 1)),(q1_),(q1_),H', ⟨by have:=HJ3.out;have:=HK2.out;have:=HK3.out;omega⟩,⟨q9_⟩⟩
             ·rw [if_neg c16] at H;exact absurd H (by simp)
            ·rw [if_neg c15] at H;exact absurd H (by simp)
           ·rw [if_neg c14] at H;have c14b0 : decide (x34_3 < (l0.length : Int)) = false:=decide_eq_false c14;clear c14;by_cases c20 : x13_3 > x10_2
            ·rw [if_pos c20] at H;have c20b0 : decide (x10_2 < x13_3) = true:=decide_eq_true c20;clear c20;have H' := Aside0.mk H;clear H;go_wp2;go_roundg k3
             case measure=>have:=HJ3.out;have:=HK2.out;have:=HK3.out;omega
             case rel=>exact ⟨(x27_2),(x13_3),(wrap64 (x27_2 + 1)),(q1_),(q1_),(q1_),H', ⟨by have:=HJ3.out;have:=HK2.out;have:=HK3.out;omega⟩,⟨q9_⟩⟩
            ·rw [if_neg c20] at H;have c20b0 : decide (x10_2 < x13_3) = false:=decide_eq_false c20;clear c20;have H' := Aside0.mk H;clear H;go_wp2;go_roundg k3
             case measure=>have:=HJ3.out;have:=HK2.out;have:=HK3.out;omega
             case rel=>exact ⟨(x9_2),(x10_2),(wrap64 (x27_2 + 1)),(q1_),(q1_),(q1_),H', ⟨by have:=HJ3.out;have:=HK2.out;have:=HK3.out;omega⟩,⟨q9_⟩⟩
        ·rw [if_neg c13] at H;exact absurd H (by simp)
       ·rw [if_neg c12] at H;exact absurd H (by simp)
      ·rw [if_neg c11] at H;have c11b0 : decide (x27_2 < (l0.length : Int)) = false:=decide_eq_false c11;clear c11;simp only [Option.some.injEq,Prod.mk.injEq] at H;obtain ⟨rfl,rfl,rfl⟩:=H;go_wp2;go_ret3
       exact ⟨q4_,q9_⟩
end Go.Proofs.Ytgapcmmhbegdeaa.G
