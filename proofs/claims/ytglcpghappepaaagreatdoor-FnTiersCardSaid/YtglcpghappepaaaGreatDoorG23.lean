-- Written by this session's own program over the kit's print (wip/tools/myprint.py); Lean checks it.
import Derived.Test.YtglcpghappepaaaGreatDoorMBase
import Derived.Test.YtglcpghappepaaaGreatDoorG0
import Derived.Test.YtglcpghappepaaaGreatDoorG2
import Derived.Test.YtglcpghappepaaaGreatDoorG4
import Derived.Test.YtglcpghappepaaaGreatDoorG25
namespace Go.Proofs.YtglcpghappepaaaGreatDoor.G
open Go.RowKit Go.Proofs.YtglcpghappepaaaGreatDoorW.PrintWords Go.Proofs.YtglcpghappepaaaGreatDoorW.PrintLast Go.Proofs.YtglcpghappepaaaGreatDoorW.PrintMore
attribute [local go_sem] max2_int min2_int max_two min_two max_three min_three max_four min_four str_geq str_gtr str_leq   -- for this text's walks alone
set_option linter.unusedVariables false
set_option linter.unusedSimpArgs false
attribute [local go_sem high] eqA25
/-! ### yAd: function 20 -/
def yAd.l0 : Nat → List (S25) → List (S25) → Int → Int → Option (Bool)
 | 0,_,_,_,_=>none
 | k + 1,x0,x1,x12,x13=>if x13 < x12 then (if 0 ≤ x13 then (if x13 < (x0.length : Int) then (if x13 < (x1.length : Int) then (if (!(((rd_T25 x0 x13).f0) == ((rd_T25 x1 x13).f0)) || (!(((rd_T25 x0 x13).f1) == ((rd_T25 x1 x13).f1)) || (!((((rd_T25 x0 x13).f2).toList) == (((rd_T25 x1 x13).f2).toList))))) = true then (some false) else (yAd.l0 k x0 x1 x12 (wrap64 (x13 + 1)))) else (none)) else (none)) else (none)) else (some true)
def yAd.f (k : Nat) (l0 : List (S25)) (l1 : List (S25)) : Option (Bool):=if (l0.length : Int) = (l1.length : Int) then (yAd.l0 k l0 l1 (l0.length : Int) 0) else (some false)
set_option maxHeartbeats 8000000 in
set_option maxRecDepth 100000 in
theorem yAd.calls (k : Nat) (A0 : Option Addr) (c0 : Nat) (l0 : List (S25)) (A1 : Option Addr) (c1 : Nat) (l1 : List (S25)) (r : Bool) (w : World) (hr0 : Kd.C k25 w A0 l0.length l0) (hc0 : l0.length ≤ c0) (hr1 : Kd.C k25 w A1 l1.length l1) (hc1 : l1.length ≤ c1) (h : yAd.f k l0 l1 = some r) :
  Calls Tryz.prog 20 #[.slice A0 l0.length c0,.slice A1 l1.length c1] w fun e w' => e = .returned (.bool r) ∧ Drawn0 w w' := by
 have hu25:=Tryz.underlying25;have HR0:=Aside0.mk hr0;have HC0:=Aside0.mk hc0;clear hr0 hc0;have HR1:=Aside0.mk hr1;have HC1:=Aside0.mk hc1;clear hr1 hc1;have H : (if (l0.length : Int) = (l1.length : Int) then (yAd.l0 k l0 l1 (l0.length : Int) 0) else (some false)) = some r:=h;clear h;by_cases c3 : (l0.length : Int) = (l1.length : Int)
 ·rw [if_pos c3] at H;have c3b0 : ((l0.length : Int) == (l1.length : Int)) = true:=beq_iff_eq.mpr c3;have c3b1 : ((l0.length : Int) != (l1.length : Int)) = false:=bne_eq_false_iff_eq.mpr c3;have c3b2 : (l0.length == l1.length) = true:=by first | simpa using c3 | (simp at c3 ⊢;omega)
  clear c3;have H' := Aside0.mk H;clear H;go_enter Tryz.func20,Tryz.ntmps20
  go_wp2;repeat (go_quiet (fail);try go_wp2)
  go_loopg [13] k (fun kq v13 w' => ∃ (x13_1 : Int),v13 = .int .i64 x13_1 ∧ Aside0 (yAd.l0 kq l0 l1 (l0.length : Int) x13_1 = some r) ∧ Aside0 (kq ≤ k) ∧ Drawn0 w w')
  case atStart=>exact ⟨(0),(q3_),H', ⟨Nat.le_refl _⟩,q5_⟩
  case round =>
   clear H';try clear c1
   try clear c3
   try clear c3b0
   try clear c3b1
   try clear c3b2
   obtain ⟨x13_1,rfl,HA,HK1,⟨m1,rfl⟩⟩:=hrel;cases gk with
   | zero=>exact absurd HA.out (by simp [yAd.l0])
   | succ k1 =>
    have H:=HA.out;clear HA;simp only [yAd.l0] at H;by_cases c4 : x13_1 < (l0.length : Int)
    ·rw [if_pos c4] at H;have c4b0:=decide_eq_true c4;clear c4;by_cases c5 : 0 ≤ x13_1
     ·rw [if_pos c5] at H;have c5b0:=decide_eq_true c5;clear c5;by_cases c6 : x13_1 < (l0.length : Int)
      ·rw [if_pos c6] at H;have c6b0:=decide_eq_true c6;clear c6;by_cases c7 : x13_1 < (l1.length : Int)
       ·rw [if_pos c7] at H;have c7b0:=decide_eq_true c7;clear c7;by_cases c8 : (!(((rd_T25 l0 x13_1).f0) == ((rd_T25 l1 x13_1).f0)) || (!(((rd_T25 l0 x13_1).f1) == ((rd_T25 l1 x13_1).f1)) || (!((((rd_T25 l0 x13_1).f2).toList) == (((rd_T25 l1 x13_1).f2).toList))))) = true
        ·rw [if_pos c8] at H;have c8b0 : (!(((rd_T25 l0 x13_1).f0) == ((rd_T25 l1 x13_1).f0)) || (!(((rd_T25 l0 x13_1).f1) == ((rd_T25 l1 x13_1).f1)) || (!((((rd_T25 l0 x13_1).f2).toList) == (((rd_T25 l1 x13_1).f2).toList))))) = true:=c8;clear c8;obtain rfl:=Option.some.inj H;have p101 : 0 ≤ (x13_1 : Int):=of_decide_eq_true (q4_);have q101 : x13_1 < (l0.length : Int):=of_decide_eq_true (q4_);obtain ⟨ad101,e101,hx101_0,hx101_1,hx101_2⟩:=at_T25 HR0.out x13_1 p101 q101;cases e101;replace p101:=eq_true p101;replace q101:=eq_true q101;have p102 : 0 ≤ (x13_1 : Int):=of_decide_eq_true (q4_);have q102 : x13_1 < (l1.length : Int):=of_decide_eq_true (q4_);obtain ⟨ad102,e102,hx102_0,hx102_1,hx102_2⟩:=at_T25 HR1.out x13_1 p102 q102;cases e102;replace p102:=eq_true p102;replace q102:=eq_true q102;go_wp2;repeat (go_quiet (fail);try go_wp2)
         go_ret;exact ⟨q3_,q5_⟩
        ·rw [if_neg c8] at H;have c8b0 : (!(((rd_T25 l0 x13_1).f0) == ((rd_T25 l1 x13_1).f0)) || (!(((rd_T25 l0 x13_1).f1) == ((rd_T25 l1 x13_1).f1)) || (!((((rd_T25 l0 x13_1).f2).toList) == (((rd_T25 l1 x13_1).f2).toList))))) = false:=by simpa using c8
         clear c8;have H' := Aside0.mk H;clear H;have p101 : 0 ≤ (x13_1 : Int):=of_decide_eq_true (q4_);have q101 : x13_1 < (l0.length : Int):=of_decide_eq_true (q4_);obtain ⟨ad101,e101,hx101_0,hx101_1,hx101_2⟩:=at_T25 HR0.out x13_1 p101 q101;cases e101;replace p101:=eq_true p101;replace q101:=eq_true q101;have p102 : 0 ≤ (x13_1 : Int):=of_decide_eq_true (q4_);have q102 : x13_1 < (l1.length : Int):=of_decide_eq_true (q4_);obtain ⟨ad102,e102,hx102_0,hx102_1,hx102_2⟩:=at_T25 HR1.out x13_1 p102 q102;cases e102;replace p102:=eq_true p102;replace q102:=eq_true q102;go_wp2;repeat (go_quiet (fail);try go_wp2)
         go_roundg k1
         case measure=>have:=HK1.out;omega
         case rel=>exact ⟨(wrap64 (x13_1 + 1)),(q3_),H', ⟨by have:=HK1.out;omega⟩,q5_⟩
       ·rw [if_neg c7] at H;exact absurd H (q1_)
      ·rw [if_neg c6] at H;exact absurd H (q1_)
     ·rw [if_neg c5] at H;exact absurd H (q1_)
    ·rw [if_neg c4] at H;have c4b0:=decide_eq_false c4;clear c4;obtain rfl:=Option.some.inj H;go_wp2;repeat (go_quiet (fail);try go_wp2)
     go_ret;exact ⟨q3_,q5_⟩
 ·rw [if_neg c3] at H;have c3b0 : ((l0.length : Int) == (l1.length : Int)) = false:=beq_eq_false_iff_ne.mpr c3;have c3b1 : ((l0.length : Int) != (l1.length : Int)) = true:=bne_iff_ne.mpr c3;have c3b2 : (l0.length == l1.length) = false:=by first | simpa using c3 | (simp at c3 ⊢;omega)
  obtain rfl:=Option.some.inj H;go_enter Tryz.func20,Tryz.ntmps20
  go_wp2;repeat (go_quiet (fail);try go_wp2)
  go_ret;exact ⟨q3_,q5_⟩
/-! ### yAq: function 53 -/
def yAq.l0 : Nat → List Int → List Int → Int → Int → Option (Bool)
 | 0,_,_,_,_=>none
 | k + 1,x0,x1,x12,x13=>if x13 < x12 then (if 0 ≤ x13 then (if x13 < (x0.length : Int) then (if x13 < (x1.length : Int) then (if (rd x0 x13) = (rd x1 x13) then (yAq.l0 k x0 x1 x12 (wrap64 (x13 + 1))) else (some false)) else (none)) else (none)) else (none)) else (some true)
def yAq.f (k : Nat) (l0 : List Int) (l1 : List Int) : Option (Bool):=if (l0.length : Int) = (l1.length : Int) then (yAq.l0 k l0 l1 (l0.length : Int) 0) else (some false)
set_option maxHeartbeats 8000000 in
set_option maxRecDepth 100000 in
theorem yAq.calls (k : Nat) (A0 : Option Addr) (c0 : Nat) (l0 : List Int) (A1 : Option Addr) (c1 : Nat) (l1 : List Int) (r : Bool) (w : World) (hr0 : Kd.C (Kd.int .i64) w A0 l0.length l0) (hc0 : l0.length ≤ c0) (hr1 : Kd.C (Kd.int .i64) w A1 l1.length l1) (hc1 : l1.length ≤ c1) (h : yAq.f k l0 l1 = some r) :
  Calls Tryz.prog 53 #[.slice A0 l0.length c0,.slice A1 l1.length c1] w fun e w' => e = .returned (.bool r) ∧ Drawn0 w w' := by
 have HR0:=Aside0.mk hr0;have HC0:=Aside0.mk hc0;clear hr0 hc0;have HR1:=Aside0.mk hr1;have HC1:=Aside0.mk hc1;clear hr1 hc1;have H : (if (l0.length : Int) = (l1.length : Int) then (yAq.l0 k l0 l1 (l0.length : Int) 0) else (some false)) = some r:=h;clear h;by_cases c3 : (l0.length : Int) = (l1.length : Int)
 ·rw [if_pos c3] at H;have c3b0 : ((l0.length : Int) == (l1.length : Int)) = true:=beq_iff_eq.mpr c3;have c3b1 : ((l0.length : Int) != (l1.length : Int)) = false:=bne_eq_false_iff_eq.mpr c3;have c3b2 : (l0.length == l1.length) = true:=by first | simpa using c3 | (simp at c3 ⊢;omega)
  clear c3;have H' := Aside0.mk H;clear H;go_enter Tryz.func53,Tryz.ntmps53
  go_wp2;repeat (go_quiet (fail);try go_wp2)
  go_loopg [13] k (fun kq v13 w' => ∃ (x13_1 : Int),v13 = .int .i64 x13_1 ∧ Aside0 (yAq.l0 kq l0 l1 (l0.length : Int) x13_1 = some r) ∧ Aside0 (kq ≤ k) ∧ Drawn0 w w')
  case atStart=>exact ⟨(0),(q3_),H', ⟨Nat.le_refl _⟩,q5_⟩
  case round =>
   clear H';try clear c1
   try clear c3
   try clear c3b0
   try clear c3b1
   try clear c3b2
   obtain ⟨x13_1,rfl,HA,HK1,⟨m1,rfl⟩⟩:=hrel;cases gk with
   | zero=>exact absurd HA.out (by simp [yAq.l0])
   | succ k1 =>
    have H:=HA.out;clear HA;simp only [yAq.l0] at H;by_cases c4 : x13_1 < (l0.length : Int)
    ·rw [if_pos c4] at H;have c4b0:=decide_eq_true c4;clear c4;by_cases c5 : 0 ≤ x13_1
     ·rw [if_pos c5] at H;have c5b0:=decide_eq_true c5;clear c5;by_cases c6 : x13_1 < (l0.length : Int)
      ·rw [if_pos c6] at H;have c6b0:=decide_eq_true c6;clear c6;by_cases c7 : x13_1 < (l1.length : Int)
       ·rw [if_pos c7] at H;have c7b0:=decide_eq_true c7;clear c7;by_cases c8 : (rd l0 x13_1) = (rd l1 x13_1)
        ·rw [if_pos c8] at H;have c8b0 : ((rd l0 x13_1) == (rd l1 x13_1)) = true:=beq_iff_eq.mpr c8;have c8b1 : ((rd l0 x13_1) != (rd l1 x13_1)) = false:=bne_eq_false_iff_eq.mpr c8;clear c8;have H' := Aside0.mk H;clear H;have p101 : 0 ≤ (x13_1 : Int):=of_decide_eq_true (q4_);have q101 : x13_1 < (l0.length : Int):=of_decide_eq_true (q4_);obtain ⟨ad101,e101,hx101_0⟩:=Kd.at_int HR0.out x13_1 p101 q101;cases e101;replace p101:=eq_true p101;replace q101:=eq_true q101;have p102 : 0 ≤ (x13_1 : Int):=of_decide_eq_true (q4_);have q102 : x13_1 < (l1.length : Int):=of_decide_eq_true (q4_);obtain ⟨ad102,e102,hx102_0⟩:=Kd.at_int HR1.out x13_1 p102 q102;cases e102;replace p102:=eq_true p102;replace q102:=eq_true q102;go_wp2;repeat (go_quiet (fail);try go_wp2)
         go_roundg k1
         case measure=>have:=HK1.out;omega
         case rel=>exact ⟨(wrap64 (x13_1 + 1)),(q3_),H', ⟨by have:=HK1.out;omega⟩,q5_⟩
        ·rw [if_neg c8] at H;have c8b0 : ((rd l0 x13_1) == (rd l1 x13_1)) = false:=beq_eq_false_iff_ne.mpr c8;have c8b1 : ((rd l0 x13_1) != (rd l1 x13_1)) = true:=bne_iff_ne.mpr c8;obtain rfl:=Option.some.inj H;have p101 : 0 ≤ (x13_1 : Int):=of_decide_eq_true (q4_);have q101 : x13_1 < (l0.length : Int):=of_decide_eq_true (q4_);obtain ⟨ad101,e101,hx101_0⟩:=Kd.at_int HR0.out x13_1 p101 q101;cases e101;replace p101:=eq_true p101;replace q101:=eq_true q101;have p102 : 0 ≤ (x13_1 : Int):=of_decide_eq_true (q4_);have q102 : x13_1 < (l1.length : Int):=of_decide_eq_true (q4_);obtain ⟨ad102,e102,hx102_0⟩:=Kd.at_int HR1.out x13_1 p102 q102;cases e102;replace p102:=eq_true p102;replace q102:=eq_true q102;go_wp2;repeat (go_quiet (fail);try go_wp2)
         go_ret;exact ⟨q3_,q5_⟩
       ·rw [if_neg c7] at H;exact absurd H (q1_)
      ·rw [if_neg c6] at H;exact absurd H (q1_)
     ·rw [if_neg c5] at H;exact absurd H (q1_)
    ·rw [if_neg c4] at H;have c4b0:=decide_eq_false c4;clear c4;obtain rfl:=Option.some.inj H;go_wp2;repeat (go_quiet (fail);try go_wp2)
     go_ret;exact ⟨q3_,q5_⟩
 ·rw [if_neg c3] at H;have c3b0 : ((l0.length : Int) == (l1.length : Int)) = false:=beq_eq_false_iff_ne.mpr c3;have c3b1 : ((l0.length : Int) != (l1.length : Int)) = true:=bne_iff_ne.mpr c3;have c3b2 : (l0.length == l1.length) = false:=by first | simpa using c3 | (simp at c3 ⊢;omega)
  obtain rfl:=Option.some.inj H;go_enter Tryz.func53,Tryz.ntmps53
  go_wp2;repeat (go_quiet (fail);try go_wp2)
  go_ret;exact ⟨q3_,q5_⟩
/-! ### yAr: function 21 -/
def yAr.l0 : Nat → List (List Int) → List (List Int) → Int → Int → Option (Bool)
 | 0,_,_,_,_=>none
 | k + 1,x0,x1,x12,x13=>if x13 < x12 then (if 0 ≤ x13 then (if x13 < (x0.length : Int) then (if x13 < (x1.length : Int) then ((yAq.f k (rd_L13 x0 x13) (rd_L13 x1 x13)).bind fun t103=>(if t103 = true then (yAr.l0 k x0 x1 x12 (wrap64 (x13 + 1))) else (some false))) else (none)) else (none)) else (none)) else (some true)
def yAr.f (k : Nat) (l0 : List (List Int)) (l1 : List (List Int)) : Option (Bool):=if (l0.length : Int) = (l1.length : Int) then (yAr.l0 k l0 l1 (l0.length : Int) 0) else (some false)
set_option maxHeartbeats 8000000 in
set_option maxRecDepth 100000 in
theorem yAr.calls (k : Nat) (A0 : Option Addr) (c0 : Nat) (l0 : List (List Int)) (A1 : Option Addr) (c1 : Nat) (l1 : List (List Int)) (r : Bool) (w : World) (hr0 : Kd.C (Kd.slice 3 (Kd.int .i64)) w A0 l0.length l0) (hc0 : l0.length ≤ c0) (hr1 : Kd.C (Kd.slice 3 (Kd.int .i64)) w A1 l1.length l1) (hc1 : l1.length ≤ c1) (h : yAr.f k l0 l1 = some r) :
  Calls Tryz.prog 21 #[.slice A0 l0.length c0,.slice A1 l1.length c1] w fun e w' => e = .returned (.bool r) ∧ Drawn0 w w' := by
 have HR0:=Aside0.mk hr0;have HC0:=Aside0.mk hc0;clear hr0 hc0;have HR1:=Aside0.mk hr1;have HC1:=Aside0.mk hc1;clear hr1 hc1;have H : (if (l0.length : Int) = (l1.length : Int) then (yAr.l0 k l0 l1 (l0.length : Int) 0) else (some false)) = some r:=h;clear h;by_cases c3 : (l0.length : Int) = (l1.length : Int)
 ·rw [if_pos c3] at H;have c3b0 : ((l0.length : Int) == (l1.length : Int)) = true:=beq_iff_eq.mpr c3;have c3b1 : ((l0.length : Int) != (l1.length : Int)) = false:=bne_eq_false_iff_eq.mpr c3;have c3b2 : (l0.length == l1.length) = true:=by first | simpa using c3 | (simp at c3 ⊢;omega)
  clear c3;have H' := Aside0.mk H;clear H;go_enter Tryz.func21,Tryz.ntmps21
  go_wp2;repeat (go_quiet (fail);try go_wp2)
  go_loopg [13] k (fun kq v13 w' => ∃ (x13_1 : Int),v13 = .int .i64 x13_1 ∧ Aside0 (yAr.l0 kq l0 l1 (l0.length : Int) x13_1 = some r) ∧ Aside0 (kq ≤ k) ∧ Drawn0 w w')
  case atStart=>exact ⟨(0),(q3_),H', ⟨Nat.le_refl _⟩,q5_⟩
  case round =>
   clear H';try clear c1
   try clear c3
   try clear c3b0
   try clear c3b1
   try clear c3b2
   obtain ⟨x13_1,rfl,HA,HK1,⟨m1,rfl⟩⟩:=hrel;cases gk with
   | zero=>exact absurd HA.out (by simp [yAr.l0])
   | succ k1 =>
    have H:=HA.out;clear HA;simp only [yAr.l0] at H;by_cases c4 : x13_1 < (l0.length : Int)
    ·rw [if_pos c4] at H;have c4b0:=decide_eq_true c4;clear c4;by_cases c5 : 0 ≤ x13_1
     ·rw [if_pos c5] at H;have c5b0:=decide_eq_true c5;clear c5;by_cases c6 : x13_1 < (l0.length : Int)
      ·rw [if_pos c6] at H;have c6b0:=decide_eq_true c6;clear c6;by_cases c7 : x13_1 < (l1.length : Int)
       ·rw [if_pos c7] at H;have c7b0:=decide_eq_true c7;clear c7;replace H:=Option.bind_eq_some_iff.mp H;obtain ⟨t103,A80,H⟩:=H;(try dsimp only at H);have A8:=Aside0.mk A80;clear A80;by_cases c9 : t103 = true
        ·subst c9;rw [if_pos rfl] at H;have H' := Aside0.mk H;clear H;have p101 : 0 ≤ (x13_1 : Int):=of_decide_eq_true (q4_);have q101 : x13_1 < (l0.length : Int):=of_decide_eq_true (q4_);obtain ⟨ad101,A101_0,c101_0,e101,hx101_0,hl101_0,hi101_0⟩:=at_L13 HR0.out x13_1 p101 q101;cases e101;have HR101_0:=Aside0.mk hi101_0;have HC101_0:=Aside0.mk hl101_0;clear hi101_0 hl101_0;replace p101:=eq_true p101;replace q101:=eq_true q101;have p102 : 0 ≤ (x13_1 : Int):=of_decide_eq_true (q4_);have q102 : x13_1 < (l1.length : Int):=of_decide_eq_true (q4_);obtain ⟨ad102,A102_0,c102_0,e102,hx102_0,hl102_0,hi102_0⟩:=at_L13 HR1.out x13_1 p102 q102;cases e102;have HR102_0:=Aside0.mk hi102_0;have HC102_0:=Aside0.mk hl102_0;clear hi102_0 hl102_0;replace p102:=eq_true p102;replace q102:=eq_true q102;iterate 3 (go_wp2_with (first | (go_at_call 53;(with_reducible refine (yAq.calls k1 _ _ (rd_L13 l0 x13_1) _ _ (rd_L13 l1 x13_1) true _ ?side1 ?side2 ?side3 ?side4 A8.out).mono ?_);(case side1=>exact cX_ HR101_0.out);(case side2=>exact HC101_0.out);(case side3=>exact cX_ HR102_0.out);(case side4=>exact HC102_0.out);rintro e w' ⟨rfl,⟨nd,rfl⟩⟩;(try first | exact ⟨rfl,_,World.drewN_drewN _ _ _⟩ | exact ⟨rfl,_,Eq.trans (World.drewN_drewN _ _ _) (congrArg (World.drewN _) (Nat.add_assoc _ _ _))⟩)));try go_quiet (first | (go_at_call 53;(with_reducible refine (yAq.calls k1 _ _ (rd_L13 l0 x13_1) _ _ (rd_L13 l1 x13_1) true _ ?side1 ?side2 ?side3 ?side4 A8.out).mono ?_);(case side1=>exact cX_ HR101_0.out);(case side2=>exact HC101_0.out);(case side3=>exact cX_ HR102_0.out);(case side4=>exact HC102_0.out);rintro e w' ⟨rfl,⟨nd,rfl⟩⟩;(try first | exact ⟨rfl,_,World.drewN_drewN _ _ _⟩ | exact ⟨rfl,_,Eq.trans (World.drewN_drewN _ _ _) (congrArg (World.drewN _) (Nat.add_assoc _ _ _))⟩))))
         go_roundg k1
         case measure=>have:=HK1.out;omega
         case rel=>exact ⟨(wrap64 (x13_1 + 1)),(q3_),H', ⟨by have:=HK1.out;omega⟩,q5_⟩
        ·replace c9:=Bool.eq_false_iff.mpr c9;subst c9;rw [if_neg (show ¬ (false = true) by decide)] at H;obtain rfl:=Option.some.inj H;have p101 : 0 ≤ (x13_1 : Int):=of_decide_eq_true (q4_);have q101 : x13_1 < (l0.length : Int):=of_decide_eq_true (q4_);obtain ⟨ad101,A101_0,c101_0,e101,hx101_0,hl101_0,hi101_0⟩:=at_L13 HR0.out x13_1 p101 q101;cases e101;have HR101_0:=Aside0.mk hi101_0;have HC101_0:=Aside0.mk hl101_0;clear hi101_0 hl101_0;replace p101:=eq_true p101;replace q101:=eq_true q101;have p102 : 0 ≤ (x13_1 : Int):=of_decide_eq_true (q4_);have q102 : x13_1 < (l1.length : Int):=of_decide_eq_true (q4_);obtain ⟨ad102,A102_0,c102_0,e102,hx102_0,hl102_0,hi102_0⟩:=at_L13 HR1.out x13_1 p102 q102;cases e102;have HR102_0:=Aside0.mk hi102_0;have HC102_0:=Aside0.mk hl102_0;clear hi102_0 hl102_0;replace p102:=eq_true p102;replace q102:=eq_true q102;iterate 3 (go_wp2_with (first | (go_at_call 53;(with_reducible refine (yAq.calls k1 _ _ (rd_L13 l0 x13_1) _ _ (rd_L13 l1 x13_1) false _ ?side1 ?side2 ?side3 ?side4 A8.out).mono ?_);(case side1=>exact cX_ HR101_0.out);(case side2=>exact HC101_0.out);(case side3=>exact cX_ HR102_0.out);(case side4=>exact HC102_0.out);rintro e w' ⟨rfl,⟨nd,rfl⟩⟩;(try first | exact ⟨rfl,_,World.drewN_drewN _ _ _⟩ | exact ⟨rfl,_,Eq.trans (World.drewN_drewN _ _ _) (congrArg (World.drewN _) (Nat.add_assoc _ _ _))⟩)));try go_quiet (first | (go_at_call 53;(with_reducible refine (yAq.calls k1 _ _ (rd_L13 l0 x13_1) _ _ (rd_L13 l1 x13_1) false _ ?side1 ?side2 ?side3 ?side4 A8.out).mono ?_);(case side1=>exact cX_ HR101_0.out);(case side2=>exact HC101_0.out);(case side3=>exact cX_ HR102_0.out);(case side4=>exact HC102_0.out);rintro e w' ⟨rfl,⟨nd,rfl⟩⟩;(try first | exact ⟨rfl,_,World.drewN_drewN _ _ _⟩ | exact ⟨rfl,_,Eq.trans (World.drewN_drewN _ _ _) (congrArg (World.drewN _) (Nat.add_assoc _ _ _))⟩))))
         go_ret;exact ⟨q3_,q5_⟩
       ·rw [if_neg c7] at H;exact absurd H (q1_)
      ·rw [if_neg c6] at H;exact absurd H (q1_)
     ·rw [if_neg c5] at H;exact absurd H (q1_)
    ·rw [if_neg c4] at H;have c4b0:=decide_eq_false c4;clear c4;obtain rfl:=Option.some.inj H;go_wp2;repeat (go_quiet (fail);try go_wp2)
     go_ret;exact ⟨q3_,q5_⟩
 ·rw [if_neg c3] at H;have c3b0 : ((l0.length : Int) == (l1.length : Int)) = false:=beq_eq_false_iff_ne.mpr c3;have c3b1 : ((l0.length : Int) != (l1.length : Int)) = true:=bne_iff_ne.mpr c3;have c3b2 : (l0.length == l1.length) = false:=by first | simpa using c3 | (simp at c3 ⊢;omega)
  obtain rfl:=Option.some.inj H;go_enter Tryz.func21,Tryz.ntmps21
  go_wp2;repeat (go_quiet (fail);try go_wp2)
  go_ret;exact ⟨q3_,q5_⟩
/-! ### yBH: function 24 -/
def yBH.f (k : Nat) (a0_0 : Int) (a0_1 : Int) (a0_2 : ByteArray) : Option (Bool):=(yA2.f k a0_0 a0_1 a0_2).bind fun t102=>(some t102)
set_option maxHeartbeats 8000000 in
set_option maxRecDepth 100000 in
theorem yBH.calls (k : Nat) (a0_0 : Int) (a0_1 : Int) (a0_2 : ByteArray) (r : Bool) (w : World) (h : yBH.f k a0_0 a0_1 a0_2 = some r) :
  Calls Tryz.prog 24 #[.agg #[.int .i64 a0_0,.int .i64 a0_1,.string a0_2]] w fun e w' => e = .returned (.bool r) ∧ Below w.heap.size w w' := by
 have hu25:=Tryz.underlying25;have HB:=Aside0.mk (Below.refl w.heap.size w);have H : ((yA2.f k a0_0 a0_1 a0_2).bind fun t102=>(some t102)) = some r:=h;clear h;replace H:=Option.bind_eq_some_iff.mp H;obtain ⟨t102,A20,H⟩:=H;(try dsimp only at H);have A2:=Aside0.mk A20;clear A20;obtain rfl:=Option.some.inj H;go_enter Tryz.func24,Tryz.ntmps24
 go_wp2_with (first | ((with_reducible refine gate_dst (N:=1) rfl ?_);refine box_event ?hg (N:=1) ?hd (cs:=#[.int .i64 a0_0,.int .i64 a0_1,.string a0_2]) (t:=25) ?hr ?_;(case hd=>rfl);(case hg=>rfl);(case hr=>first | (go_simp;done) | (go_simp;rfl));intro gb101 hg w3 hbox hb;have BK101:=Aside0.mk (hbox);have GW101:=Aside0.mk ((q49_ : w.heap.size ≤ gb101));have GE101:=Aside0.mk ((q49_ : w.heap.size ≤ gb101));replace HB:=bS_ HB hb;clear hb hbox hg;obtain ⟨hcz4_0,hcz4_1,hcz4_2,hfz4_0,hfz4_1,hfz4_2⟩:=bx3_ BK101.out) | ((with_reducible refine gate_callee (f:=34) rfl ?_);refine goesL_ (some 4) rfl rfl Tryz.func34 (by kernel_rfl) rfl #[.agg #[.int .i64 a0_0,.int .i64 a0_1,.string a0_2]] rfl (q21_) ?_;(with_reducible refine (yA2.calls k a0_0 a0_1 a0_2 t102 _ A2.out).mono ?_);rintro e w5 ⟨rfl,hb⟩;refine ⟨_,rfl,?_⟩;replace BK101:=bkB_ BK101 hb;replace HB:=Aside0.mk (below_step (q25_) hb);(try clear hb)))
 go_ret;exact ⟨q6_,q25_⟩
/-! ### yBK: function 76 -/
set_option maxHeartbeats 4000000 in
set_option maxRecDepth 100000 in
theorem yBK.with (p : S25 → Bool) (g : Nat) (lb : Array Value) (eg : ∀ args w,(callFunc g args).run Tryz.prog w = .ok (.enter g args) w) (A0 : Option Addr) (c0 : Nat) (l0 : List S25) (w : World) (hr0 : Kd.C k25 w A0 l0.length l0)
  (hp : ∀ (W : World) (x : S25),Below w.heap.size w W → Calls Tryz.prog g (#[.agg #[.int .i64 x.f0,.int .i64 x.f1,.string x.f2]] ++ lb) W fun e w' => e = .returned (.bool (p x)) ∧ Below w.heap.size w w') :
  Calls Tryz.prog 76 #[.slice A0 l0.length c0,.func (.func g) #[] lb] w fun e w' => e = .returned (.int .i64 (idxOf p l0)) ∧ Below w.heap.size w w' := by
 have HR:=Aside0.mk hr0;have HP:=Aside0.mk hp;have HL:=Aside0.mk hr0.2.1;clear hr0 hp;go_enter Tryz.func76,Tryz.ntmps76
 go_wp2;go_loopg [5,8] l0.length (fun gg _ s8 wr=>∃ x : Int,s8 = .int .i64 x ∧ Aside0 (0 ≤ x ∧ x ≤ (l0.length : Int) ∧ (l0.length : Int) - x ≤ (gg : Int)) ∧ Aside0 (Below w.heap.size w wr) ∧ Aside0 (∀ j,j < x.toNat → p (l0.getD j z25) = false))
 case atStart=>exact ⟨0,rfl,⟨by omega⟩,⟨Below.refl _ w⟩,⟨fun j hj=>absurd hj (Nat.not_lt_zero _)⟩⟩
 case round =>
  obtain ⟨x,rfl,HX,BW,HA⟩:=hrel;by_cases hlt : x < (l0.length : Int)
  ·have p1 : 0 ≤ x:=HX.out.1;have q1:=hlt;have hw : wrap64 (x + 1) = x + 1:=by have:=HL.out;unfold wrap64;omega
   have HW:=Aside0.mk hw;clear hw;obtain ⟨ad,e,hx0,hx1,hx2⟩:=at_T25 HR.out x p1 q1;cases e;have hcall:=HP.out wr (rd_T25 l0 x) BW.out
   (replace hx0:=(BW.out.cell (World.block_lt_of_cell? w _ hx0)).trans hx0;replace hx1:=(BW.out.cell (World.block_lt_of_cell? w _ hx1)).trans hx1;replace hx2:=(BW.out.cell (World.block_lt_of_cell? w _ hx2)).trans hx2)
   obtain ⟨y,hy⟩ : ∃ y,rd_T25 l0 x = y:=⟨_,rfl⟩;rw [hy] at hx0 hx1 hx2 hcall;have HY:=Aside0.mk hy;clear hy;have HLT:=Aside0.mk hlt;have b1 : decide (x < (l0.length : Int)) = true:=decide_eq_true hlt;clear hlt;replace p1:=eq_true p1;replace q1:=eq_true q1;cases hq : p y with
   | true =>
    rw [hq] at hcall;have HQ:=Aside0.mk hq;clear hq;have HC:=Aside0.mk hcall;clear hcall;go_wp2_with fail
    refine HC.out.mono ?_;clear HC;rintro e w' ⟨rfl,hb'⟩;have HB' := Aside0.mk hb';clear hb';go_wp2;go_ret;exact ⟨by rw [idxOf_hit z25 (i:=x.toNat) (by have:=HX.out;have:=HLT.out;omega) (by show p (rd_T25 l0 x) = true;rw [HY.out];exact HQ.out) HA.out,Int.toNat_of_nonneg HX.out.1];rfl,HB'.out⟩
   | false =>
    rw [hq] at hcall;have HQ:=Aside0.mk hq;clear hq;have HC:=Aside0.mk hcall;clear hcall;go_wp2_with fail
    refine HC.out.mono ?_;clear HC;rintro e w' ⟨rfl,hb'⟩;have HB' := Aside0.mk hb';clear hb';go_wp2;go_roundg (l0.length - (x.toNat + 1))
    case measure=>have:=HX.out;have:=HLT.out;omega
    case rel =>
     refine ⟨x + 1,by first | rfl | (rw [HW.out]) | (simp [HW.out]),⟨by have:=HX.out;have:=HLT.out;omega⟩,⟨HB'.out⟩,⟨fun j hj=>?_⟩⟩;by_cases e : j = x.toNat
     ·subst e;show p (rd_T25 l0 x) = false;rw [HY.out];exact HQ.out
     ·exact HA.out j (by have:=HX.out;omega)
  ·have b1 : decide (x < (l0.length : Int)) = false:=decide_eq_false hlt;have HLT:=Aside0.mk hlt;clear hlt;go_wp2;go_ret;exact ⟨by rw [idxOf_miss z25 (fun j hj=>HA.out j (by have:=HX.out;have:=HLT.out;omega))];rfl,BW.out⟩
/-! ### yAa: function 56 -/
def yAa.p (a1 : Int) (x : S25) : Bool:=decide (x.f0 ≤ a1 ∧ a1 ≤ wrap64 (x.f1 - 1))
def yAa.f (l0 : List S25) (a1 : Int) : Option (Int):=some (idxOf (yAa.p a1) l0)
theorem yAa.test (a1 : Int) (x : S25) : yA6.f a1 x.f0 (wrap64 (x.f1 - 1)) = some (yAa.p a1 x):=by
 unfold yA6.f yAa.p;by_cases h : a1 ≥ x.f0
 ·rw [if_pos h];simp [show x.f0 ≤ a1 from h]
 ·rw [if_neg h];simp [show ¬ x.f0 ≤ a1 from h]
set_option maxHeartbeats 4000000 in
set_option maxRecDepth 100000 in
theorem yAa.pred (a1 : Int) (B : Nat) (w : World) (hB : B < w.heap.size) (hcell : w.cell? ⟨B,0,none⟩ = some (.int .i64 a1)) (W : World) (x : S25) (hb : Below w.heap.size w W) :
  Calls Tryz.prog 77 (#[.agg #[.int .i64 x.f0,.int .i64 x.f1,.string x.f2]] ++ #[.pointer (some ⟨B,0,none⟩)]) W fun e w' => e = .returned (.bool (yAa.p a1 x)) ∧ Below w.heap.size w w' := by
 have hc : W.cell? ⟨B,0,none⟩ = some (.int .i64 a1):=(hb.cell (p:=⟨B,0,none⟩) hB).trans hcell;have hBW : B < W.heap.size:=Nat.lt_of_lt_of_le hB hb.size;have hne : B ≠ W.heap.size:=by omega
 have HT:=yAa.test a1 x;have HB:=Aside0.mk hb;clear hcell hb hB;generalize yAa.p a1 x = q at HT ⊢;have HT' := Aside0.mk HT;clear HT;show Calls Tryz.prog 77 #[.agg #[.int .i64 x.f0,.int .i64 x.f1,.string x.f2],.pointer (some ⟨B,0,none⟩)] W _;go_enter Tryz.func77,Tryz.ntmps77
 go_wp2_with (go_at_call 74;refine (yA6.calls _ _ _ _ _ HT'.out).mono ?_;rintro e w' ⟨rfl,⟨nd,rfl⟩⟩)
 go_ret;exact ⟨rfl,pw_below_drewN (HB.out.alloc HB.out.size _) _⟩
set_option maxHeartbeats 4000000 in
set_option maxRecDepth 100000 in
theorem yAa.calls (A0 : Option Addr) (c0 : Nat) (l0 : List S25) (a1 : Int) (r : Int) (w : World) (hr0 : Kd.C k25 w A0 l0.length l0) (hc0 : l0.length ≤ c0) (h : yAa.f l0 a1 = some r) :
  Calls Tryz.prog 56 #[.slice A0 l0.length c0,.int .i64 a1] w fun e w' => e = .returned (.int .i64 r) ∧ Below w.heap.size w w' := by
 obtain rfl:=Option.some.inj h;clear h;have eg : ∀ args w,(callFunc 77 args).run Tryz.prog w = .ok (.enter 77 args) w:=goes_in Tryz.func77 (by kernel_rfl) rfl
 have HC:=Aside0.mk (yBK.with (yAa.p a1) 77 #[.pointer (some ⟨w.heap.size,0,none⟩)] eg A0 c0 l0 (w.alloc (.cells #[.int .i64 a1] 3)) (Kd.C_below hr0 ((Below.refl _ w).alloc (Nat.le_refl _) _))
  (fun W x hb=>yAa.pred a1 w.heap.size (w.alloc (.cells #[.int .i64 a1] 3)) (q1_) (q1_) W x hb))
 clear hr0 hc0 eg;generalize idxOf (yAa.p a1) l0 = q at HC ⊢;go_enter Tryz.func56,Tryz.ntmps56
 go_wp2_with fail
 refine HC.out.mono ?_;clear HC;rintro e w' ⟨rfl,hb'⟩;have HB' := Aside0.mk hb';clear hb';go_wp2;go_ret;exact ⟨rfl,((Below.refl _ w).alloc (Nat.le_refl _) _).trans (HB'.out.mono (q1_))⟩
end Go.Proofs.YtglcpghappepaaaGreatDoor.G
