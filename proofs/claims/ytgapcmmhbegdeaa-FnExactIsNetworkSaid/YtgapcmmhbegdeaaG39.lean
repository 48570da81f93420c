-- Written by this session's own program over the kit's print (wip/tools/myprint.py); Lean checks it.
import Derived.Test.YtgapcmmhbegdeaaMBase
import Derived.Test.YtgapcmmhbegdeaaG0
import Derived.Test.YtgapcmmhbegdeaaG1
import Derived.Test.YtgapcmmhbegdeaaG36
import Derived.Test.YtgapcmmhbegdeaaG38
namespace Go.Proofs.Ytgapcmmhbegdeaa.G
open Go.RowKit Go.Proofs.YtgapcmmhbegdeaaW.PrintWords Go.Proofs.YtgapcmmhbegdeaaW.PrintLast Go.Proofs.YtgapcmmhbegdeaaW.PrintMore
attribute [local go_sem] max2_int min2_int max_two min_two max_three min_three max_four min_four str_geq str_gtr str_leq   -- for this text's walks alone
set_option linter.unusedVariables false
set_option linter.unusedSimpArgs false
/-! ### spec_spNetwork: function 130 -/
mutual
def spec_spNetwork.l0 : Nat → List (List (List Int)) → List (List (List Int)) → Int → Int → Option (Bool)
 | 0,_,_,_,_=>none
 | k + 1,x0,x13,x14,x15=>if x15 < x14 then (if 0 ≤ x15 then (if x15 < (x13.length : Int) then (if ((rd_L16 x13 x15).length : Int) = (x0.length : Int) then (spec_spNetwork.l0 k x0 x13 x14 (wrap64 (x15 + 1))) else (some false)) else (none)) else (none)) else (spec_spNetwork.l1 k x0 x0 (x0.length : Int) 0)
def spec_spNetwork.l1 : Nat → List (List (List Int)) → List (List (List Int)) → Int → Int → Option (Bool)
 | 0,_,_,_,_=>none
 | k + 1,x0,x25,x26,x27=>if x27 < x26 then (if 0 ≤ x27 then (if x27 < (x25.length : Int) then (spec_spNetwork.l2 k x0 x27 x25 x26 x27 (rd_L16 x25 x27) ((rd_L16 x25 x27).length : Int) 0) else (none)) else (none)) else (some true)
def spec_spNetwork.l2 : Nat → List (List (List Int)) → Int → List (List (List Int)) → Int → Int → List (List Int) → Int → Int → Option (Bool)
 | 0,_,_,_,_,_,_,_,_=>none
 | k + 1,x0,x5,x25,x26,x27,x32,x33,x34=>if x34 < x33 then (if 0 ≤ x34 then (if x34 < (x32.length : Int) then (if ((rd_L15 x32 x34).length : Int) = 0 then (some false) else ((spec_spSet.f k (rd_L15 x32 x34)).bind fun t105=>(if t105 = true then (if x34 < (x0.length : Int) then (if 0 ≤ x5 then (if x5 < ((rd_L16 x0 x34).length : Int) then ((spec_spInverse.f k (rd_L15 x32 x34)).bind fun t108=>((spec_l1Same.f k (rd_L15 (rd_L16 x0 x34) x5) t108).bind fun t111=>(if t111 = true then (if x5 = x34 then ((spec_l1Same.f k (rd_L15 x32 x34) (([6] : List Int))).bind fun t115=>(if t115 = true then (spec_spNetwork.l2 k x0 x5 x25 x26 x27 x32 x33 (wrap64 (x34 + 1))) else (some false))) else (spec_spNetwork.l2 k x0 x5 x25 x26 x27 x32 x33 (wrap64 (x34 + 1)))) else (some false)))) else (none)) else (none)) else (none)) else (some false)))) else (none)) else (none)) else (spec_spNetwork.l1 k x0 x25 x26 (wrap64 (x27 + 1)))
end
def spec_spNetwork.f (k : Nat) (l0 : List (List (List Int))) : Option (Bool):=(spec_l1In.f (l0.length : Int) 1 6).bind fun t101=>(if t101 = true then (spec_spNetwork.l0 k l0 l0 (l0.length : Int) 0) else (some false))
def spec_spNetwork.T15 : Bool × List (List Nat × List Nat):=(true,[([],[]),([0],[0]),([1],[1]),([2],[2]),([3],[3]),([4,3,3],[3,4]),([5,3],[3,5]),([3,6],[3,6]),([7,5],[7]),([8],[8]),([8],[8]),([9,10,8],[8,9,10]),([11,8],[8,11]),([8],[8]),([12,13,8],[8,12,13]),([14,8],[8,14]),([8],[8]),([16,8,8],[8,16]),([15,17,17,8],[8,15,17]),([18,8],[8,18]),([8,19],[8,19]),([20,18],[20]),([21],[21]),([21],[21]),([22,23,21],[21,22,23]),([24,21,21],[21,24]),([25],[25]),([25],[25]),([26,27,25,25],[25,26,27]),([28,25],[25,28]),([25,29,21],[21,25,29]),([21,30],[21,30])])
def spec_spNetwork.B15 : List Nat:=[0,1,3,7,15,31,63,127,255,511,511,2047,4095,511,16383,32767,511,66047,262143,524287,1048575,2097151,4194303,4194303,16777215,33554431,67108863,67108863,268435455,536870911,1073741823,2147483647]
theorem spec_spNetwork.tab15 : rtab .any (opsOf Try.f130 15) = spec_spNetwork.T15:=by kernel_rfl
theorem spec_spNetwork.bits15 : waitsOk spec_spNetwork.T15.2 spec_spNetwork.B15 = true:=by kernel_rfl
set_option maxHeartbeats 8000000 in
set_option maxRecDepth 100000 in
theorem spec_spNetwork.calls (k : Nat) (A0 : Option Addr) (c0 : Nat) (l0 : List (List (List Int))) (r : Bool) (w : World) (hr0 : Kd.C (Kd.slice 65 (Kd.slice 3 (Kd.int .i64))) w A0 l0.length l0) (hc0 : l0.length ≤ c0) (h : spec_spNetwork.f k l0 = some r) :
  Calls Try.prog 130 #[.slice A0 l0.length c0] w fun e w' => e = .returned (.bool r) ∧ Below w.heap.size w w' := by
 have HR0:=Aside0.mk hr0;have HC0:=Aside0.mk hc0;clear hr0 hc0;have HB:=Aside0.mk (Below.refl w.heap.size w);have H : ((spec_l1In.f (l0.length : Int) 1 6).bind fun t101=>(if t101 = true then (spec_spNetwork.l0 k l0 l0 (l0.length : Int) 0) else (some false))) = some r:=h;clear h;replace H:=Option.bind_eq_some_iff.mp H;obtain ⟨t101,A20,H⟩:=H;(try dsimp only at H);have A2:=Aside0.mk A20;clear A20;by_cases c3 : t101 = true
 ·subst c3;have H1 : (spec_spNetwork.l0 k l0 l0 (l0.length : Int) 0) = some r:=by rw [if_pos rfl] at H;exact H
  clear H;have H:=H1;clear H1;have H' := Aside0.mk H;clear H;go_enter Try.func130,Try.ntmps130
  go_wp2_with (first | ((with_reducible refine gate_callee (f:=146) rfl ?_);refine goesL_ (some 11) rfl rfl Try.func146 (by kernel_rfl) rfl #[.int .i64 (l0.length : Int),.int .i64 1,.int .i64 6] rfl (q9_) ?_;(with_reducible refine (spec_l1In.calls (l0.length : Int) 1 6 true _ A2.out).mono ?_);rintro e w' ⟨rfl,⟨nd,rfl⟩⟩;refine ⟨_,rfl,?_⟩))
  go_loopg [15] k (fun kq v15 w' => ∃ (x15_1 : Int),v15 = .int .i64 x15_1 ∧ Aside0 (spec_spNetwork.l0 kq l0 l0 (l0.length : Int) x15_1 = some r) ∧ Aside0 (kq ≤ k) ∧ Aside0 (Below w.heap.size w w'))
  case atStart=>exact ⟨(0),(q1_),H', ⟨Nat.le_refl _⟩,⟨q8_⟩⟩
  case round =>
   clear H';try clear c3
   obtain ⟨x15_1,rfl,HA,HK1,HB⟩:=hrel;cases gk with
   | zero=>exact absurd HA.out (by simp [spec_spNetwork.l0])
   | succ k1 =>
    have H:=HA.out;clear HA;simp only [spec_spNetwork.l0] at H;by_cases c4 : x15_1 < (l0.length : Int)
    ·rw [if_pos c4] at H;have c4b0 : decide (x15_1 < (l0.length : Int)) = true:=decide_eq_true c4;clear c4;by_cases c5 : 0 ≤ x15_1
     ·rw [if_pos c5] at H;have c5b0 : decide (0 ≤ x15_1) = true:=decide_eq_true c5;clear c5;by_cases c6 : x15_1 < (l0.length : Int)
      ·rw [if_pos c6] at H;have c6b0 : decide (x15_1 < (l0.length : Int)) = true:=decide_eq_true c6;clear c6;by_cases c7 : ((rd_L16 l0 x15_1).length : Int) = (l0.length : Int)
       ·rw [if_pos c7] at H;have c7b0 : (((rd_L16 l0 x15_1).length : Int) == (l0.length : Int)) = true:=beq_iff_eq.mpr c7;have c7b1 : (((rd_L16 l0 x15_1).length : Int) != (l0.length : Int)) = false:=bne_eq_false_iff_eq.mpr c7;have c7b2 : ((rd_L16 l0 x15_1).length == l0.length) = true:=by first | simpa using c7 | (simp at c7 ⊢;omega)
        clear c7;have H' := Aside0.mk H;clear H;have p102 : 0 ≤ (x15_1 : Int):=of_decide_eq_true (q2_);have q102 : x15_1 < (l0.length : Int):=of_decide_eq_true (q2_);obtain ⟨ad102,A102_0,c102_0,e102,hx102_0,hl102_0,hi102_0⟩:=at_L16 HR0.out x15_1 p102 q102;cases e102;replace hx102_0:=hB_ HB.out hx102_0;have HR102_0:=Aside0.mk hi102_0;have HC102_0:=Aside0.mk hl102_0;clear hi102_0 hl102_0;replace p102:=eq_true p102;replace q102:=eq_true q102;go_wp2;go_roundg k1
        case measure=>have:=HK1.out;omega
        case rel=>exact ⟨(wrap64 (x15_1 + 1)),(q1_),H', ⟨by have:=HK1.out;omega⟩,⟨q8_⟩⟩
       ·rw [if_neg c7] at H;have c7b0 : (((rd_L16 l0 x15_1).length : Int) == (l0.length : Int)) = false:=beq_eq_false_iff_ne.mpr c7;have c7b1 : (((rd_L16 l0 x15_1).length : Int) != (l0.length : Int)) = true:=bne_iff_ne.mpr c7;have c7b2 : ((rd_L16 l0 x15_1).length == l0.length) = false:=by first | simpa using c7 | (simp at c7 ⊢;omega)
        obtain rfl:=Option.some.inj H;have p102 : 0 ≤ (x15_1 : Int):=of_decide_eq_true (q2_);have q102 : x15_1 < (l0.length : Int):=of_decide_eq_true (q2_);obtain ⟨ad102,A102_0,c102_0,e102,hx102_0,hl102_0,hi102_0⟩:=at_L16 HR0.out x15_1 p102 q102;cases e102;replace hx102_0:=hB_ HB.out hx102_0;have HR102_0:=Aside0.mk hi102_0;have HC102_0:=Aside0.mk hl102_0;clear hi102_0 hl102_0;replace p102:=eq_true p102;replace q102:=eq_true q102;go_wp2;go_ret;exact ⟨q4_,q8_⟩
      ·rw [if_neg c6] at H;exact absurd H (by simp)
     ·rw [if_neg c5] at H;exact absurd H (by simp)
    ·rw [if_neg c4] at H;have c4b0 : decide (x15_1 < (l0.length : Int)) = false:=decide_eq_false c4;clear c4;have H' := Aside0.mk H;clear H;go_wp2;go_loopg [27] k1 (fun kq v27 w' => ∃ (x27_2 : Int),v27 = .int .i64 x27_2 ∧ Aside0 (spec_spNetwork.l1 kq l0 l0 (l0.length : Int) x27_2 = some r) ∧ Aside0 (kq ≤ k1) ∧ Aside0 (Below w.heap.size w w'))
     case atStart=>exact ⟨(0),(q1_),H', ⟨Nat.le_refl _⟩,⟨q8_⟩⟩
     case round =>
      clear H';try clear c3
      try clear c4
      try clear c4b0
      try clear c5
      try clear c5b0
      try clear c6
      try clear c6b0
      try clear c7
      try clear c7b0
      try clear c7b1
      try clear c7b2
      try clear hx102_0
      try clear p102
      try clear q102
      obtain ⟨x27_2,rfl,HA,HK2,HB⟩:=hrel;cases gk with
      | zero=>exact absurd HA.out (by simp [spec_spNetwork.l1])
      | succ k2 =>
       have H:=HA.out;clear HA;simp only [spec_spNetwork.l1] at H;by_cases c8 : x27_2 < (l0.length : Int)
       ·rw [if_pos c8] at H;have c8b0 : decide (x27_2 < (l0.length : Int)) = true:=decide_eq_true c8;clear c8;by_cases c9 : 0 ≤ x27_2
        ·rw [if_pos c9] at H;have c9b0 : decide (0 ≤ x27_2) = true:=decide_eq_true c9;clear c9;by_cases c10 : x27_2 < (l0.length : Int)
         ·rw [if_pos c10] at H;have c10b0 : decide (x27_2 < (l0.length : Int)) = true:=decide_eq_true c10;clear c10;have H' := Aside0.mk H;clear H;have p103 : 0 ≤ (x27_2 : Int):=of_decide_eq_true (q2_);have q103 : x27_2 < (l0.length : Int):=of_decide_eq_true (q2_);obtain ⟨ad103,A103_0,c103_0,e103,hx103_0,hl103_0,hi103_0⟩:=at_L16 HR0.out x27_2 p103 q103;cases e103;replace hx103_0:=hB_ HB.out hx103_0;have HR103_0:=Aside0.mk hi103_0;have HC103_0:=Aside0.mk hl103_0;clear hi103_0 hl103_0;replace p103:=eq_true p103;replace q103:=eq_true q103;go_wp2;go_loopg [34] k2 (fun kq v34 w' => ∃ (x34_3 : Int),v34 = .int .i64 x34_3 ∧ Aside0 (spec_spNetwork.l2 kq l0 x27_2 l0 (l0.length : Int) x27_2 (rd_L16 l0 x27_2) ((rd_L16 l0 x27_2).length : Int) x34_3 = some r) ∧ Aside0 (kq ≤ k2) ∧ Aside0 (Below w.heap.size w w'))
          case atStart=>exact ⟨(0),(q1_),H', ⟨Nat.le_refl _⟩,⟨q8_⟩⟩
          case round =>
           clear H';try clear c3
           try clear c4
           try clear c4b0
           try clear c5
           try clear c5b0
           try clear c6
           try clear c6b0
           try clear c7
           try clear c7b0
           try clear c7b1
           try clear c7b2
           try clear c8
           try clear c8b0
           try clear c9
           try clear c9b0
           try clear c10
           try clear c10b0
           try clear hx102_0
           try clear hx103_0
           try clear p102
           try clear p103
           try clear q102
           try clear q103
           obtain ⟨x34_3,rfl,HA,HK3,HB⟩:=hrel;cases gk with
           | zero=>exact absurd HA.out (by simp [spec_spNetwork.l2])
           | succ k3 =>
            have H:=HA.out;clear HA;simp only [spec_spNetwork.l2] at H;by_cases c11 : x34_3 < ((rd_L16 l0 x27_2).length : Int)
            ·rw [if_pos c11] at H;have c11b0 : decide (x34_3 < ((rd_L16 l0 x27_2).length : Int)) = true:=decide_eq_true c11;clear c11;by_cases c12 : 0 ≤ x34_3
             ·rw [if_pos c12] at H;have c12b0 : decide (0 ≤ x34_3) = true:=decide_eq_true c12;clear c12;by_cases c13 : x34_3 < ((rd_L16 l0 x27_2).length : Int)
              ·rw [if_pos c13] at H;have c13b0 : decide (x34_3 < ((rd_L16 l0 x27_2).length : Int)) = true:=decide_eq_true c13;clear c13;by_cases c14 : ((rd_L15 (rd_L16 l0 x27_2) x34_3).length : Int) = 0
               ·rw [if_pos c14] at H;have c14b0 : (((rd_L15 (rd_L16 l0 x27_2) x34_3).length : Int) == 0) = true:=beq_iff_eq.mpr c14;have c14b1 : (((rd_L15 (rd_L16 l0 x27_2) x34_3).length : Int) != 0) = false:=bne_eq_false_iff_eq.mpr c14;clear c14;obtain rfl:=Option.some.inj H;have p104 : 0 ≤ (x34_3 : Int):=of_decide_eq_true (q2_);have q104 : x34_3 < ((rd_L16 l0 x27_2).length : Int):=of_decide_eq_true (q2_);obtain ⟨ad104,A104_0,c104_0,e104,hx104_0,hl104_0,hi104_0⟩:=at_L15 HR103_0.out x34_3 p104 q104;cases e104;replace hx104_0:=hB_ HB.out hx104_0;have HR104_0:=Aside0.mk hi104_0;have HC104_0:=Aside0.mk hl104_0;clear hi104_0 hl104_0;replace p104:=eq_true p104;replace q104:=eq_true q104;try go_wp2
                replace HB:=Aside0.mk (below_drew1 HB.out);refine start_ (n:=32) (S:=fun w' => True) (ds:=[]) f29_ (by kernel_rfl) rfl rfl trivial (fun hHeld=>?_);refine with_tabW spec_spNetwork.tab15 spec_spNetwork.bits15 (fun HT_ HW_=>?_);generalize wr.drew = w15 at HB hHeld ⊢;refine pure_ (i:=0) (N:=some 39) (v:=?_) (a' := ?_) f30_ rfl rfl (any_of HT_.out (by kernel_rfl)) (fun _ _ _ h=>h) (Or.inl ⟨by rfl,?_⟩) ?_ ?_;rotate_left
                ·intro w';go_simp;with_reducible rfl
                rotate_left
                ·exact q10_
                refine pa_ 1 40 f31_ ?_
                refine pa_ 2 41 f32_ ?_
                refine pa_ 3 42 f33_ ?_
                refine pu_ 4 43 f34_ ?_
                refine pu_ 5 44 f35_ ?_
                refine pu_ 6 45 f36_ ?_
                refine pa_ 7 46 f37_ ?_
                refine pa_ 8 47 f38_ ?_
                refine pu_ 9 48 f39_ ?_
                refine pu_ 10 49 f40_ ?_
                refine pu_ 11 50 f41_ ?_
                refine pu_ 12 51 f42_ ?_
                refine pu_ 13 52 f43_ ?_
                refine pu_ 14 53 f44_ ?_
                refine pu_ 15 54 f45_ ?_
                refine pu_ 16 55 f46_ ?_
                refine pu_ 17 56 f47_ ?_
                refine pu_ 18 57 f48_ ?_
                refine pu_ 19 58 f49_ ?_
                refine pa_ 20 59 f50_ ?_
                refine pa_ 21 60 f51_ ?_
                refine pu_ 22 61 f52_ ?_
                refine pu_ 23 62 f53_ ?_
                refine pu_ 24 63 f54_ ?_
                refine pu_ 25 64 f55_ ?_
                refine pu_ 26 65 f56_ ?_
                refine pu_ 27 66 f57_ ?_
                refine pu_ 28 67 f58_ ?_
                refine pu_ 29 68 f59_ ?_
                refine pu_ 30 69 f60_ ?_
                refine pa_ 31 70 f61_ ?_
                refine done_ (done_of HT_.out (by kernel_rfl)) ?_;try go_wp2
                go_ret;exact ⟨q4_,q8_⟩
               ·rw [if_neg c14] at H;have c14b0 : (((rd_L15 (rd_L16 l0 x27_2) x34_3).length : Int) == 0) = false:=beq_eq_false_iff_ne.mpr c14;have c14b1 : (((rd_L15 (rd_L16 l0 x27_2) x34_3).length : Int) != 0) = true:=bne_iff_ne.mpr c14;have c14b2 : ¬ ((rd_L15 (rd_L16 l0 x27_2) x34_3) = []):=fun h_=>c14 (by rw [h_];rfl)
                replace H:=Option.bind_eq_some_iff.mp H;obtain ⟨t105,A160,H⟩:=H;(try dsimp only at H);have A16:=Aside0.mk A160;clear A160;by_cases c17 : t105 = true
                ·subst c17;have H1 : (if x34_3 < (l0.length : Int) then (if 0 ≤ x27_2 then (if x27_2 < ((rd_L16 l0 x34_3).length : Int) then ((spec_spInverse.f k3 (rd_L15 (rd_L16 l0 x27_2) x34_3)).bind fun t108=>((spec_l1Same.f k3 (rd_L15 (rd_L16 l0 x34_3) x27_2) t108).bind fun t111=>(if t111 = true then (if x27_2 = x34_3 then ((spec_l1Same.f k3 (rd_L15 (rd_L16 l0 x27_2) x34_3) (([6] : List Int))).bind fun t115=>(if t115 = true then (spec_spNetwork.l2 k3 l0 x27_2 l0 (l0.length : Int) x27_2 (rd_L16 l0 x27_2) ((rd_L16 l0 x27_2).length : Int) (wrap64 (x34_3 + 1))) else (some false))) else (spec_spNetwork.l2 k3 l0 x27_2 l0 (l0.length : Int) x27_2 (rd_L16 l0 x27_2) ((rd_L16 l0 x27_2).length : Int) (wrap64 (x34_3 + 1)))) else (some false)))) else (none)) else (none)) else (none)) = some r:=by rw [if_pos rfl] at H;exact H
                 clear H;have H:=H1;clear H1;by_cases c18 : x34_3 < (l0.length : Int)
                 ·rw [if_pos c18] at H;have c18b0 : decide (x34_3 < (l0.length : Int)) = true:=decide_eq_true c18;clear c18;by_cases c19 : 0 ≤ x27_2
                  ·rw [if_pos c19] at H;have c19b0 : decide (0 ≤ x27_2) = true:=decide_eq_true c19;clear c19;by_cases c20 : x27_2 < ((rd_L16 l0 x34_3).length : Int)
                   ·rw [if_pos c20] at H;have c20b0 : decide (x27_2 < ((rd_L16 l0 x34_3).length : Int)) = true:=decide_eq_true c20;clear c20;replace H:=Option.bind_eq_some_iff.mp H;obtain ⟨t108,A210,H⟩:=H;(try dsimp only at H);have A21:=Aside0.mk A210;clear A210;replace H:=Option.bind_eq_some_iff.mp H;obtain ⟨t111,A220,H⟩:=H;(try dsimp only at H);have A22:=Aside0.mk A220;clear A220;by_cases c23 : t111 = true
                    ·subst c23;have H1 : (if x27_2 = x34_3 then ((spec_l1Same.f k3 (rd_L15 (rd_L16 l0 x27_2) x34_3) (([6] : List Int))).bind fun t115=>(if t115 = true then (spec_spNetwork.l2 k3 l0 x27_2 l0 (l0.length : Int) x27_2 (rd_L16 l0 x27_2) ((rd_L16 l0 x27_2).length : Int) (wrap64 (x34_3 + 1))) else (some false))) else (spec_spNetwork.l2 k3 l0 x27_2 l0 (l0.length : Int) x27_2 (rd_L16 l0 x27_2) ((rd_L16 l0 x27_2).length : Int) (wrap64 (x34_3 + 1)))) = some r:=by rw [if_pos rfl] at H;exact H
                     clear H;have H:=H1;clear H1;by_cases c24 : x27_2 = x34_3
                     ·rw [if_pos c24] at H;have c24b0 : (x27_2 == x34_3) = true:=beq_iff_eq.mpr c24;have c24b1 : (x27_2 != x34_3) = false:=bne_eq_false_iff_eq.mpr c24;clear c24;obtain ⟨y112,hy112⟩ : ∃ y_ : List Int,y_ = (([6] : List Int)):=⟨_,rfl⟩;replace H : ((spec_l1Same.f k3 (rd_L15 (rd_L16 l0 x27_2) x34_3) y112).bind fun t115=>(if t115 = true then (spec_spNetwork.l2 k3 l0 x27_2 l0 (l0.length : Int) x27_2 (rd_L16 l0 x27_2) ((rd_L16 l0 x27_2).length : Int) (wrap64 (x34_3 + 1))) else (some false))) = some r:=by first | (rw [hy112];with_reducible exact H) | (have H2_:=(Option.bind_some _ _).symm.trans H;rw [hy112];with_reducible exact H2_) | (have H2_:=(Option.bind_some _ _).symm.trans H;with_reducible exact H2_) | with_reducible exact H | (rw [hy112];exact H) | exact H
                      have Ny112:=Aside0.mk hy112;clear hy112;replace H:=Option.bind_eq_some_iff.mp H;obtain ⟨t115,A250,H⟩:=H;(try dsimp only at H);have A25:=Aside0.mk A250;clear A250;by_cases c26 : t115 = true
                      ·subst c26;have H1 : (spec_spNetwork.l2 k3 l0 x27_2 l0 (l0.length : Int) x27_2 (rd_L16 l0 x27_2) ((rd_L16 l0 x27_2).length : Int) (wrap64 (x34_3 + 1))) = some r:=by rw [if_pos rfl] at H;exact H
                       clear H;have H:=H1;clear H1;have H' := Aside0.mk H;clear H;have p104 : 0 ≤ (x34_3 : Int):=of_decide_eq_true (q2_);have q104 : x34_3 < ((rd_L16 l0 x27_2).length : Int):=of_decide_eq_true (q2_);obtain ⟨ad104,A104_0,c104_0,e104,hx104_0,hl104_0,hi104_0⟩:=at_L15 HR103_0.out x34_3 p104 q104;cases e104;replace hx104_0:=hB_ HB.out hx104_0;have HR104_0:=Aside0.mk hi104_0;have HC104_0:=Aside0.mk hl104_0;clear hi104_0 hl104_0;replace p104:=eq_true p104;replace q104:=eq_true q104;try go_wp2
                       replace HB:=Aside0.mk (below_drew1 HB.out);have p106 : 0 ≤ (x34_3 : Int):=of_decide_eq_true (q2_);have q106 : x34_3 < (l0.length : Int):=of_decide_eq_true (q2_);obtain ⟨ad106,A106_0,c106_0,e106,hx106_0,hl106_0,hi106_0⟩:=at_L16 HR0.out x34_3 p106 q106;have hw106_0:=hx106_0;obtain rfl : ad103 = ad106:=(by injection e106);replace hx106_0:=hB_ HB.out hx106_0;have HR106_0:=Aside0.mk hi106_0;have HC106_0:=Aside0.mk hl106_0;clear hi106_0 hl106_0;replace p106:=eq_true p106;replace q106:=eq_true q106;have p107 : 0 ≤ (x27_2 : Int):=of_decide_eq_true (q2_);have q107 : x27_2 < ((rd_L16 l0 x34_3).length : Int):=of_decide_eq_true (q2_);obtain ⟨ad107,A107_0,c107_0,e107,hx107_0,hl107_0,hi107_0⟩:=at_L15 HR106_0.out x27_2 p107 q107;have hw107_0:=hx107_0;cases e107;replace hx107_0:=hB_ HB.out hx107_0;have HR107_0:=Aside0.mk hi107_0;have HC107_0:=Aside0.mk hl107_0;clear hi107_0 hl107_0;replace p107:=eq_true p107;replace q107:=eq_true q107;refine start_ (n:=32) (S:=fun w' => w'.cell? (ad103.add (x34_3).toNat) = some (.slice (some ad107) (rd_L16 l0 x34_3).length c106_0) ∧ w'.cell? (ad107.add (x27_2).toNat) = some (.slice A107_0 (rd_L15 (rd_L16 l0 x34_3) x27_2).length c107_0)) (ds:=[]) f29_ (by kernel_rfl) rfl rfl ⟨((HB.out.cell (World.block_lt_of_cell? w _ hw106_0)).trans hw106_0),((HB.out.cell (World.block_lt_of_cell? w _ hw107_0)).trans hw107_0)⟩ (fun hHeld=>?_);refine with_tabW spec_spNetwork.tab15 spec_spNetwork.bits15 (fun HT_ HW_=>?_);generalize wr.drew = w27 at HB HR106_0 HR107_0 hx106_0 hx107_0 hHeld ⊢;refine pure_ (i:=0) (N:=some 39) (v:=?_) (a' := ?_) f30_ rfl rfl (any_of HT_.out (by kernel_rfl)) (fun _ _ _ h=>h) (Or.inl ⟨by rfl,?_⟩) ?_ ?_;rotate_left
                       ·intro w';go_simp;with_reducible rfl
                       rotate_left
                       ·exact q10_
                       refine pa_ 1 40 f31_ ?_
                       refine pa_ 2 41 f32_ ?_
                       refine pa_ 3 42 f33_ ?_
                       refine pa_ 4 43 f34_ ?_
                       refine one_ (i:=5) (N:=some 44) f35_ rfl rfl (one_of HT_.out (by kernel_rfl)) (by decide) (fun K hK=>?_);refine goes_ Try.func217 (by kernel_rfl) rfl #[.slice A104_0 (rd_L15 (rd_L16 l0 x27_2) x34_3).length c104_0] (by rfl) rfl rfl (q9_) ?_
                       with_reducible refine (spec_spSet.calls k3 _ _ (rd_L15 (rd_L16 l0 x27_2) x34_3) true _ ?side1 ?side2 A16.out).mono ?_
                       (case side1=>exact cX_ (Kd.C_below HR104_0.out HB.out))
                       (case side2=>exact HC104_0.out)
                       rintro e w' ⟨rfl,⟨nd,rfl⟩⟩;refine ⟨_,rfl,?_⟩;refine hK.out _ _ ⟨((HB.out.cell (World.block_lt_of_cell? w _ hw106_0)).trans hw106_0),((HB.out.cell (World.block_lt_of_cell? w _ hw107_0)).trans hw107_0)⟩ (fun hHeld=>?_);clear hK K;refine norm_ (a' := ?_) ?_ ?_;rotate_left
                       ·show Act.put _ (some 44) _ = _;simp only [Act.put,List.setIfInBounds_toArray,List.set_cons_zero,List.set_cons_succ,i64_w,i32_w];rfl
                       refine pa_ 6 45 f36_ ?_
                       refine pa_ 7 46 f37_ ?_
                       refine pa_ 8 47 f38_ ?_
                       refine pa_ 9 48 f39_ ?_
                       refine pa_ 10 49 f40_ ?_
                       refine pa_ 11 50 f41_ ?_
                       refine pa_ 13 52 f62_ ?_
                       refine pa_ 16 55 f63_ ?_
                       refine take_ (i:=12) (N:=some 51) (v:=?_) (a' := ?_) f64_ rfl rfl (take_ofW HT_.out HW_.out (by kernel_rfl)) (fun _ _ _ h=>h) (Or.inl ⟨by rfl,?_⟩) hHeld ?_ ?_;rotate_left
                       ·rintro w' ⟨s0,s1⟩;go_simp;with_reducible rfl
                       rotate_left
                       ·exact q10_
                       refine pa_ 14 53 f65_ ?_
                       refine take_ (i:=15) (N:=some 54) (v:=?_) (a' := ?_) f46_ rfl rfl (take_ofW HT_.out HW_.out (by kernel_rfl)) (fun _ _ _ h=>h) (Or.inl ⟨by rfl,?_⟩) hHeld ?_ ?_;rotate_left
                       ·rintro w' ⟨s0,s1⟩;go_simp;with_reducible rfl
                       rotate_left
                       ·exact q10_
                       refine one_ (i:=17) (N:=some 56) f47_ rfl rfl (one_of HT_.out (by kernel_rfl)) (by decide) (fun K hK=>?_);refine goes_ Try.func219 (by kernel_rfl) rfl #[.slice A104_0 (rd_L15 (rd_L16 l0 x27_2) x34_3).length c104_0] (by rfl) rfl rfl (q9_) ?_
                       with_reducible refine (spec_spInverse.calls k3 _ _ (rd_L15 (rd_L16 l0 x27_2) x34_3) t108 _ ?side1 ?side2 A21.out).mono ?_
                       (case side1=>repeat (first | exact (Kd.C_below HR104_0.out (q8_)) | (with_reducible refine Kd.C_alloc ?_ _) | (with_reducible refine Kd.C_drewN ?_ _) | (with_reducible refine Kd.C_drew ?_)))
                       (case side2=>exact HC104_0.out)
                       rintro e w28 ⟨v109,rfl,ho0,hb⟩;refine ⟨_,rfl,?_⟩;have HO110:=Aside0.mk (Kd.R_lower ho0 (below_size (q8_)));replace HB:=bS_ HB hb
                       (try clear hb)
                       (try clear hb2)
                       (try clear hk)
                       (try clear hi)
                       (try clear ho0)
                       obtain ⟨Ao29,co29,eo29⟩:=Kd.R_slice HO110.out
                       (first | subst eo29 | (injection eo29 with f1_ f2_ f3_;have f4_:=f1_.symm;have f5_:=f3_.symm;clear f1_ f2_ f3_;subst f4_;subst f5_))
                       refine hK.out _ _ ⟨((HB.out.cell (World.block_lt_of_cell? w _ hw106_0)).trans hw106_0),((HB.out.cell (World.block_lt_of_cell? w _ hw107_0)).trans hw107_0)⟩ (fun hHeld=>?_);clear hK K;refine norm_ (a' := ?_) ?_ ?_;rotate_left
                       ·show Act.put _ (some 56) _ = _;simp only [Act.put,List.setIfInBounds_toArray,List.set_cons_zero,List.set_cons_succ,i64_w,i32_w];rfl
                       refine one_ (i:=18) (N:=some 57) f48_ rfl rfl (one_of HT_.out (by kernel_rfl)) (by decide) (fun K hK=>?_);refine goes_ Try.func218 (by kernel_rfl) rfl #[.slice A107_0 (rd_L15 (rd_L16 l0 x34_3) x27_2).length c107_0,.slice Ao29 t108.length co29] (by rfl) rfl rfl (q9_) ?_
                       with_reducible refine (spec_l1Same.calls k3 _ _ (rd_L15 (rd_L16 l0 x34_3) x27_2) _ _ t108 true _ ?side1 ?side2 ?side3 ?side4 A22.out).mono ?_
                       (case side1=>exact cX_ (Kd.C_below HR107_0.out HB.out))
                       (case side2=>exact HC107_0.out)
                       (case side3=>exact cX_ (Kd.R_reads' HO110.out).2.2)
                       (case side4=>exact (Kd.R_reads' HO110.out).2.1)
                       rintro e w' ⟨rfl,⟨nd,rfl⟩⟩;refine ⟨_,rfl,?_⟩;refine hK.out _ _ ⟨((HB.out.cell (World.block_lt_of_cell? w _ hw106_0)).trans hw106_0),((HB.out.cell (World.block_lt_of_cell? w _ hw107_0)).trans hw107_0)⟩ (fun hHeld=>?_);clear hK K;refine norm_ (a' := ?_) ?_ ?_;rotate_left
                       ·show Act.put _ (some 57) _ = _;simp only [Act.put,List.setIfInBounds_toArray,List.set_cons_zero,List.set_cons_succ,i64_w,i32_w];rfl
                       refine pa_ 19 58 f49_ ?_
                       refine pa_ 20 59 f50_ ?_
                       refine pa_ 21 60 f51_ ?_
                       refine pa_ 22 61 f52_ ?_
                       refine pa_ 23 62 f53_ ?_
                       refine pa_ 24 63 f54_ ?_
                       refine pa_ 25 64 f55_ ?_
                       refine pa_ 26 65 f56_ ?_
                       refine one_ (i:=27) (N:=some 66) f57_ rfl rfl (one_of HT_.out (by kernel_rfl)) (by decide) (fun K hK=>?_);refine Kd.R_lit_step (Kd.int .i64) _ 3 ?hg (N:=66) ?hd (xs:=([6] : List Int)) (inner:=[.int .i64 6]) (ok:=fun _=>True) (okp:=fun _=>True) ?hr ?hp (fun _ hk=>hk) trivial (Below.refl _ _) (Nat.le_refl _) (by simp) ?_;(case hd=>rfl);(case hg=>rfl);(case hr=>first | (go_simp;done) | (go_simp;rfl));(case hp=>exact (Reps.one (show Kd.M (Kd.int .i64) _ _ _ 6 [.int .i64 6] from rfl) (Reps.none _ _)));intro v113 w30 ho31 hb hg_ hnew_;clear hg_ hnew_
                       (first | rw [← Ny112.out] at ho31 | (simp only [Int.reduceToNat] at ho31;rw [← Ny112.out] at ho31))
                       have HO114:=Aside0.mk (Kd.R_lower (Kd.R_new' ho31 (Kd.R_lt (by (with_reducible repeat (first | apply Kd.R_alloc | apply Kd.R_drewN | apply Kd.R_drew));exact HO110.out))) (below_size (q8_)));replace HO110:=rE_ HO110 ho31 hb;replace HB:=bS_ HB hb;clear hb ho31;obtain ⟨Ao32,co32,eo32⟩:=Kd.R_slice HO114.out
                       (first | subst eo32 | (injection eo32 with f1_ f2_ f3_;have f4_:=f1_.symm;have f5_:=f3_.symm;clear f1_ f2_ f3_;subst f4_;subst f5_))
                       refine hK.out _ _ ⟨((HB.out.cell (World.block_lt_of_cell? w _ hw106_0)).trans hw106_0),((HB.out.cell (World.block_lt_of_cell? w _ hw107_0)).trans hw107_0)⟩ (fun hHeld=>?_);clear hK K;refine norm_ (a' := ?_) ?_ ?_;rotate_left
                       ·show Act.put _ (some 66) _ = _;simp only [Act.put,List.setIfInBounds_toArray,List.set_cons_zero,List.set_cons_succ,i64_w,i32_w];rfl
                       refine one_ (i:=28) (N:=some 67) f58_ rfl rfl (one_of HT_.out (by kernel_rfl)) (by decide) (fun K hK=>?_);refine goes_ Try.func218 (by kernel_rfl) rfl #[.slice A104_0 (rd_L15 (rd_L16 l0 x27_2) x34_3).length c104_0,.slice Ao32 y112.length co32] (by rfl) rfl rfl (q9_) ?_
                       with_reducible refine (spec_l1Same.calls k3 _ _ (rd_L15 (rd_L16 l0 x27_2) x34_3) _ _ y112 true _ ?side1 ?side2 ?side3 ?side4 A25.out).mono ?_
                       (case side1=>exact cX_ (Kd.C_below HR104_0.out HB.out))
                       (case side2=>exact HC104_0.out)
                       (case side3=>exact cX_ (Kd.R_reads' HO114.out).2.2)
                       (case side4=>exact (Kd.R_reads' HO114.out).2.1)
                       rintro e w' ⟨rfl,⟨nd,rfl⟩⟩;refine ⟨_,rfl,?_⟩;refine hK.out _ _ ⟨((HB.out.cell (World.block_lt_of_cell? w _ hw106_0)).trans hw106_0),((HB.out.cell (World.block_lt_of_cell? w _ hw107_0)).trans hw107_0)⟩ (fun hHeld=>?_);clear hK K;refine norm_ (a' := ?_) ?_ ?_;rotate_left
                       ·show Act.put _ (some 67) _ = _;simp only [Act.put,List.setIfInBounds_toArray,List.set_cons_zero,List.set_cons_succ,i64_w,i32_w];rfl
                       refine pa_ 29 68 f59_ ?_
                       refine pa_ 30 69 f60_ ?_
                       refine pa_ 31 70 f61_ ?_
                       refine done_ (done_of HT_.out (by kernel_rfl)) ?_;try go_wp2
                       go_roundg k3
                       case measure=>have:=HK1.out;have:=HK2.out;have:=HK3.out;omega
                       case rel=>exact ⟨(wrap64 (x34_3 + 1)),(q1_),H', ⟨by have:=HK1.out;have:=HK2.out;have:=HK3.out;omega⟩,⟨q8_⟩⟩
                      ·replace c26:=Bool.eq_false_iff.mpr c26;subst c26;have H1 : (some false) = some r:=by rw [if_neg (show ¬ (false = true) by decide)] at H;exact H
                       clear H;have H:=H1;clear H1;obtain rfl:=Option.some.inj H;have p104 : 0 ≤ (x34_3 : Int):=of_decide_eq_true (q2_);have q104 : x34_3 < ((rd_L16 l0 x27_2).length : Int):=of_decide_eq_true (q2_);obtain ⟨ad104,A104_0,c104_0,e104,hx104_0,hl104_0,hi104_0⟩:=at_L15 HR103_0.out x34_3 p104 q104;cases e104;replace hx104_0:=hB_ HB.out hx104_0;have HR104_0:=Aside0.mk hi104_0;have HC104_0:=Aside0.mk hl104_0;clear hi104_0 hl104_0;replace p104:=eq_true p104;replace q104:=eq_true q104;try go_wp2
                       replace HB:=Aside0.mk (below_drew1 HB.out);have p106 : 0 ≤ (x34_3 : Int):=of_decide_eq_true (q2_);have q106 : x34_3 < (l0.length : Int):=of_decide_eq_true (q2_);obtain ⟨ad106,A106_0,c106_0,e106,hx106_0,hl106_0,hi106_0⟩:=at_L16 HR0.out x34_3 p106 q106;have hw106_0:=hx106_0;obtain rfl : ad103 = ad106:=(by injection e106);replace hx106_0:=hB_ HB.out hx106_0;have HR106_0:=Aside0.mk hi106_0;have HC106_0:=Aside0.mk hl106_0;clear hi106_0 hl106_0;replace p106:=eq_true p106;replace q106:=eq_true q106;have p107 : 0 ≤ (x27_2 : Int):=of_decide_eq_true (q2_);have q107 : x27_2 < ((rd_L16 l0 x34_3).length : Int):=of_decide_eq_true (q2_);obtain ⟨ad107,A107_0,c107_0,e107,hx107_0,hl107_0,hi107_0⟩:=at_L15 HR106_0.out x27_2 p107 q107;have hw107_0:=hx107_0;cases e107;replace hx107_0:=hB_ HB.out hx107_0;have HR107_0:=Aside0.mk hi107_0;have HC107_0:=Aside0.mk hl107_0;clear hi107_0 hl107_0;replace p107:=eq_true p107;replace q107:=eq_true q107;refine start_ (n:=32) (S:=fun w' => w'.cell? (ad103.add (x34_3).toNat) = some (.slice (some ad107) (rd_L16 l0 x34_3).length c106_0) ∧ w'.cell? (ad107.add (x27_2).toNat) = some (.slice A107_0 (rd_L15 (rd_L16 l0 x34_3) x27_2).length c107_0)) (ds:=[]) f29_ (by kernel_rfl) rfl rfl ⟨((HB.out.cell (World.block_lt_of_cell? w _ hw106_0)).trans hw106_0),((HB.out.cell (World.block_lt_of_cell? w _ hw107_0)).trans hw107_0)⟩ (fun hHeld=>?_);refine with_tabW spec_spNetwork.tab15 spec_spNetwork.bits15 (fun HT_ HW_=>?_);generalize wr.drew = w33 at HB HR106_0 HR107_0 hx106_0 hx107_0 hHeld ⊢;refine pure_ (i:=0) (N:=some 39) (v:=?_) (a' := ?_) f30_ rfl rfl (any_of HT_.out (by kernel_rfl)) (fun _ _ _ h=>h) (Or.inl ⟨by rfl,?_⟩) ?_ ?_;rotate_left
                       ·intro w';go_simp;with_reducible rfl
                       rotate_left
                       ·exact q10_
                       refine pa_ 1 40 f31_ ?_
                       refine pa_ 2 41 f32_ ?_
                       refine pa_ 3 42 f33_ ?_
                       refine pa_ 4 43 f34_ ?_
                       refine one_ (i:=5) (N:=some 44) f35_ rfl rfl (one_of HT_.out (by kernel_rfl)) (by decide) (fun K hK=>?_);refine goes_ Try.func217 (by kernel_rfl) rfl #[.slice A104_0 (rd_L15 (rd_L16 l0 x27_2) x34_3).length c104_0] (by rfl) rfl rfl (q9_) ?_
                       with_reducible refine (spec_spSet.calls k3 _ _ (rd_L15 (rd_L16 l0 x27_2) x34_3) true _ ?side1 ?side2 A16.out).mono ?_
                       (case side1=>exact cX_ (Kd.C_below HR104_0.out HB.out))
                       (case side2=>exact HC104_0.out)
                       rintro e w' ⟨rfl,⟨nd,rfl⟩⟩;refine ⟨_,rfl,?_⟩;refine hK.out _ _ ⟨((HB.out.cell (World.block_lt_of_cell? w _ hw106_0)).trans hw106_0),((HB.out.cell (World.block_lt_of_cell? w _ hw107_0)).trans hw107_0)⟩ (fun hHeld=>?_);clear hK K;refine norm_ (a' := ?_) ?_ ?_;rotate_left
                       ·show Act.put _ (some 44) _ = _;simp only [Act.put,List.setIfInBounds_toArray,List.set_cons_zero,List.set_cons_succ,i64_w,i32_w];rfl
                       refine pa_ 6 45 f36_ ?_
                       refine pa_ 7 46 f37_ ?_
                       refine pa_ 8 47 f38_ ?_
                       refine pa_ 9 48 f39_ ?_
                       refine pa_ 10 49 f40_ ?_
                       refine pa_ 11 50 f41_ ?_
                       refine pa_ 13 52 f62_ ?_
                       refine pa_ 16 55 f63_ ?_
                       refine take_ (i:=12) (N:=some 51) (v:=?_) (a' := ?_) f64_ rfl rfl (take_ofW HT_.out HW_.out (by kernel_rfl)) (fun _ _ _ h=>h) (Or.inl ⟨by rfl,?_⟩) hHeld ?_ ?_;rotate_left
                       ·rintro w' ⟨s0,s1⟩;go_simp;with_reducible rfl
                       rotate_left
                       ·exact q10_
                       refine pa_ 14 53 f65_ ?_
                       refine take_ (i:=15) (N:=some 54) (v:=?_) (a' := ?_) f46_ rfl rfl (take_ofW HT_.out HW_.out (by kernel_rfl)) (fun _ _ _ h=>h) (Or.inl ⟨by rfl,?_⟩) hHeld ?_ ?_;rotate_left
                       ·rintro w' ⟨s0,s1⟩;go_simp;with_reducible rfl
                       rotate_left
                       ·exact q10_
                       refine one_ (i:=17) (N:=some 56) f47_ rfl rfl (one_of HT_.out (by kernel_rfl)) (by decide) (fun K hK=>?_);refine goes_ Try.func219 (by kernel_rfl) rfl #[.slice A104_0 (rd_L15 (rd_L16 l0 x27_2) x34_3).length c104_0] (by rfl) rfl rfl (q9_) ?_
                       with_reducible refine (spec_spInverse.calls k3 _ _ (rd_L15 (rd_L16 l0 x27_2) x34_3) t108 _ ?side1 ?side2 A21.out).mono ?_
                       (case side1=>repeat (first | exact (Kd.C_below HR104_0.out (q8_)) | (with_reducible refine Kd.C_alloc ?_ _) | (with_reducible refine Kd.C_drewN ?_ _) | (with_reducible refine Kd.C_drew ?_)))
                       (case side2=>exact HC104_0.out)
                       rintro e w34 ⟨v109,rfl,ho0,hb⟩;refine ⟨_,rfl,?_⟩;have HO110:=Aside0.mk (Kd.R_lower ho0 (below_size (q8_)));replace HB:=bS_ HB hb
                       (try clear hb)
                       (try clear hb2)
                       (try clear hk)
                       (try clear hi)
                       (try clear ho0)
                       obtain ⟨Ao35,co35,eo35⟩:=Kd.R_slice HO110.out
                       (first | subst eo35 | (injection eo35 with f1_ f2_ f3_;have f4_:=f1_.symm;have f5_:=f3_.symm;clear f1_ f2_ f3_;subst f4_;subst f5_))
                       refine hK.out _ _ ⟨((HB.out.cell (World.block_lt_of_cell? w _ hw106_0)).trans hw106_0),((HB.out.cell (World.block_lt_of_cell? w _ hw107_0)).trans hw107_0)⟩ (fun hHeld=>?_);clear hK K;refine norm_ (a' := ?_) ?_ ?_;rotate_left
                       ·show Act.put _ (some 56) _ = _;simp only [Act.put,List.setIfInBounds_toArray,List.set_cons_zero,List.set_cons_succ,i64_w,i32_w];rfl
                       refine one_ (i:=18) (N:=some 57) f48_ rfl rfl (one_of HT_.out (by kernel_rfl)) (by decide) (fun K hK=>?_);refine goes_ Try.func218 (by kernel_rfl) rfl #[.slice A107_0 (rd_L15 (rd_L16 l0 x34_3) x27_2).length c107_0,.slice Ao35 t108.length co35] (by rfl) rfl rfl (q9_) ?_
                       with_reducible refine (spec_l1Same.calls k3 _ _ (rd_L15 (rd_L16 l0 x34_3) x27_2) _ _ t108 true _ ?side1 ?side2 ?side3 ?side4 A22.out).mono ?_
                       (case side1=>exact cX_ (Kd.C_below HR107_0.out HB.out))
                       (case side2=>exact HC107_0.out)
                       (case side3=>exact cX_ (Kd.R_reads' HO110.out).2.2)
                       (case side4=>exact (Kd.R_reads' HO110.out).2.1)
                       rintro e w' ⟨rfl,⟨nd,rfl⟩⟩;refine ⟨_,rfl,?_⟩;refine hK.out _ _ ⟨((HB.out.cell (World.block_lt_of_cell? w _ hw106_0)).trans hw106_0),((HB.out.cell (World.block_lt_of_cell? w _ hw107_0)).trans hw107_0)⟩ (fun hHeld=>?_);clear hK K;refine norm_ (a' := ?_) ?_ ?_;rotate_left
                       ·show Act.put _ (some 57) _ = _;simp only [Act.put,List.setIfInBounds_toArray,List.set_cons_zero,List.set_cons_succ,i64_w,i32_w];rfl
                       refine pa_ 19 58 f49_ ?_
                       refine pa_ 20 59 f50_ ?_
                       refine pa_ 21 60 f51_ ?_
                       refine pa_ 22 61 f52_ ?_
                       refine pa_ 23 62 f53_ ?_
                       refine pa_ 24 63 f54_ ?_
                       refine pa_ 25 64 f55_ ?_
                       refine pa_ 26 65 f56_ ?_
                       refine one_ (i:=27) (N:=some 66) f57_ rfl rfl (one_of HT_.out (by kernel_rfl)) (by decide) (fun K hK=>?_);refine Kd.R_lit_step (Kd.int .i64) _ 3 ?hg (N:=66) ?hd (xs:=([6] : List Int)) (inner:=[.int .i64 6]) (ok:=fun _=>True) (okp:=fun _=>True) ?hr ?hp (fun _ hk=>hk) trivial (Below.refl _ _) (Nat.le_refl _) (by simp) ?_;(case hd=>rfl);(case hg=>rfl);(case hr=>first | (go_simp;done) | (go_simp;rfl));(case hp=>exact (Reps.one (show Kd.M (Kd.int .i64) _ _ _ 6 [.int .i64 6] from rfl) (Reps.none _ _)));intro v113 w36 ho37 hb hg_ hnew_;clear hg_ hnew_
                       (first | rw [← Ny112.out] at ho37 | (simp only [Int.reduceToNat] at ho37;rw [← Ny112.out] at ho37))
                       have HO114:=Aside0.mk (Kd.R_lower (Kd.R_new' ho37 (Kd.R_lt (by (with_reducible repeat (first | apply Kd.R_alloc | apply Kd.R_drewN | apply Kd.R_drew));exact HO110.out))) (below_size (q8_)));replace HO110:=rE_ HO110 ho37 hb;replace HB:=bS_ HB hb;clear hb ho37;obtain ⟨Ao38,co38,eo38⟩:=Kd.R_slice HO114.out
                       (first | subst eo38 | (injection eo38 with f1_ f2_ f3_;have f4_:=f1_.symm;have f5_:=f3_.symm;clear f1_ f2_ f3_;subst f4_;subst f5_))
                       refine hK.out _ _ ⟨((HB.out.cell (World.block_lt_of_cell? w _ hw106_0)).trans hw106_0),((HB.out.cell (World.block_lt_of_cell? w _ hw107_0)).trans hw107_0)⟩ (fun hHeld=>?_);clear hK K;refine norm_ (a' := ?_) ?_ ?_;rotate_left
                       ·show Act.put _ (some 66) _ = _;simp only [Act.put,List.setIfInBounds_toArray,List.set_cons_zero,List.set_cons_succ,i64_w,i32_w];rfl
                       refine one_ (i:=28) (N:=some 67) f58_ rfl rfl (one_of HT_.out (by kernel_rfl)) (by decide) (fun K hK=>?_);refine goes_ Try.func218 (by kernel_rfl) rfl #[.slice A104_0 (rd_L15 (rd_L16 l0 x27_2) x34_3).length c104_0,.slice Ao38 y112.length co38] (by rfl) rfl rfl (q9_) ?_
                       with_reducible refine (spec_l1Same.calls k3 _ _ (rd_L15 (rd_L16 l0 x27_2) x34_3) _ _ y112 false _ ?side1 ?side2 ?side3 ?side4 A25.out).mono ?_
                       (case side1=>exact cX_ (Kd.C_below HR104_0.out HB.out))
                       (case side2=>exact HC104_0.out)
                       (case side3=>exact cX_ (Kd.R_reads' HO114.out).2.2)
                       (case side4=>exact (Kd.R_reads' HO114.out).2.1)
                       rintro e w' ⟨rfl,⟨nd,rfl⟩⟩;refine ⟨_,rfl,?_⟩;refine hK.out _ _ ⟨((HB.out.cell (World.block_lt_of_cell? w _ hw106_0)).trans hw106_0),((HB.out.cell (World.block_lt_of_cell? w _ hw107_0)).trans hw107_0)⟩ (fun hHeld=>?_);clear hK K;refine norm_ (a' := ?_) ?_ ?_;rotate_left
                       ·show Act.put _ (some 67) _ = _;simp only [Act.put,List.setIfInBounds_toArray,List.set_cons_zero,List.set_cons_succ,i64_w,i32_w];rfl
                       refine pa_ 29 68 f59_ ?_
                       refine pa_ 30 69 f60_ ?_
                       refine pa_ 31 70 f61_ ?_
                       refine done_ (done_of HT_.out (by kernel_rfl)) ?_;try go_wp2
                       go_ret;exact ⟨q4_,q8_⟩
                     ·rw [if_neg c24] at H;have c24b0 : (x27_2 == x34_3) = false:=beq_eq_false_iff_ne.mpr c24;have c24b1 : (x27_2 != x34_3) = true:=bne_iff_ne.mpr c24;have H' := Aside0.mk H;clear H;have p104 : 0 ≤ (x34_3 : Int):=of_decide_eq_true (q2_);have q104 : x34_3 < ((rd_L16 l0 x27_2).length : Int):=of_decide_eq_true (q2_);obtain ⟨ad104,A104_0,c104_0,e104,hx104_0,hl104_0,hi104_0⟩:=at_L15 HR103_0.out x34_3 p104 q104;cases e104;replace hx104_0:=hB_ HB.out hx104_0;have HR104_0:=Aside0.mk hi104_0;have HC104_0:=Aside0.mk hl104_0;clear hi104_0 hl104_0;replace p104:=eq_true p104;replace q104:=eq_true q104;try go_wp2
                      replace HB:=Aside0.mk (below_drew1 HB.out);have p106 : 0 ≤ (x34_3 : Int):=of_decide_eq_true (q2_);have q106 : x34_3 < (l0.length : Int):=of_decide_eq_true (q2_);obtain ⟨ad106,A106_0,c106_0,e106,hx106_0,hl106_0,hi106_0⟩:=at_L16 HR0.out x34_3 p106 q106;have hw106_0:=hx106_0;obtain rfl : ad103 = ad106:=(by injection e106);replace hx106_0:=hB_ HB.out hx106_0;have HR106_0:=Aside0.mk hi106_0;have HC106_0:=Aside0.mk hl106_0;clear hi106_0 hl106_0;replace p106:=eq_true p106;replace q106:=eq_true q106;have p107 : 0 ≤ (x27_2 : Int):=of_decide_eq_true (q2_);have q107 : x27_2 < ((rd_L16 l0 x34_3).length : Int):=of_decide_eq_true (q2_);obtain ⟨ad107,A107_0,c107_0,e107,hx107_0,hl107_0,hi107_0⟩:=at_L15 HR106_0.out x27_2 p107 q107;have hw107_0:=hx107_0;cases e107;replace hx107_0:=hB_ HB.out hx107_0;have HR107_0:=Aside0.mk hi107_0;have HC107_0:=Aside0.mk hl107_0;clear hi107_0 hl107_0;replace p107:=eq_true p107;replace q107:=eq_true q107;refine start_ (n:=32) (S:=fun w' => w'.cell? (ad103.add (x34_3).toNat) = some (.slice (some ad107) (rd_L16 l0 x34_3).length c106_0) ∧ w'.cell? (ad107.add (x27_2).toNat) = some (.slice A107_0 (rd_L15 (rd_L16 l0 x34_3) x27_2).length c107_0)) (ds:=[]) f29_ (by kernel_rfl) rfl rfl ⟨((HB.out.cell (World.block_lt_of_cell? w _ hw106_0)).trans hw106_0),((HB.out.cell (World.block_lt_of_cell? w _ hw107_0)).trans hw107_0)⟩ (fun hHeld=>?_);refine with_tabW spec_spNetwork.tab15 spec_spNetwork.bits15 (fun HT_ HW_=>?_);generalize wr.drew = w39 at HB HR106_0 HR107_0 hx106_0 hx107_0 hHeld ⊢;refine pure_ (i:=0) (N:=some 39) (v:=?_) (a' := ?_) f30_ rfl rfl (any_of HT_.out (by kernel_rfl)) (fun _ _ _ h=>h) (Or.inl ⟨by rfl,?_⟩) ?_ ?_;rotate_left
                      ·intro w';go_simp;with_reducible rfl
                      rotate_left
                      ·exact q10_
                      refine pa_ 1 40 f31_ ?_
                      refine pa_ 2 41 f32_ ?_
                      refine pa_ 3 42 f33_ ?_
                      refine pa_ 4 43 f34_ ?_
                      refine one_ (i:=5) (N:=some 44) f35_ rfl rfl (one_of HT_.out (by kernel_rfl)) (by decide) (fun K hK=>?_);refine goes_ Try.func217 (by kernel_rfl) rfl #[.slice A104_0 (rd_L15 (rd_L16 l0 x27_2) x34_3).length c104_0] (by rfl) rfl rfl (q9_) ?_
                      with_reducible refine (spec_spSet.calls k3 _ _ (rd_L15 (rd_L16 l0 x27_2) x34_3) true _ ?side1 ?side2 A16.out).mono ?_
                      (case side1=>exact cX_ (Kd.C_below HR104_0.out HB.out))
                      (case side2=>exact HC104_0.out)
                      rintro e w' ⟨rfl,⟨nd,rfl⟩⟩;refine ⟨_,rfl,?_⟩;refine hK.out _ _ ⟨((HB.out.cell (World.block_lt_of_cell? w _ hw106_0)).trans hw106_0),((HB.out.cell (World.block_lt_of_cell? w _ hw107_0)).trans hw107_0)⟩ (fun hHeld=>?_);clear hK K;refine norm_ (a' := ?_) ?_ ?_;rotate_left
                      ·show Act.put _ (some 44) _ = _;simp only [Act.put,List.setIfInBounds_toArray,List.set_cons_zero,List.set_cons_succ,i64_w,i32_w];rfl
                      refine pa_ 6 45 f36_ ?_
                      refine pa_ 7 46 f37_ ?_
                      refine pa_ 8 47 f38_ ?_
                      refine pa_ 9 48 f39_ ?_
                      refine pa_ 10 49 f40_ ?_
                      refine pa_ 11 50 f41_ ?_
                      refine pa_ 13 52 f62_ ?_
                      refine pa_ 16 55 f63_ ?_
                      refine take_ (i:=12) (N:=some 51) (v:=?_) (a' := ?_) f64_ rfl rfl (take_ofW HT_.out HW_.out (by kernel_rfl)) (fun _ _ _ h=>h) (Or.inl ⟨by rfl,?_⟩) hHeld ?_ ?_;rotate_left
                      ·rintro w' ⟨s0,s1⟩;go_simp;with_reducible rfl
                      rotate_left
                      ·exact q10_
                      refine pa_ 14 53 f65_ ?_
                      refine take_ (i:=15) (N:=some 54) (v:=?_) (a' := ?_) f46_ rfl rfl (take_ofW HT_.out HW_.out (by kernel_rfl)) (fun _ _ _ h=>h) (Or.inl ⟨by rfl,?_⟩) hHeld ?_ ?_;rotate_left
                      ·rintro w' ⟨s0,s1⟩;go_simp;with_reducible rfl
                      rotate_left
                      ·exact q10_
                      refine one_ (i:=17) (N:=some 56) f47_ rfl rfl (one_of HT_.out (by kernel_rfl)) (by decide) (fun K hK=>?_);refine goes_ Try.func219 (by kernel_rfl) rfl #[.slice A104_0 (rd_L15 (rd_L16 l0 x27_2) x34_3).length c104_0] (by rfl) rfl rfl (q9_) ?_
                      with_reducible refine (spec_spInverse.calls k3 _ _ (rd_L15 (rd_L16 l0 x27_2) x34_3) t108 _ ?side1 ?side2 A21.out).mono ?_
                      (case side1=>repeat (first | exact (Kd.C_below HR104_0.out (q8_)) | (with_reducible refine Kd.C_alloc ?_ _) | (with_reducible refine Kd.C_drewN ?_ _) | (with_reducible refine Kd.C_drew ?_)))
                      (case side2=>exact HC104_0.out)
                      rintro e w40 ⟨v109,rfl,ho0,hb⟩;refine ⟨_,rfl,?_⟩;have HO110:=Aside0.mk (Kd.R_lower ho0 (below_size (q8_)));replace HB:=bS_ HB hb
                      (try clear hb)
                      (try clear hb2)
                      (try clear hk)
                      (try clear hi)
                      (try clear ho0)
                      obtain ⟨Ao41,co41,eo41⟩:=Kd.R_slice HO110.out
                      (first | subst eo41 | (injection eo41 with f1_ f2_ f3_;have f4_:=f1_.symm;have f5_:=f3_.symm;clear f1_ f2_ f3_;subst f4_;subst f5_))
                      refine hK.out _ _ ⟨((HB.out.cell (World.block_lt_of_cell? w _ hw106_0)).trans hw106_0),((HB.out.cell (World.block_lt_of_cell? w _ hw107_0)).trans hw107_0)⟩ (fun hHeld=>?_);clear hK K;refine norm_ (a' := ?_) ?_ ?_;rotate_left
                      ·show Act.put _ (some 56) _ = _;simp only [Act.put,List.setIfInBounds_toArray,List.set_cons_zero,List.set_cons_succ,i64_w,i32_w];rfl
                      refine one_ (i:=18) (N:=some 57) f48_ rfl rfl (one_of HT_.out (by kernel_rfl)) (by decide) (fun K hK=>?_);refine goes_ Try.func218 (by kernel_rfl) rfl #[.slice A107_0 (rd_L15 (rd_L16 l0 x34_3) x27_2).length c107_0,.slice Ao41 t108.length co41] (by rfl) rfl rfl (q9_) ?_
                      with_reducible refine (spec_l1Same.calls k3 _ _ (rd_L15 (rd_L16 l0 x34_3) x27_2) _ _ t108 true _ ?side1 ?side2 ?side3 ?side4 A22.out).mono ?_
                      (case side1=>exact cX_ (Kd.C_below HR107_0.out HB.out))
                      (case side2=>exact HC107_0.out)
                      (case side3=>exact cX_ (Kd.R_reads' HO110.out).2.2)
                      (case side4=>exact (Kd.R_reads' HO110.out).2.1)
                      rintro e w' ⟨rfl,⟨nd,rfl⟩⟩;refine ⟨_,rfl,?_⟩;refine hK.out _ _ ⟨((HB.out.cell (World.block_lt_of_cell? w _ hw106_0)).trans hw106_0),((HB.out.cell (World.block_lt_of_cell? w _ hw107_0)).trans hw107_0)⟩ (fun hHeld=>?_);clear hK K;refine norm_ (a' := ?_) ?_ ?_;rotate_left
                      ·show Act.put _ (some 57) _ = _;simp only [Act.put,List.setIfInBounds_toArray,List.set_cons_zero,List.set_cons_succ,i64_w,i32_w];rfl
                      refine pa_ 19 58 f49_ ?_
                      refine pa_ 20 59 f50_ ?_
                      refine pa_ 21 60 f51_ ?_
                      refine pa_ 22 61 f52_ ?_
                      refine pa_ 23 62 f53_ ?_
                      refine pa_ 24 63 f54_ ?_
                      refine pa_ 25 64 f55_ ?_
                      refine pu_ 26 65 f56_ ?_
                      refine pu_ 27 66 f57_ ?_
                      refine pu_ 28 67 f58_ ?_
                      refine pu_ 29 68 f59_ ?_
                      refine pa_ 30 69 f60_ ?_
                      refine pa_ 31 70 f61_ ?_
                      refine done_ (done_of HT_.out (by kernel_rfl)) ?_;try go_wp2
                      go_roundg k3
                      case measure=>have:=HK1.out;have:=HK2.out;have:=HK3.out;omega
                      case rel=>exact ⟨(wrap64 (x34_3 + 1)),(q1_),H', ⟨by have:=HK1.out;have:=HK2.out;have:=HK3.out;omega⟩,⟨q8_⟩⟩
                    ·replace c23:=Bool.eq_false_iff.mpr c23;subst c23;have H1 : (some false) = some r:=by rw [if_neg (show ¬ (false = true) by decide)] at H;exact H
                     clear H;have H:=H1;clear H1;obtain rfl:=Option.some.inj H;have p104 : 0 ≤ (x34_3 : Int):=of_decide_eq_true (q2_);have q104 : x34_3 < ((rd_L16 l0 x27_2).length : Int):=of_decide_eq_true (q2_);obtain ⟨ad104,A104_0,c104_0,e104,hx104_0,hl104_0,hi104_0⟩:=at_L15 HR103_0.out x34_3 p104 q104;cases e104;replace hx104_0:=hB_ HB.out hx104_0;have HR104_0:=Aside0.mk hi104_0;have HC104_0:=Aside0.mk hl104_0;clear hi104_0 hl104_0;replace p104:=eq_true p104;replace q104:=eq_true q104;try go_wp2
                     replace HB:=Aside0.mk (below_drew1 HB.out);have p106 : 0 ≤ (x34_3 : Int):=of_decide_eq_true (q2_);have q106 : x34_3 < (l0.length : Int):=of_decide_eq_true (q2_);obtain ⟨ad106,A106_0,c106_0,e106,hx106_0,hl106_0,hi106_0⟩:=at_L16 HR0.out x34_3 p106 q106;have hw106_0:=hx106_0;obtain rfl : ad103 = ad106:=(by injection e106);replace hx106_0:=hB_ HB.out hx106_0;have HR106_0:=Aside0.mk hi106_0;have HC106_0:=Aside0.mk hl106_0;clear hi106_0 hl106_0;replace p106:=eq_true p106;replace q106:=eq_true q106;have p107 : 0 ≤ (x27_2 : Int):=of_decide_eq_true (q2_);have q107 : x27_2 < ((rd_L16 l0 x34_3).length : Int):=of_decide_eq_true (q2_);obtain ⟨ad107,A107_0,c107_0,e107,hx107_0,hl107_0,hi107_0⟩:=at_L15 HR106_0.out x27_2 p107 q107;have hw107_0:=hx107_0;cases e107;replace hx107_0:=hB_ HB.out hx107_0;have HR107_0:=Aside0.mk hi107_0;have HC107_0:=Aside0.mk hl107_0;clear hi107_0 hl107_0;replace p107:=eq_true p107;replace q107:=eq_true q107;refine start_ (n:=32) (S:=fun w' => w'.cell? (ad103.add (x34_3).toNat) = some (.slice (some ad107) (rd_L16 l0 x34_3).length c106_0) ∧ w'.cell? (ad107.add (x27_2).toNat) = some (.slice A107_0 (rd_L15 (rd_L16 l0 x34_3) x27_2).length c107_0)) (ds:=[]) f29_ (by kernel_rfl) rfl rfl ⟨((HB.out.cell (World.block_lt_of_cell? w _ hw106_0)).trans hw106_0),((HB.out.cell (World.block_lt_of_cell? w _ hw107_0)).trans hw107_0)⟩ (fun hHeld=>?_);refine with_tabW spec_spNetwork.tab15 spec_spNetwork.bits15 (fun HT_ HW_=>?_);generalize wr.drew = w42 at HB HR106_0 HR107_0 hx106_0 hx107_0 hHeld ⊢;refine pure_ (i:=0) (N:=some 39) (v:=?_) (a' := ?_) f30_ rfl rfl (any_of HT_.out (by kernel_rfl)) (fun _ _ _ h=>h) (Or.inl ⟨by rfl,?_⟩) ?_ ?_;rotate_left
                     ·intro w';go_simp;with_reducible rfl
                     rotate_left
                     ·exact q10_
                     refine pa_ 1 40 f31_ ?_
                     refine pa_ 2 41 f32_ ?_
                     refine pa_ 3 42 f33_ ?_
                     refine pa_ 4 43 f34_ ?_
                     refine one_ (i:=5) (N:=some 44) f35_ rfl rfl (one_of HT_.out (by kernel_rfl)) (by decide) (fun K hK=>?_);refine goes_ Try.func217 (by kernel_rfl) rfl #[.slice A104_0 (rd_L15 (rd_L16 l0 x27_2) x34_3).length c104_0] (by rfl) rfl rfl (q9_) ?_
                     with_reducible refine (spec_spSet.calls k3 _ _ (rd_L15 (rd_L16 l0 x27_2) x34_3) true _ ?side1 ?side2 A16.out).mono ?_
                     (case side1=>exact cX_ (Kd.C_below HR104_0.out HB.out))
                     (case side2=>exact HC104_0.out)
                     rintro e w' ⟨rfl,⟨nd,rfl⟩⟩;refine ⟨_,rfl,?_⟩;refine hK.out _ _ ⟨((HB.out.cell (World.block_lt_of_cell? w _ hw106_0)).trans hw106_0),((HB.out.cell (World.block_lt_of_cell? w _ hw107_0)).trans hw107_0)⟩ (fun hHeld=>?_);clear hK K;refine norm_ (a' := ?_) ?_ ?_;rotate_left
                     ·show Act.put _ (some 44) _ = _;simp only [Act.put,List.setIfInBounds_toArray,List.set_cons_zero,List.set_cons_succ,i64_w,i32_w];rfl
                     refine pa_ 6 45 f36_ ?_
                     refine pa_ 7 46 f37_ ?_
                     refine pa_ 8 47 f38_ ?_
                     refine pa_ 9 48 f39_ ?_
                     refine pa_ 10 49 f40_ ?_
                     refine pa_ 11 50 f41_ ?_
                     refine pa_ 13 52 f62_ ?_
                     refine pa_ 16 55 f63_ ?_
                     refine take_ (i:=12) (N:=some 51) (v:=?_) (a' := ?_) f64_ rfl rfl (take_ofW HT_.out HW_.out (by kernel_rfl)) (fun _ _ _ h=>h) (Or.inl ⟨by rfl,?_⟩) hHeld ?_ ?_;rotate_left
                     ·rintro w' ⟨s0,s1⟩;go_simp;with_reducible rfl
                     rotate_left
                     ·exact q10_
                     refine pa_ 14 53 f65_ ?_
                     refine take_ (i:=15) (N:=some 54) (v:=?_) (a' := ?_) f46_ rfl rfl (take_ofW HT_.out HW_.out (by kernel_rfl)) (fun _ _ _ h=>h) (Or.inl ⟨by rfl,?_⟩) hHeld ?_ ?_;rotate_left
                     ·rintro w' ⟨s0,s1⟩;go_simp;with_reducible rfl
                     rotate_left
                     ·exact q10_
                     refine one_ (i:=17) (N:=some 56) f47_ rfl rfl (one_of HT_.out (by kernel_rfl)) (by decide) (fun K hK=>?_);refine goes_ Try.func219 (by kernel_rfl) rfl #[.slice A104_0 (rd_L15 (rd_L16 l0 x27_2) x34_3).length c104_0] (by rfl) rfl rfl (q9_) ?_
                     with_reducible refine (spec_spInverse.calls k3 _ _ (rd_L15 (rd_L16 l0 x27_2) x34_3) t108 _ ?side1 ?side2 A21.out).mono ?_
                     (case side1=>repeat (first | exact (Kd.C_below HR104_0.out (q8_)) | (with_reducible refine Kd.C_alloc ?_ _) | (with_reducible refine Kd.C_drewN ?_ _) | (with_reducible refine Kd.C_drew ?_)))
                     (case side2=>exact HC104_0.out)
                     rintro e w43 ⟨v109,rfl,ho0,hb⟩;refine ⟨_,rfl,?_⟩;have HO110:=Aside0.mk (Kd.R_lower ho0 (below_size (q8_)));replace HB:=bS_ HB hb
                     (try clear hb)
                     (try clear hb2)
                     (try clear hk)
                     (try clear hi)
                     (try clear ho0)
                     obtain ⟨Ao44,co44,eo44⟩:=Kd.R_slice HO110.out
                     (first | subst eo44 | (injection eo44 with f1_ f2_ f3_;have f4_:=f1_.symm;have f5_:=f3_.symm;clear f1_ f2_ f3_;subst f4_;subst f5_))
                     refine hK.out _ _ ⟨((HB.out.cell (World.block_lt_of_cell? w _ hw106_0)).trans hw106_0),((HB.out.cell (World.block_lt_of_cell? w _ hw107_0)).trans hw107_0)⟩ (fun hHeld=>?_);clear hK K;refine norm_ (a' := ?_) ?_ ?_;rotate_left
                     ·show Act.put _ (some 56) _ = _;simp only [Act.put,List.setIfInBounds_toArray,List.set_cons_zero,List.set_cons_succ,i64_w,i32_w];rfl
                     refine one_ (i:=18) (N:=some 57) f48_ rfl rfl (one_of HT_.out (by kernel_rfl)) (by decide) (fun K hK=>?_);refine goes_ Try.func218 (by kernel_rfl) rfl #[.slice A107_0 (rd_L15 (rd_L16 l0 x34_3) x27_2).length c107_0,.slice Ao44 t108.length co44] (by rfl) rfl rfl (q9_) ?_
                     with_reducible refine (spec_l1Same.calls k3 _ _ (rd_L15 (rd_L16 l0 x34_3) x27_2) _ _ t108 false _ ?side1 ?side2 ?side3 ?side4 A22.out).mono ?_
                     (case side1=>exact cX_ (Kd.C_below HR107_0.out HB.out))
                     (case side2=>exact HC107_0.out)
                     (case side3=>exact cX_ (Kd.R_reads' HO110.out).2.2)
                     (case side4=>exact (Kd.R_reads' HO110.out).2.1)
                     rintro e w' ⟨rfl,⟨nd,rfl⟩⟩;refine ⟨_,rfl,?_⟩;refine hK.out _ _ ⟨((HB.out.cell (World.block_lt_of_cell? w _ hw106_0)).trans hw106_0),((HB.out.cell (World.block_lt_of_cell? w _ hw107_0)).trans hw107_0)⟩ (fun hHeld=>?_);clear hK K;refine norm_ (a' := ?_) ?_ ?_;rotate_left
                     ·show Act.put _ (some 57) _ = _;simp only [Act.put,List.setIfInBounds_toArray,List.set_cons_zero,List.set_cons_succ,i64_w,i32_w];rfl
                     refine pa_ 19 58 f49_ ?_
                     refine pa_ 20 59 f50_ ?_
                     refine pa_ 21 60 f51_ ?_
                     refine pu_ 22 61 f52_ ?_
                     refine pu_ 23 62 f53_ ?_
                     refine pu_ 24 63 f54_ ?_
                     refine pu_ 25 64 f55_ ?_
                     refine pu_ 26 65 f56_ ?_
                     refine pu_ 27 66 f57_ ?_
                     refine pu_ 28 67 f58_ ?_
                     refine pu_ 29 68 f59_ ?_
                     refine pu_ 30 69 f60_ ?_
                     refine pa_ 31 70 f61_ ?_
                     refine done_ (done_of HT_.out (by kernel_rfl)) ?_;try go_wp2
                     go_ret;exact ⟨q4_,q8_⟩
                   ·rw [if_neg c20] at H;exact absurd H (by simp)
                  ·rw [if_neg c19] at H;exact absurd H (by simp)
                 ·rw [if_neg c18] at H;exact absurd H (by simp)
                ·replace c17:=Bool.eq_false_iff.mpr c17;subst c17;have H1 : (some false) = some r:=by rw [if_neg (show ¬ (false = true) by decide)] at H;exact H
                 clear H;have H:=H1;clear H1;obtain rfl:=Option.some.inj H;have p104 : 0 ≤ (x34_3 : Int):=of_decide_eq_true (q2_);have q104 : x34_3 < ((rd_L16 l0 x27_2).length : Int):=of_decide_eq_true (q2_);obtain ⟨ad104,A104_0,c104_0,e104,hx104_0,hl104_0,hi104_0⟩:=at_L15 HR103_0.out x34_3 p104 q104;cases e104;replace hx104_0:=hB_ HB.out hx104_0;have HR104_0:=Aside0.mk hi104_0;have HC104_0:=Aside0.mk hl104_0;clear hi104_0 hl104_0;replace p104:=eq_true p104;replace q104:=eq_true q104;try go_wp2
                 replace HB:=Aside0.mk (below_drew1 HB.out);refine start_ (n:=32) (S:=fun w' => True) (ds:=[]) f29_ (by kernel_rfl) rfl rfl trivial (fun hHeld=>?_);refine with_tabW spec_spNetwork.tab15 spec_spNetwork.bits15 (fun HT_ HW_=>?_);generalize wr.drew = w45 at HB hHeld ⊢;refine pure_ (i:=0) (N:=some 39) (v:=?_) (a' := ?_) f30_ rfl rfl (any_of HT_.out (by kernel_rfl)) (fun _ _ _ h=>h) (Or.inl ⟨by rfl,?_⟩) ?_ ?_;rotate_left
                 ·intro w';go_simp;with_reducible rfl
                 rotate_left
                 ·exact q10_
                 refine pa_ 1 40 f31_ ?_
                 refine pa_ 2 41 f32_ ?_
                 refine pa_ 3 42 f33_ ?_
                 refine pa_ 4 43 f34_ ?_
                 refine one_ (i:=5) (N:=some 44) f35_ rfl rfl (one_of HT_.out (by kernel_rfl)) (by decide) (fun K hK=>?_);refine goes_ Try.func217 (by kernel_rfl) rfl #[.slice A104_0 (rd_L15 (rd_L16 l0 x27_2) x34_3).length c104_0] (by rfl) rfl rfl (q9_) ?_
                 with_reducible refine (spec_spSet.calls k3 _ _ (rd_L15 (rd_L16 l0 x27_2) x34_3) false _ ?side1 ?side2 A16.out).mono ?_
                 (case side1=>exact cX_ (Kd.C_below HR104_0.out HB.out))
                 (case side2=>exact HC104_0.out)
                 rintro e w' ⟨rfl,⟨nd,rfl⟩⟩;refine ⟨_,rfl,?_⟩;refine hK.out _ _ trivial (fun hHeld=>?_);clear hK K;refine norm_ (a' := ?_) ?_ ?_;rotate_left
                 ·show Act.put _ (some 44) _ = _;simp only [Act.put,List.setIfInBounds_toArray,List.set_cons_zero,List.set_cons_succ,i64_w,i32_w];rfl
                 refine pa_ 6 45 f36_ ?_
                 refine pa_ 7 46 f37_ ?_
                 refine pa_ 8 47 f38_ ?_
                 refine pu_ 9 48 f39_ ?_
                 refine pu_ 10 49 f40_ ?_
                 refine pu_ 11 50 f41_ ?_
                 refine pu_ 12 51 f42_ ?_
                 refine pu_ 13 52 f43_ ?_
                 refine pu_ 14 53 f44_ ?_
                 refine pu_ 15 54 f45_ ?_
                 refine pu_ 16 55 f46_ ?_
                 refine pu_ 17 56 f47_ ?_
                 refine pu_ 18 57 f48_ ?_
                 refine pu_ 19 58 f49_ ?_
                 refine pa_ 20 59 f50_ ?_
                 refine pa_ 21 60 f51_ ?_
                 refine pu_ 22 61 f52_ ?_
                 refine pu_ 23 62 f53_ ?_
                 refine pu_ 24 63 f54_ ?_
                 refine pu_ 25 64 f55_ ?_
                 refine pu_ 26 65 f56_ ?_
                 refine pu_ 27 66 f57_ ?_
                 refine pu_ 28 67 f58_ ?_
                 refine pu_ 29 68 f59_ ?_
                 refine pu_ 30 69 f60_ ?_
                 refine pa_ 31 70 f61_ ?_
                 refine done_ (done_of HT_.out (by kernel_rfl)) ?_;try go_wp2
                 go_ret;exact ⟨q4_,q8_⟩
              ·rw [if_neg c13] at H;exact absurd H (by simp)
             ·rw [if_neg c12] at H;exact absurd H (by simp)
            ·rw [if_neg c11] at H;have c11b0 : decide (x34_3 < ((rd_L16 l0 x27_2).length : Int)) = false:=decide_eq_false c11;clear c11;have H' := Aside0.mk H;clear H;go_wp2;go_roundg k3
             case measure=>have:=HK1.out;have:=HK2.out;have:=HK3.out;omega
             case rel=>exact ⟨(wrap64 (x27_2 + 1)),(q1_),H', ⟨by have:=HK1.out;have:=HK2.out;have:=HK3.out;omega⟩,⟨q8_⟩⟩
         ·rw [if_neg c10] at H;exact absurd H (by simp)
        ·rw [if_neg c9] at H;exact absurd H (by simp)
       ·rw [if_neg c8] at H;have c8b0 : decide (x27_2 < (l0.length : Int)) = false:=decide_eq_false c8;clear c8;obtain rfl:=Option.some.inj H;go_wp2;go_ret;exact ⟨q4_,q8_⟩
 ·replace c3:=Bool.eq_false_iff.mpr c3;subst c3;have H1 : (some false) = some r:=by rw [if_neg (show ¬ (false = true) by decide)] at H;exact H
  clear H;have H:=H1;clear H1;obtain rfl:=Option.some.inj H;go_enter Try.func130,Try.ntmps130
  go_wp2_with (first | ((with_reducible refine gate_callee (f:=146) rfl ?_);refine goesL_ (some 11) rfl rfl Try.func146 (by kernel_rfl) rfl #[.int .i64 (l0.length : Int),.int .i64 1,.int .i64 6] rfl (q9_) ?_;(with_reducible refine (spec_l1In.calls (l0.length : Int) 1 6 false _ A2.out).mono ?_);rintro e w' ⟨rfl,⟨nd,rfl⟩⟩;refine ⟨_,rfl,?_⟩))
  go_ret;exact ⟨q4_,q8_⟩
end Go.Proofs.Ytgapcmmhbegdeaa.G
