-- Written by this session's own program over the kit's print (wip/tools/myprint.py); Lean checks it.
import Derived.Test.YtgapcmmhbegdeaaMBase
import Derived.Test.YtgapcmmhbegdeaaG0
import Derived.Test.YtgapcmmhbegdeaaG1
import Derived.Test.YtgapcmmhbegdeaaG63
import Derived.Test.YtgapcmmhbegdeaaG64
import Derived.Test.YtgapcmmhbegdeaaG65
namespace Go.Proofs.Ytgapcmmhbegdeaa.G
open Go.RowKit Go.Proofs.YtgapcmmhbegdeaaW.PrintWords Go.Proofs.YtgapcmmhbegdeaaW.PrintLast Go.Proofs.YtgapcmmhbegdeaaW.PrintMore
attribute [local go_sem] max2_int min2_int max_two min_two max_three min_three max_four min_four str_geq str_gtr str_leq   -- for this text's walks alone
set_option linter.unusedVariables false
set_option linter.unusedSimpArgs false
/-! ### spec_RenamePerson: function 67 -/
mutual
def spec_RenamePerson.j0 : Nat → List (S77) → Int → Int → Int → Int → Bool → Option ((List (S77)) × Bool)
 | 0,_,_,_,_,_,_=>none
 | k + 1,x0,x1,x2,x3,x4,x48=>if x48 = true then (some (([] : List (S77)),false)) else (if 0 ≤ x1 then (if x1 < (x0.length : Int) then (if ((rd_T77 x0 x1).f1) = x2 then (spec_RenamePerson.j1 k x0 x1 x2 x3 x4 (((rd_T77 x0 x1).f2) == x3)) else (spec_RenamePerson.j1 k x0 x1 x2 x3 x4 false)) else (none)) else (none))
def spec_RenamePerson.j1 : Nat → List (S77) → Int → Int → Int → Int → Bool → Option ((List (S77)) × Bool)
 | 0,_,_,_,_,_,_=>none
 | k + 1,x0,x1,x2,x3,x4,x64=>if x64 = true then (some (([] : List (S77)),false)) else (spec_RenamePerson.l0 k x0 x1 x2 x3 x4 x0 (x0.length : Int) 0)
def spec_RenamePerson.l0 : Nat → List (S77) → Int → Int → Int → Int → List (S77) → Int → Int → Option ((List (S77)) × Bool)
 | 0,_,_,_,_,_,_,_,_=>none
 | k + 1,x0,x1,x2,x3,x4,x65,x66,x67=>if x67 < x66 then (if 0 ≤ x67 then (if x67 < (x65.length : Int) then (if ((rd_T77 x65 x67).f1) = x2 then (if ((rd_T77 x65 x67).f2) = x3 then (some (([] : List (S77)),false)) else (spec_RenamePerson.l0 k x0 x1 x2 x3 x4 x65 x66 (wrap64 (x67 + 1)))) else (spec_RenamePerson.l0 k x0 x1 x2 x3 x4 x65 x66 (wrap64 (x67 + 1)))) else (none)) else (none)) else ((spec_naWith.f x0 x1 x2 x3 x4).bind fun t111=>(some (t111,true)))
end
def spec_RenamePerson.f (k : Nat) (l0 : List (S77)) (a1 : Int) (a2 : Int) (a3 : Int) (a4 : Int) : Option ((List (S77)) × Bool):=(spec_naGood.f k l0).bind fun t101=>(if t101 = true then ((spec_l1In.f a1 0 (wrap64 ((l0.length : Int) - 1))).bind fun t102=>(if t102 = true then ((spec_naLetter.f a2).bind fun t103=>(if t103 = true then ((spec_naPlace.f a3).bind fun t104=>(if t104 = true then ((spec_naYear.f a4).bind fun t105=>(if t105 = true then (if 0 ≤ a1 then (if a1 < (l0.length : Int) then (spec_RenamePerson.j0 k l0 a1 a2 a3 a4 (decide (a4 < ((rd_T77 l0 a1).f3)))) else (none)) else (none)) else (spec_RenamePerson.j0 k l0 a1 a2 a3 a4 true))) else (spec_RenamePerson.j0 k l0 a1 a2 a3 a4 true))) else (spec_RenamePerson.j0 k l0 a1 a2 a3 a4 true))) else (spec_RenamePerson.j0 k l0 a1 a2 a3 a4 true))) else (spec_RenamePerson.j0 k l0 a1 a2 a3 a4 true))
set_option maxHeartbeats 8000000 in
set_option maxRecDepth 100000 in
theorem spec_RenamePerson.calls (k : Nat) (A0 : Option Addr) (c0 : Nat) (l0 : List (S77)) (a1 : Int) (a2 : Int) (a3 : Int) (a4 : Int) (r1 : List (S77)) (r2 : Bool) (w : World) (hr0 : Kd.C k77 w A0 l0.length l0) (hc0 : l0.length ≤ c0) (h : spec_RenamePerson.f k l0 a1 a2 a3 a4 = some (r1,r2)) :
  Calls Try.prog 67 #[.slice A0 l0.length c0,.int .i64 a1,.int .i64 a2,.int .i64 a3,.int .i64 a4] w fun e w' => ∃ v0_ : Value,e = .returned (.tuple #[v0_,.bool r2]) ∧ Kd.R k77 77 w' w.heap.size (fun _=>True) v0_ r1 ∧ Below w.heap.size w w' := by
 have hu77:=Try.underlying77;have HR0:=Aside0.mk hr0;have HC0:=Aside0.mk hc0;clear hr0 hc0;have HB:=Aside0.mk (Below.refl w.heap.size w);have H : ((spec_naGood.f k l0).bind fun t101=>(if t101 = true then ((spec_l1In.f a1 0 (wrap64 ((l0.length : Int) - 1))).bind fun t102=>(if t102 = true then ((spec_naLetter.f a2).bind fun t103=>(if t103 = true then ((spec_naPlace.f a3).bind fun t104=>(if t104 = true then ((spec_naYear.f a4).bind fun t105=>(if t105 = true then (if 0 ≤ a1 then (if a1 < (l0.length : Int) then (spec_RenamePerson.j0 k l0 a1 a2 a3 a4 (decide (a4 < ((rd_T77 l0 a1).f3)))) else (none)) else (none)) else (spec_RenamePerson.j0 k l0 a1 a2 a3 a4 true))) else (spec_RenamePerson.j0 k l0 a1 a2 a3 a4 true))) else (spec_RenamePerson.j0 k l0 a1 a2 a3 a4 true))) else (spec_RenamePerson.j0 k l0 a1 a2 a3 a4 true))) else (spec_RenamePerson.j0 k l0 a1 a2 a3 a4 true))) = some (r1,r2):=h;clear h;have HC6:=Aside0.mk H;clear H;go_enter Try.func67,Try.ntmps67
 go_upto_region 1 with (fail)
 go_cut [48] (fun v48 wc=>∃ (kq : Nat) (x48_5 : Bool),v48 = .bool x48_5 ∧ Aside0 (spec_RenamePerson.j0 kq l0 a1 a2 a3 a4 x48_5 = some (r1,r2)) ∧ Aside0 (kq ≤ k) ∧ Aside0 (Below w.heap.size w wc))
 case first =>
  have H:=HC6.out;clear HC6;replace H:=Option.bind_eq_some_iff.mp H;obtain ⟨t101,A70,H⟩:=H;(try dsimp only at H);have A7:=Aside0.mk A70;clear A70;by_cases c8 : t101 = true
  ·subst c8;have H1 : ((spec_l1In.f a1 0 (wrap64 ((l0.length : Int) - 1))).bind fun t102=>(if t102 = true then ((spec_naLetter.f a2).bind fun t103=>(if t103 = true then ((spec_naPlace.f a3).bind fun t104=>(if t104 = true then ((spec_naYear.f a4).bind fun t105=>(if t105 = true then (if 0 ≤ a1 then (if a1 < (l0.length : Int) then (spec_RenamePerson.j0 k l0 a1 a2 a3 a4 (decide (a4 < ((rd_T77 l0 a1).f3)))) else (none)) else (none)) else (spec_RenamePerson.j0 k l0 a1 a2 a3 a4 true))) else (spec_RenamePerson.j0 k l0 a1 a2 a3 a4 true))) else (spec_RenamePerson.j0 k l0 a1 a2 a3 a4 true))) else (spec_RenamePerson.j0 k l0 a1 a2 a3 a4 true))) = some (r1,r2):=by rw [if_pos rfl] at H;exact H
   clear H;have H:=H1;clear H1;replace H:=Option.bind_eq_some_iff.mp H;obtain ⟨t102,A90,H⟩:=H;(try dsimp only at H);have A9:=Aside0.mk A90;clear A90;by_cases c10 : t102 = true
   ·subst c10;have H1 : ((spec_naLetter.f a2).bind fun t103=>(if t103 = true then ((spec_naPlace.f a3).bind fun t104=>(if t104 = true then ((spec_naYear.f a4).bind fun t105=>(if t105 = true then (if 0 ≤ a1 then (if a1 < (l0.length : Int) then (spec_RenamePerson.j0 k l0 a1 a2 a3 a4 (decide (a4 < ((rd_T77 l0 a1).f3)))) else (none)) else (none)) else (spec_RenamePerson.j0 k l0 a1 a2 a3 a4 true))) else (spec_RenamePerson.j0 k l0 a1 a2 a3 a4 true))) else (spec_RenamePerson.j0 k l0 a1 a2 a3 a4 true))) = some (r1,r2):=by rw [if_pos rfl] at H;exact H
    clear H;have H:=H1;clear H1;replace H:=Option.bind_eq_some_iff.mp H;obtain ⟨t103,A110,H⟩:=H;(try dsimp only at H);have A11:=Aside0.mk A110;clear A110;by_cases c12 : t103 = true
    ·subst c12;have H1 : ((spec_naPlace.f a3).bind fun t104=>(if t104 = true then ((spec_naYear.f a4).bind fun t105=>(if t105 = true then (if 0 ≤ a1 then (if a1 < (l0.length : Int) then (spec_RenamePerson.j0 k l0 a1 a2 a3 a4 (decide (a4 < ((rd_T77 l0 a1).f3)))) else (none)) else (none)) else (spec_RenamePerson.j0 k l0 a1 a2 a3 a4 true))) else (spec_RenamePerson.j0 k l0 a1 a2 a3 a4 true))) = some (r1,r2):=by rw [if_pos rfl] at H;exact H
     clear H;have H:=H1;clear H1;replace H:=Option.bind_eq_some_iff.mp H;obtain ⟨t104,A130,H⟩:=H;(try dsimp only at H);have A13:=Aside0.mk A130;clear A130;by_cases c14 : t104 = true
     ·subst c14;have H1 : ((spec_naYear.f a4).bind fun t105=>(if t105 = true then (if 0 ≤ a1 then (if a1 < (l0.length : Int) then (spec_RenamePerson.j0 k l0 a1 a2 a3 a4 (decide (a4 < ((rd_T77 l0 a1).f3)))) else (none)) else (none)) else (spec_RenamePerson.j0 k l0 a1 a2 a3 a4 true))) = some (r1,r2):=by rw [if_pos rfl] at H;exact H
      clear H;have H:=H1;clear H1;replace H:=Option.bind_eq_some_iff.mp H;obtain ⟨t105,A150,H⟩:=H;(try dsimp only at H);have A15:=Aside0.mk A150;clear A150;by_cases c16 : t105 = true
      ·subst c16;have H1 : (if 0 ≤ a1 then (if a1 < (l0.length : Int) then (spec_RenamePerson.j0 k l0 a1 a2 a3 a4 (decide (a4 < ((rd_T77 l0 a1).f3)))) else (none)) else (none)) = some (r1,r2):=by rw [if_pos rfl] at H;exact H
       clear H;have H:=H1;clear H1;by_cases c17 : 0 ≤ a1
       ·rw [if_pos c17] at H;have c17b0 : decide (0 ≤ a1) = true:=decide_eq_true c17;clear c17
        (first | rw [c17b0] | (simp only [i64_w,i32_w];rw [c17b0]) | skip)
        by_cases c18 : a1 < (l0.length : Int)
        ·rw [if_pos c18] at H;have c18b0 : decide (a1 < (l0.length : Int)) = true:=decide_eq_true c18;clear c18;have H' := Aside0.mk H;clear H;go_wp2_with (first | ((with_reducible refine gate_callee (f:=162) rfl ?_);refine goesL_ (some 15) rfl rfl Try.func162 (by kernel_rfl) rfl #[.slice A0 l0.length c0] rfl (q22_) ?_;(with_reducible refine (spec_naGood.calls k _ _ l0 true _ ?side1 ?side2 A7.out).mono ?_);(case side1=>exact cX_ (Kd.C_below HR0.out HB.out));(case side2=>exact HC0.out);rintro e w19 ⟨rfl,hb⟩;refine ⟨_,rfl,?_⟩;replace HB:=bS_ HB hb;(try clear hb)) | (go_at_call 146;(with_reducible refine (spec_l1In.calls a1 0 (wrap64 ((l0.length : Int) - 1)) true _ A9.out).mono ?_);rintro e w' ⟨rfl,⟨nd,rfl⟩⟩) | (go_at_call 172;(with_reducible refine (spec_naLetter.calls a2 true _ A11.out).mono ?_);rintro e w' ⟨rfl,⟨nd,rfl⟩⟩) | (go_at_call 179;(with_reducible refine (spec_naPlace.calls a3 true _ A13.out).mono ?_);rintro e w' ⟨rfl,⟨nd,rfl⟩⟩) | (go_at_call 163;(with_reducible refine (spec_naYear.calls a4 true _ A15.out).mono ?_);rintro e w' ⟨rfl,⟨nd,rfl⟩⟩;have p106 : 0 ≤ (a1 : Int):=of_decide_eq_true (q2_);have q106 : a1 < (l0.length : Int):=of_decide_eq_true (q2_);obtain ⟨ad106,e106,hx106_0,hx106_1,hx106_2,hx106_3⟩:=at_T77 HR0.out a1 p106 q106;cases e106;replace hx106_0:=hB_ HB.out hx106_0;replace hx106_1:=hB_ HB.out hx106_1;replace hx106_2:=hB_ HB.out hx106_2;replace hx106_3:=hB_ HB.out hx106_3;replace p106:=eq_true p106;replace q106:=eq_true q106))
         go_meet
         case rel=>exact ⟨_,(decide (a4 < ((rd_T77 l0 a1).f3))),(q1_),H', ⟨by first | omega | exact Nat.le_refl _⟩,⟨q21_⟩⟩
        ·rw [if_neg c18] at H;exact absurd H (by simp)
       ·rw [if_neg c17] at H;exact absurd H (by simp)
      ·replace c16:=Bool.eq_false_iff.mpr c16;subst c16;have H1 : (spec_RenamePerson.j0 k l0 a1 a2 a3 a4 true) = some (r1,r2):=by rw [if_neg (show ¬ (false = true) by decide)] at H;exact H
       clear H;have H:=H1;clear H1;have H' := Aside0.mk H;clear H;go_wp2_with (first | ((with_reducible refine gate_callee (f:=162) rfl ?_);refine goesL_ (some 15) rfl rfl Try.func162 (by kernel_rfl) rfl #[.slice A0 l0.length c0] rfl (q22_) ?_;(with_reducible refine (spec_naGood.calls k _ _ l0 true _ ?side1 ?side2 A7.out).mono ?_);(case side1=>exact cX_ (Kd.C_below HR0.out HB.out));(case side2=>exact HC0.out);rintro e w20 ⟨rfl,hb⟩;refine ⟨_,rfl,?_⟩;replace HB:=bS_ HB hb;(try clear hb)) | (go_at_call 146;(with_reducible refine (spec_l1In.calls a1 0 (wrap64 ((l0.length : Int) - 1)) true _ A9.out).mono ?_);rintro e w' ⟨rfl,⟨nd,rfl⟩⟩) | (go_at_call 172;(with_reducible refine (spec_naLetter.calls a2 true _ A11.out).mono ?_);rintro e w' ⟨rfl,⟨nd,rfl⟩⟩) | (go_at_call 179;(with_reducible refine (spec_naPlace.calls a3 true _ A13.out).mono ?_);rintro e w' ⟨rfl,⟨nd,rfl⟩⟩) | (go_at_call 163;(with_reducible refine (spec_naYear.calls a4 false _ A15.out).mono ?_);rintro e w' ⟨rfl,⟨nd,rfl⟩⟩))
       go_meet
       case rel=>exact ⟨_,(true),(q1_),H', ⟨by first | omega | exact Nat.le_refl _⟩,⟨q21_⟩⟩
     ·replace c14:=Bool.eq_false_iff.mpr c14;subst c14;have H1 : (spec_RenamePerson.j0 k l0 a1 a2 a3 a4 true) = some (r1,r2):=by rw [if_neg (show ¬ (false = true) by decide)] at H;exact H
      clear H;have H:=H1;clear H1;have H' := Aside0.mk H;clear H;go_wp2_with (first | ((with_reducible refine gate_callee (f:=162) rfl ?_);refine goesL_ (some 15) rfl rfl Try.func162 (by kernel_rfl) rfl #[.slice A0 l0.length c0] rfl (q22_) ?_;(with_reducible refine (spec_naGood.calls k _ _ l0 true _ ?side1 ?side2 A7.out).mono ?_);(case side1=>exact cX_ (Kd.C_below HR0.out HB.out));(case side2=>exact HC0.out);rintro e w21 ⟨rfl,hb⟩;refine ⟨_,rfl,?_⟩;replace HB:=bS_ HB hb;(try clear hb)) | (go_at_call 146;(with_reducible refine (spec_l1In.calls a1 0 (wrap64 ((l0.length : Int) - 1)) true _ A9.out).mono ?_);rintro e w' ⟨rfl,⟨nd,rfl⟩⟩) | (go_at_call 172;(with_reducible refine (spec_naLetter.calls a2 true _ A11.out).mono ?_);rintro e w' ⟨rfl,⟨nd,rfl⟩⟩) | (go_at_call 179;(with_reducible refine (spec_naPlace.calls a3 false _ A13.out).mono ?_);rintro e w' ⟨rfl,⟨nd,rfl⟩⟩))
      go_meet
      case rel=>exact ⟨_,(true),(q1_),H', ⟨by first | omega | exact Nat.le_refl _⟩,⟨q21_⟩⟩
    ·replace c12:=Bool.eq_false_iff.mpr c12;subst c12;have H1 : (spec_RenamePerson.j0 k l0 a1 a2 a3 a4 true) = some (r1,r2):=by rw [if_neg (show ¬ (false = true) by decide)] at H;exact H
     clear H;have H:=H1;clear H1;have H' := Aside0.mk H;clear H;go_wp2_with (first | ((with_reducible refine gate_callee (f:=162) rfl ?_);refine goesL_ (some 15) rfl rfl Try.func162 (by kernel_rfl) rfl #[.slice A0 l0.length c0] rfl (q22_) ?_;(with_reducible refine (spec_naGood.calls k _ _ l0 true _ ?side1 ?side2 A7.out).mono ?_);(case side1=>exact cX_ (Kd.C_below HR0.out HB.out));(case side2=>exact HC0.out);rintro e w22 ⟨rfl,hb⟩;refine ⟨_,rfl,?_⟩;replace HB:=bS_ HB hb;(try clear hb)) | (go_at_call 146;(with_reducible refine (spec_l1In.calls a1 0 (wrap64 ((l0.length : Int) - 1)) true _ A9.out).mono ?_);rintro e w' ⟨rfl,⟨nd,rfl⟩⟩) | (go_at_call 172;(with_reducible refine (spec_naLetter.calls a2 false _ A11.out).mono ?_);rintro e w' ⟨rfl,⟨nd,rfl⟩⟩))
     go_meet
     case rel=>exact ⟨_,(true),(q1_),H', ⟨by first | omega | exact Nat.le_refl _⟩,⟨q21_⟩⟩
   ·replace c10:=Bool.eq_false_iff.mpr c10;subst c10;have H1 : (spec_RenamePerson.j0 k l0 a1 a2 a3 a4 true) = some (r1,r2):=by rw [if_neg (show ¬ (false = true) by decide)] at H;exact H
    clear H;have H:=H1;clear H1;have H' := Aside0.mk H;clear H;go_wp2_with (first | ((with_reducible refine gate_callee (f:=162) rfl ?_);refine goesL_ (some 15) rfl rfl Try.func162 (by kernel_rfl) rfl #[.slice A0 l0.length c0] rfl (q22_) ?_;(with_reducible refine (spec_naGood.calls k _ _ l0 true _ ?side1 ?side2 A7.out).mono ?_);(case side1=>exact cX_ (Kd.C_below HR0.out HB.out));(case side2=>exact HC0.out);rintro e w23 ⟨rfl,hb⟩;refine ⟨_,rfl,?_⟩;replace HB:=bS_ HB hb;(try clear hb)) | (go_at_call 146;(with_reducible refine (spec_l1In.calls a1 0 (wrap64 ((l0.length : Int) - 1)) false _ A9.out).mono ?_);rintro e w' ⟨rfl,⟨nd,rfl⟩⟩))
    go_meet
    case rel=>exact ⟨_,(true),(q1_),H', ⟨by first | omega | exact Nat.le_refl _⟩,⟨q21_⟩⟩
  ·replace c8:=Bool.eq_false_iff.mpr c8;subst c8;have H1 : (spec_RenamePerson.j0 k l0 a1 a2 a3 a4 true) = some (r1,r2):=by rw [if_neg (show ¬ (false = true) by decide)] at H;exact H
   clear H;have H:=H1;clear H1;have H' := Aside0.mk H;clear H;go_wp2_with (first | ((with_reducible refine gate_callee (f:=162) rfl ?_);refine goesL_ (some 15) rfl rfl Try.func162 (by kernel_rfl) rfl #[.slice A0 l0.length c0] rfl (q22_) ?_;(with_reducible refine (spec_naGood.calls k _ _ l0 false _ ?side1 ?side2 A7.out).mono ?_);(case side1=>exact cX_ (Kd.C_below HR0.out HB.out));(case side2=>exact HC0.out);rintro e w24 ⟨rfl,hb⟩;refine ⟨_,rfl,?_⟩;replace HB:=bS_ HB hb;(try clear hb)))
   go_meet
   case rel=>exact ⟨_,(true),(q1_),H', ⟨by first | omega | exact Nat.le_refl _⟩,⟨q21_⟩⟩
 case rest =>
  clear HC6;try clear c8
  try clear c10
  try clear c12
  try clear c14
  try clear c16
  try clear c17
  try clear c17b0
  try clear c18
  try clear c18b0
  try clear hx106_0
  try clear hx106_1
  try clear hx106_2
  try clear hx106_3
  try clear p106
  try clear q106
  obtain ⟨kq,x48_5,rfl,HA,HJ5,HB⟩:=hcut;cases kq with
  | zero=>exact absurd HA.out (by simp [spec_RenamePerson.j0])
  | succ kj5 =>
   have H:=HA.out;clear HA;simp only [spec_RenamePerson.j0] at H;by_cases c25 : x48_5 = true
   ·subst c25;have H1 : (some (([] : List (S77)),false)) = some (r1,r2):=by rw [if_pos rfl] at H;exact H
    clear H;have H:=H1;clear H1;simp only [Option.some.injEq,Prod.mk.injEq] at H;obtain ⟨rfl,rfl⟩:=H;go_wp2;go_ret2
    exact ⟨_,q4_,q23_,q21_⟩
   ·replace c25:=Bool.eq_false_iff.mpr c25;subst c25;have H1 : (if 0 ≤ a1 then (if a1 < (l0.length : Int) then (if ((rd_T77 l0 a1).f1) = a2 then (spec_RenamePerson.j1 kj5 l0 a1 a2 a3 a4 (((rd_T77 l0 a1).f2) == a3)) else (spec_RenamePerson.j1 kj5 l0 a1 a2 a3 a4 false)) else (none)) else (none)) = some (r1,r2):=by rw [if_neg (show ¬ (false = true) by decide)] at H;exact H
    clear H;have H:=H1;clear H1;have HC26:=Aside0.mk H;clear H;go_upto_region 3 with (fail)
    go_cut [64] (fun v64 wc=>∃ (kq : Nat) (x64_25 : Bool),v64 = .bool x64_25 ∧ Aside0 (spec_RenamePerson.j1 kq l0 a1 a2 a3 a4 x64_25 = some (r1,r2)) ∧ Aside0 (kq ≤ kj5) ∧ Aside0 (Below w.heap.size w wc))
    case first =>
     have H:=HC26.out;clear HC26;by_cases c27 : 0 ≤ a1
     ·rw [if_pos c27] at H;have c27b0 : decide (0 ≤ a1) = true:=decide_eq_true c27;clear c27
      (first | rw [c27b0] | (simp only [i64_w,i32_w];rw [c27b0]) | skip)
      by_cases c28 : a1 < (l0.length : Int)
      ·rw [if_pos c28] at H;have c28b0 : decide (a1 < (l0.length : Int)) = true:=decide_eq_true c28;clear c28;by_cases c29 : ((rd_T77 l0 a1).f1) = a2
       ·rw [if_pos c29] at H;have c29b0 : (((rd_T77 l0 a1).f1) == a2) = true:=beq_iff_eq.mpr c29;have c29b1 : (((rd_T77 l0 a1).f1) != a2) = false:=bne_eq_false_iff_eq.mpr c29;clear c29;have H' := Aside0.mk H;clear H;have p107 : 0 ≤ (a1 : Int):=of_decide_eq_true (q2_);have q107 : a1 < (l0.length : Int):=of_decide_eq_true (q2_);obtain ⟨ad107,e107,hx107_0,hx107_1,hx107_2,hx107_3⟩:=at_T77 HR0.out a1 p107 q107;cases e107;replace hx107_0:=hB_ HB.out hx107_0;replace hx107_1:=hB_ HB.out hx107_1;replace hx107_2:=hB_ HB.out hx107_2;replace hx107_3:=hB_ HB.out hx107_3;replace p107:=eq_true p107;replace q107:=eq_true q107;have p108 : 0 ≤ (a1 : Int):=of_decide_eq_true (q2_);have q108 : a1 < (l0.length : Int):=of_decide_eq_true (q2_);obtain ⟨ad108,e108,hx108_0,hx108_1,hx108_2,hx108_3⟩:=at_T77 HR0.out a1 p108 q108;obtain rfl : ad107 = ad108:=(by injection e108);replace hx108_0:=hB_ HB.out hx108_0;replace hx108_1:=hB_ HB.out hx108_1;replace hx108_2:=hB_ HB.out hx108_2;replace hx108_3:=hB_ HB.out hx108_3;replace p108:=eq_true p108;replace q108:=eq_true q108;go_wp2;go_meet
        case rel=>exact ⟨_,((((rd_T77 l0 a1).f2) == a3)),(q1_),H', ⟨by have:=HJ5.out;first | omega | exact Nat.le_refl _⟩,⟨q21_⟩⟩
       ·rw [if_neg c29] at H;have c29b0 : (((rd_T77 l0 a1).f1) == a2) = false:=beq_eq_false_iff_ne.mpr c29;have c29b1 : (((rd_T77 l0 a1).f1) != a2) = true:=bne_iff_ne.mpr c29;have H' := Aside0.mk H;clear H;have p107 : 0 ≤ (a1 : Int):=of_decide_eq_true (q2_);have q107 : a1 < (l0.length : Int):=of_decide_eq_true (q2_);obtain ⟨ad107,e107,hx107_0,hx107_1,hx107_2,hx107_3⟩:=at_T77 HR0.out a1 p107 q107;cases e107;replace hx107_0:=hB_ HB.out hx107_0;replace hx107_1:=hB_ HB.out hx107_1;replace hx107_2:=hB_ HB.out hx107_2;replace hx107_3:=hB_ HB.out hx107_3;replace p107:=eq_true p107;replace q107:=eq_true q107;go_wp2;go_meet
        case rel=>exact ⟨_,(false),(q1_),H', ⟨by have:=HJ5.out;first | omega | exact Nat.le_refl _⟩,⟨q21_⟩⟩
      ·rw [if_neg c28] at H;exact absurd H (by simp)
     ·rw [if_neg c27] at H;exact absurd H (by simp)
    case rest =>
     clear HC26;try clear c8
     try clear c10
     try clear c12
     try clear c14
     try clear c16
     try clear c17
     try clear c17b0
     try clear c18
     try clear c18b0
     try clear c25
     try clear c27
     try clear c27b0
     try clear c28
     try clear c28b0
     try clear c29
     try clear c29b0
     try clear c29b1
     try clear hx106_0
     try clear hx106_1
     try clear hx106_2
     try clear hx106_3
     try clear hx107_0
     try clear hx107_1
     try clear hx107_2
     try clear hx107_3
     try clear hx108_0
     try clear hx108_1
     try clear hx108_2
     try clear hx108_3
     try clear p106
     try clear p107
     try clear p108
     try clear q106
     try clear q107
     try clear q108
     obtain ⟨kq,x64_25,rfl,HA,HJ25,HB⟩:=hcut;cases kq with
     | zero=>exact absurd HA.out (by simp [spec_RenamePerson.j1])
     | succ kj25 =>
      have H:=HA.out;clear HA;simp only [spec_RenamePerson.j1] at H;by_cases c30 : x64_25 = true
      ·subst c30;have H1 : (some (([] : List (S77)),false)) = some (r1,r2):=by rw [if_pos rfl] at H;exact H
       clear H;have H:=H1;clear H1;simp only [Option.some.injEq,Prod.mk.injEq] at H;obtain ⟨rfl,rfl⟩:=H;go_wp2;go_ret2
       exact ⟨_,q4_,q23_,q21_⟩
      ·replace c30:=Bool.eq_false_iff.mpr c30;subst c30;have H1 : (spec_RenamePerson.l0 kj25 l0 a1 a2 a3 a4 l0 (l0.length : Int) 0) = some (r1,r2):=by rw [if_neg (show ¬ (false = true) by decide)] at H;exact H
       clear H;have H:=H1;clear H1;have H' := Aside0.mk H;clear H;go_wp2;go_loopg [67] kj25 (fun kq v67 w' => ∃ (x67_3 : Int),v67 = .int .i64 x67_3 ∧ Aside0 (spec_RenamePerson.l0 kq l0 a1 a2 a3 a4 l0 (l0.length : Int) x67_3 = some (r1,r2)) ∧ Aside0 (kq ≤ kj25) ∧ Aside0 (Below w.heap.size w w'))
       case atStart=>exact ⟨(0),(q1_),H', ⟨Nat.le_refl _⟩,⟨q21_⟩⟩
       case round =>
        clear H';try clear c8
        try clear c10
        try clear c12
        try clear c14
        try clear c16
        try clear c17
        try clear c17b0
        try clear c18
        try clear c18b0
        try clear c25
        try clear c27
        try clear c27b0
        try clear c28
        try clear c28b0
        try clear c29
        try clear c29b0
        try clear c29b1
        try clear c30
        try clear hx106_0
        try clear hx106_1
        try clear hx106_2
        try clear hx106_3
        try clear hx107_0
        try clear hx107_1
        try clear hx107_2
        try clear hx107_3
        try clear hx108_0
        try clear hx108_1
        try clear hx108_2
        try clear hx108_3
        try clear p106
        try clear p107
        try clear p108
        try clear q106
        try clear q107
        try clear q108
        obtain ⟨x67_3,rfl,HA,HK3,HB⟩:=hrel;cases gk with
        | zero=>exact absurd HA.out (by simp [spec_RenamePerson.l0])
        | succ k3 =>
         have H:=HA.out;clear HA;simp only [spec_RenamePerson.l0] at H;by_cases c31 : x67_3 < (l0.length : Int)
         ·rw [if_pos c31] at H;have c31b0 : decide (x67_3 < (l0.length : Int)) = true:=decide_eq_true c31;clear c31;by_cases c32 : 0 ≤ x67_3
          ·rw [if_pos c32] at H;have c32b0 : decide (0 ≤ x67_3) = true:=decide_eq_true c32;clear c32;by_cases c33 : x67_3 < (l0.length : Int)
           ·rw [if_pos c33] at H;have c33b0 : decide (x67_3 < (l0.length : Int)) = true:=decide_eq_true c33;clear c33;by_cases c34 : ((rd_T77 l0 x67_3).f1) = a2
            ·rw [if_pos c34] at H;have c34b0 : (((rd_T77 l0 x67_3).f1) == a2) = true:=beq_iff_eq.mpr c34;have c34b1 : (((rd_T77 l0 x67_3).f1) != a2) = false:=bne_eq_false_iff_eq.mpr c34;clear c34;by_cases c35 : ((rd_T77 l0 x67_3).f2) = a3
             ·rw [if_pos c35] at H;have c35b0 : (((rd_T77 l0 x67_3).f2) == a3) = true:=beq_iff_eq.mpr c35;have c35b1 : (((rd_T77 l0 x67_3).f2) != a3) = false:=bne_eq_false_iff_eq.mpr c35;clear c35;simp only [Option.some.injEq,Prod.mk.injEq] at H;obtain ⟨rfl,rfl⟩:=H;have p109 : 0 ≤ (x67_3 : Int):=of_decide_eq_true (q2_);have q109 : x67_3 < (l0.length : Int):=of_decide_eq_true (q2_);obtain ⟨ad109,e109,hx109_0,hx109_1,hx109_2,hx109_3⟩:=at_T77 HR0.out x67_3 p109 q109;cases e109;replace hx109_0:=hB_ HB.out hx109_0;replace hx109_1:=hB_ HB.out hx109_1;replace hx109_2:=hB_ HB.out hx109_2;replace hx109_3:=hB_ HB.out hx109_3;replace p109:=eq_true p109;replace q109:=eq_true q109;go_wp2_with (first | ((with_reducible refine gate_dst (N:=13) rfl ?_);(try (refine gate_guard (by rfl) ?_;dsimp only));refine box_event ?hg (N:=13) ?hd (cs:=#[.string (⟨#[]⟩ : ByteArray),.int .i64 0,.int .i64 0,.int .i64 0]) (t:=77) ?hr ?_;(case hd=>rfl);(case hg=>rfl);(case hr=>first | (go_simp;done) | (go_simp;rfl));intro gb110 hg w36 hbox hb;have BK110:=Aside0.mk (hbox);have GW110:=Aside0.mk ((q49_ : w.heap.size ≤ gb110));have GE110:=Aside0.mk ((q49_ : w.heap.size ≤ gb110));replace HB:=bS_ HB hb;clear hb hbox hg;have hcz37_0 : w36.cell? ⟨gb110,0,none⟩ = some (.string (⟨#[]⟩ : ByteArray)):=(blk_cell BK110.out 0).trans rfl;have hcz37_1 : w36.cell? ⟨gb110,1,none⟩ = some (.int .i64 0):=(blk_cell BK110.out 1).trans rfl;have hcz37_2 : w36.cell? ⟨gb110,2,none⟩ = some (.int .i64 0):=(blk_cell BK110.out 2).trans rfl;have hcz37_3 : w36.cell? ⟨gb110,3,none⟩ = some (.int .i64 0):=(blk_cell BK110.out 3).trans rfl;have hfz37_0:=blk_frozen BK110.out 0;have hfz37_1:=blk_frozen BK110.out 1;have hfz37_2:=blk_frozen BK110.out 2;have hfz37_3:=blk_frozen BK110.out 3))
              go_ret2
              exact ⟨_,q4_,q23_,by repeat (first | (with_reducible first | exact HB.out | apply below_alloc | apply pw_below_drewN | apply below_drew1 | refine below_set ?_ GE110.out) | exact HB.out)⟩
             ·rw [if_neg c35] at H;have c35b0 : (((rd_T77 l0 x67_3).f2) == a3) = false:=beq_eq_false_iff_ne.mpr c35;have c35b1 : (((rd_T77 l0 x67_3).f2) != a3) = true:=bne_iff_ne.mpr c35;have H' := Aside0.mk H;clear H;have p109 : 0 ≤ (x67_3 : Int):=of_decide_eq_true (q2_);have q109 : x67_3 < (l0.length : Int):=of_decide_eq_true (q2_);obtain ⟨ad109,e109,hx109_0,hx109_1,hx109_2,hx109_3⟩:=at_T77 HR0.out x67_3 p109 q109;cases e109;replace hx109_0:=hB_ HB.out hx109_0;replace hx109_1:=hB_ HB.out hx109_1;replace hx109_2:=hB_ HB.out hx109_2;replace hx109_3:=hB_ HB.out hx109_3;replace p109:=eq_true p109;replace q109:=eq_true q109;go_wp2_with (first | ((with_reducible refine gate_dst (N:=13) rfl ?_);(try (refine gate_guard (by rfl) ?_;dsimp only));refine box_event ?hg (N:=13) ?hd (cs:=#[.string (⟨#[]⟩ : ByteArray),.int .i64 0,.int .i64 0,.int .i64 0]) (t:=77) ?hr ?_;(case hd=>rfl);(case hg=>rfl);(case hr=>first | (go_simp;done) | (go_simp;rfl));intro gb110 hg w38 hbox hb;have BK110:=Aside0.mk (hbox);have GW110:=Aside0.mk ((q49_ : w.heap.size ≤ gb110));have GE110:=Aside0.mk ((q49_ : w.heap.size ≤ gb110));replace HB:=bS_ HB hb;clear hb hbox hg;have hcz39_0 : w38.cell? ⟨gb110,0,none⟩ = some (.string (⟨#[]⟩ : ByteArray)):=(blk_cell BK110.out 0).trans rfl;have hcz39_1 : w38.cell? ⟨gb110,1,none⟩ = some (.int .i64 0):=(blk_cell BK110.out 1).trans rfl;have hcz39_2 : w38.cell? ⟨gb110,2,none⟩ = some (.int .i64 0):=(blk_cell BK110.out 2).trans rfl;have hcz39_3 : w38.cell? ⟨gb110,3,none⟩ = some (.int .i64 0):=(blk_cell BK110.out 3).trans rfl;have hfz39_0:=blk_frozen BK110.out 0;have hfz39_1:=blk_frozen BK110.out 1;have hfz39_2:=blk_frozen BK110.out 2;have hfz39_3:=blk_frozen BK110.out 3))
              go_roundg k3
              case measure=>have:=HJ5.out;have:=HJ25.out;have:=HK3.out;omega
              case rel=>exact ⟨(wrap64 (x67_3 + 1)),(q1_),H', ⟨by have:=HJ5.out;have:=HJ25.out;have:=HK3.out;omega⟩,⟨by repeat (first | (with_reducible first | exact HB.out | apply below_alloc | apply pw_below_drewN | apply below_drew1 | refine below_set ?_ GE110.out) | exact HB.out)⟩⟩
            ·rw [if_neg c34] at H;have c34b0 : (((rd_T77 l0 x67_3).f1) == a2) = false:=beq_eq_false_iff_ne.mpr c34;have c34b1 : (((rd_T77 l0 x67_3).f1) != a2) = true:=bne_iff_ne.mpr c34;have H' := Aside0.mk H;clear H;have p109 : 0 ≤ (x67_3 : Int):=of_decide_eq_true (q2_);have q109 : x67_3 < (l0.length : Int):=of_decide_eq_true (q2_);obtain ⟨ad109,e109,hx109_0,hx109_1,hx109_2,hx109_3⟩:=at_T77 HR0.out x67_3 p109 q109;cases e109;replace hx109_0:=hB_ HB.out hx109_0;replace hx109_1:=hB_ HB.out hx109_1;replace hx109_2:=hB_ HB.out hx109_2;replace hx109_3:=hB_ HB.out hx109_3;replace p109:=eq_true p109;replace q109:=eq_true q109;go_wp2_with (first | ((with_reducible refine gate_dst (N:=13) rfl ?_);(try (refine gate_guard (by rfl) ?_;dsimp only));refine box_event ?hg (N:=13) ?hd (cs:=#[.string (⟨#[]⟩ : ByteArray),.int .i64 0,.int .i64 0,.int .i64 0]) (t:=77) ?hr ?_;(case hd=>rfl);(case hg=>rfl);(case hr=>first | (go_simp;done) | (go_simp;rfl));intro gb110 hg w40 hbox hb;have BK110:=Aside0.mk (hbox);have GW110:=Aside0.mk ((q49_ : w.heap.size ≤ gb110));have GE110:=Aside0.mk ((q49_ : w.heap.size ≤ gb110));replace HB:=bS_ HB hb;clear hb hbox hg;have hcz41_0 : w40.cell? ⟨gb110,0,none⟩ = some (.string (⟨#[]⟩ : ByteArray)):=(blk_cell BK110.out 0).trans rfl;have hcz41_1 : w40.cell? ⟨gb110,1,none⟩ = some (.int .i64 0):=(blk_cell BK110.out 1).trans rfl;have hcz41_2 : w40.cell? ⟨gb110,2,none⟩ = some (.int .i64 0):=(blk_cell BK110.out 2).trans rfl;have hcz41_3 : w40.cell? ⟨gb110,3,none⟩ = some (.int .i64 0):=(blk_cell BK110.out 3).trans rfl;have hfz41_0:=blk_frozen BK110.out 0;have hfz41_1:=blk_frozen BK110.out 1;have hfz41_2:=blk_frozen BK110.out 2;have hfz41_3:=blk_frozen BK110.out 3))
             go_roundg k3
             case measure=>have:=HJ5.out;have:=HJ25.out;have:=HK3.out;omega
             case rel=>exact ⟨(wrap64 (x67_3 + 1)),(q1_),H', ⟨by have:=HJ5.out;have:=HJ25.out;have:=HK3.out;omega⟩,⟨by repeat (first | (with_reducible first | exact HB.out | apply below_alloc | apply pw_below_drewN | apply below_drew1 | refine below_set ?_ GE110.out) | exact HB.out)⟩⟩
           ·rw [if_neg c33] at H;exact absurd H (by simp)
          ·rw [if_neg c32] at H;exact absurd H (by simp)
         ·rw [if_neg c31] at H;have c31b0 : decide (x67_3 < (l0.length : Int)) = false:=decide_eq_false c31;clear c31;replace H:=Option.bind_eq_some_iff.mp H;obtain ⟨t111,A420,H⟩:=H;(try dsimp only at H);have A42:=Aside0.mk A420;clear A420;simp only [Option.some.injEq,Prod.mk.injEq] at H;obtain ⟨rfl,rfl⟩:=H;go_wp2_with (first | ((with_reducible refine gate_callee (f:=166) rfl ?_);refine goesL_ (some 87) rfl rfl Try.func166 (by kernel_rfl) rfl #[.slice A0 l0.length c0,.int .i64 a1,.int .i64 a2,.int .i64 a3,.int .i64 a4] rfl (q22_) ?_;(with_reducible refine (spec_naWith.calls _ _ l0 a1 a2 a3 a4 t111 _ ?side1 ?side2 A42.out).mono ?_);(case side1=>exact cX_ (Kd.C_below HR0.out HB.out));(case side2=>exact HC0.out);rintro e w43 ⟨v112,rfl,ho0,hb⟩;refine ⟨_,rfl,?_⟩;have HO113:=Aside0.mk (Kd.R_lower ho0 (below_size (q21_)));replace HB:=bS_ HB hb;(try clear hb);(try clear ho0)))
          go_ret2
          exact ⟨_,q4_,q13_,q21_⟩
end Go.Proofs.Ytgapcmmhbegdeaa.G
