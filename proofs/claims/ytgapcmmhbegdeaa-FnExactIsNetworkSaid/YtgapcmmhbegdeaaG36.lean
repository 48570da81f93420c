-- Written by this session's own program over the kit's print (wip/tools/myprint.py); Lean checks it.
import Derived.Test.YtgapcmmhbegdeaaMBase
import Derived.Test.YtgapcmmhbegdeaaG0
import Derived.Test.YtgapcmmhbegdeaaG1
namespace Go.Proofs.Ytgapcmmhbegdeaa.G
open Go.RowKit Go.Proofs.YtgapcmmhbegdeaaW.PrintWords Go.Proofs.YtgapcmmhbegdeaaW.PrintLast Go.Proofs.YtgapcmmhbegdeaaW.PrintMore
attribute [local go_sem] max2_int min2_int max_two min_two max_three min_three max_four min_four str_geq str_gtr str_leq   -- for this text's walks alone
set_option linter.unusedVariables false
set_option linter.unusedSimpArgs false
/-! ### laws_szIntS: function 216 -/
def laws_szIntS.f (l0 : List Int) (a1 : Int) : Option (Int):=if (wrap64 (a1 - (l0.length : Int))) < 0 then (some (-1)) else (some (wrap64 (a1 - (l0.length : Int))))
set_option maxHeartbeats 8000000 in
set_option maxRecDepth 100000 in
theorem laws_szIntS.calls (A0 : Option Addr) (c0 : Nat) (l0 : List Int) (a1 : Int) (r : Int) (w : World) (hr0 : Kd.C (Kd.int .i64) w A0 l0.length l0) (hc0 : l0.length ≤ c0) (h : laws_szIntS.f l0 a1 = some r) :
  Calls Try.prog 216 #[.slice A0 l0.length c0,.int .i64 a1] w fun e w' => e = .returned (.int .i64 r) ∧ Drawn0 w w' := by
 have HR0:=Aside0.mk hr0;have HC0:=Aside0.mk hc0;clear hr0 hc0;have H : (if (wrap64 (a1 - (l0.length : Int))) < 0 then (some (-1)) else (some (wrap64 (a1 - (l0.length : Int))))) = some r:=h;clear h;by_cases c3 : (wrap64 (a1 - (l0.length : Int))) < 0
 ·rw [if_pos c3] at H;have c3b0 : decide ((wrap64 (a1 - (l0.length : Int))) < 0) = true:=decide_eq_true c3;clear c3;obtain rfl:=Option.some.inj H;go_enter Try.func216,Try.ntmps216
  go_wp2;go_ret;exact ⟨q1_,q3_⟩
 ·rw [if_neg c3] at H;have c3b0 : decide ((wrap64 (a1 - (l0.length : Int))) < 0) = false:=decide_eq_false c3;clear c3;obtain rfl:=Option.some.inj H;go_enter Try.func216,Try.ntmps216
  go_wp2;go_ret;exact ⟨q1_,q3_⟩
/-! ### laws_szIntSS: function 129 -/
def laws_szIntSS.l0 : Nat → List (List Int) → Int → Int → Option (Int)
 | 0,_,_,_=>none
 | k + 1,x0,x1,x5=>if x5 < (x0.length : Int) then (if 0 ≤ x5 then ((laws_szIntS.f (rd_L15 x0 x5) x1).bind fun t102=>(if t102 < 0 then (some (-1)) else (laws_szIntSS.l0 k x0 t102 (wrap64 (x5 + 1))))) else (none)) else (some x1)
def laws_szIntSS.f (k : Nat) (l0 : List (List Int)) (a1 : Int) : Option (Int):=if (wrap64 (a1 - (l0.length : Int))) < 0 then (some (-1)) else (laws_szIntSS.l0 k l0 (wrap64 (a1 - (l0.length : Int))) 0)
set_option maxHeartbeats 8000000 in
set_option maxRecDepth 100000 in
theorem laws_szIntSS.calls (k : Nat) (A0 : Option Addr) (c0 : Nat) (l0 : List (List Int)) (a1 : Int) (r : Int) (w : World) (hr0 : Kd.C (Kd.slice 3 (Kd.int .i64)) w A0 l0.length l0) (hc0 : l0.length ≤ c0) (h : laws_szIntSS.f k l0 a1 = some r) :
  Calls Try.prog 129 #[.slice A0 l0.length c0,.int .i64 a1] w fun e w' => e = .returned (.int .i64 r) ∧ Drawn0 w w' := by
 have HR0:=Aside0.mk hr0;have HC0:=Aside0.mk hc0;clear hr0 hc0;have H : (if (wrap64 (a1 - (l0.length : Int))) < 0 then (some (-1)) else (laws_szIntSS.l0 k l0 (wrap64 (a1 - (l0.length : Int))) 0)) = some r:=h;clear h;by_cases c3 : (wrap64 (a1 - (l0.length : Int))) < 0
 ·rw [if_pos c3] at H;have c3b0 : decide ((wrap64 (a1 - (l0.length : Int))) < 0) = true:=decide_eq_true c3;clear c3;obtain rfl:=Option.some.inj H;go_enter Try.func129,Try.ntmps129
  go_wp2;go_ret;exact ⟨q1_,q3_⟩
 ·rw [if_neg c3] at H;have c3b0 : decide ((wrap64 (a1 - (l0.length : Int))) < 0) = false:=decide_eq_false c3;clear c3;have H' := Aside0.mk H;clear H;go_enter Try.func129,Try.ntmps129
  go_wp2;go_loopg [1,5] k (fun kq v1 v5 w' => ∃ (x1_1 : Int) (x5_1 : Int),v1 = .int .i64 x1_1 ∧ v5 = .int .i64 x5_1 ∧ Aside0 (laws_szIntSS.l0 kq l0 x1_1 x5_1 = some r) ∧ Aside0 (kq ≤ k) ∧ Drawn0 w w')
  case atStart=>exact ⟨(wrap64 (a1 - (l0.length : Int))),(0),(q1_),(q1_),H', ⟨Nat.le_refl _⟩,q3_⟩
  case round =>
   clear H';try clear c3
   try clear c3b0
   obtain ⟨x1_1,x5_1,rfl,rfl,HA,HK1,⟨m1,rfl⟩⟩:=hrel;cases gk with
   | zero=>exact absurd HA.out (by simp [laws_szIntSS.l0])
   | succ k1 =>
    have H:=HA.out;clear HA;simp only [laws_szIntSS.l0] at H;by_cases c4 : x5_1 < (l0.length : Int)
    ·rw [if_pos c4] at H;have c4b0 : decide (x5_1 < (l0.length : Int)) = true:=decide_eq_true c4;clear c4;by_cases c5 : 0 ≤ x5_1
     ·rw [if_pos c5] at H;have c5b0 : decide (0 ≤ x5_1) = true:=decide_eq_true c5;clear c5;replace H:=Option.bind_eq_some_iff.mp H;obtain ⟨t102,A60,H⟩:=H;(try dsimp only at H);have A6:=Aside0.mk A60;clear A60;by_cases c7 : t102 < 0
      ·rw [if_pos c7] at H;have c7b0 : decide (t102 < 0) = true:=decide_eq_true c7;clear c7;obtain rfl:=Option.some.inj H;have p101 : 0 ≤ (x5_1 : Int):=of_decide_eq_true (q2_);have q101 : x5_1 < (l0.length : Int):=of_decide_eq_true (q2_);obtain ⟨ad101,A101_0,c101_0,e101,hx101_0,hl101_0,hi101_0⟩:=at_L15 HR0.out x5_1 p101 q101;cases e101;have HR101_0:=Aside0.mk hi101_0;have HC101_0:=Aside0.mk hl101_0;clear hi101_0 hl101_0;replace p101:=eq_true p101;replace q101:=eq_true q101;go_wp2_with (first | ((with_reducible refine gate_callee (f:=216) rfl ?_);refine goesL_ (some 23) rfl rfl Try.func216 (by kernel_rfl) rfl #[.slice A101_0 (rd_L15 l0 x5_1).length c101_0,.int .i64 x1_1] rfl (q9_) ?_;(with_reducible refine (laws_szIntS.calls _ _ (rd_L15 l0 x5_1) x1_1 t102 _ ?side1 ?side2 A6.out).mono ?_);(case side1=>exact cX_ HR101_0.out);(case side2=>exact HC101_0.out);rintro e w' ⟨rfl,⟨nd,rfl⟩⟩;refine ⟨_,rfl,?_⟩))
       go_ret;exact ⟨q1_,q3_⟩
      ·rw [if_neg c7] at H;have c7b0 : decide (t102 < 0) = false:=decide_eq_false c7;clear c7;have H' := Aside0.mk H;clear H;have p101 : 0 ≤ (x5_1 : Int):=of_decide_eq_true (q2_);have q101 : x5_1 < (l0.length : Int):=of_decide_eq_true (q2_);obtain ⟨ad101,A101_0,c101_0,e101,hx101_0,hl101_0,hi101_0⟩:=at_L15 HR0.out x5_1 p101 q101;cases e101;have HR101_0:=Aside0.mk hi101_0;have HC101_0:=Aside0.mk hl101_0;clear hi101_0 hl101_0;replace p101:=eq_true p101;replace q101:=eq_true q101;go_wp2_with (first | ((with_reducible refine gate_callee (f:=216) rfl ?_);refine goesL_ (some 23) rfl rfl Try.func216 (by kernel_rfl) rfl #[.slice A101_0 (rd_L15 l0 x5_1).length c101_0,.int .i64 x1_1] rfl (q9_) ?_;(with_reducible refine (laws_szIntS.calls _ _ (rd_L15 l0 x5_1) x1_1 t102 _ ?side1 ?side2 A6.out).mono ?_);(case side1=>exact cX_ HR101_0.out);(case side2=>exact HC101_0.out);rintro e w' ⟨rfl,⟨nd,rfl⟩⟩;refine ⟨_,rfl,?_⟩))
       go_roundg k1
       case measure=>have:=HK1.out;omega
       case rel=>exact ⟨(t102),(wrap64 (x5_1 + 1)),(q1_),(q1_),H', ⟨by have:=HK1.out;omega⟩,q3_⟩
     ·rw [if_neg c5] at H;exact absurd H (by simp)
    ·rw [if_neg c4] at H;have c4b0 : decide (x5_1 < (l0.length : Int)) = false:=decide_eq_false c4;clear c4;obtain rfl:=Option.some.inj H;go_wp2;go_ret;exact ⟨q1_,q3_⟩
/-! ### laws_szIntSSS: function 28 -/
def laws_szIntSSS.l0 : Nat → List (List (List Int)) → Int → Int → Option (Int)
 | 0,_,_,_=>none
 | k + 1,x0,x1,x5=>if x5 < (x0.length : Int) then (if 0 ≤ x5 then ((laws_szIntSS.f k (rd_L16 x0 x5) x1).bind fun t102=>(if t102 < 0 then (some (-1)) else (laws_szIntSSS.l0 k x0 t102 (wrap64 (x5 + 1))))) else (none)) else (some x1)
def laws_szIntSSS.f (k : Nat) (l0 : List (List (List Int))) (a1 : Int) : Option (Int):=if (wrap64 (a1 - (l0.length : Int))) < 0 then (some (-1)) else (laws_szIntSSS.l0 k l0 (wrap64 (a1 - (l0.length : Int))) 0)
set_option maxHeartbeats 8000000 in
set_option maxRecDepth 100000 in
theorem laws_szIntSSS.calls (k : Nat) (A0 : Option Addr) (c0 : Nat) (l0 : List (List (List Int))) (a1 : Int) (r : Int) (w : World) (hr0 : Kd.C (Kd.slice 65 (Kd.slice 3 (Kd.int .i64))) w A0 l0.length l0) (hc0 : l0.length ≤ c0) (h : laws_szIntSSS.f k l0 a1 = some r) :
  Calls Try.prog 28 #[.slice A0 l0.length c0,.int .i64 a1] w fun e w' => e = .returned (.int .i64 r) ∧ Drawn0 w w' := by
 have HR0:=Aside0.mk hr0;have HC0:=Aside0.mk hc0;clear hr0 hc0;have H : (if (wrap64 (a1 - (l0.length : Int))) < 0 then (some (-1)) else (laws_szIntSSS.l0 k l0 (wrap64 (a1 - (l0.length : Int))) 0)) = some r:=h;clear h;by_cases c3 : (wrap64 (a1 - (l0.length : Int))) < 0
 ·rw [if_pos c3] at H;have c3b0 : decide ((wrap64 (a1 - (l0.length : Int))) < 0) = true:=decide_eq_true c3;clear c3;obtain rfl:=Option.some.inj H;go_enter Try.func28,Try.ntmps28
  go_wp2;go_ret;exact ⟨q1_,q3_⟩
 ·rw [if_neg c3] at H;have c3b0 : decide ((wrap64 (a1 - (l0.length : Int))) < 0) = false:=decide_eq_false c3;clear c3;have H' := Aside0.mk H;clear H;go_enter Try.func28,Try.ntmps28
  go_wp2;go_loopg [1,5] k (fun kq v1 v5 w' => ∃ (x1_1 : Int) (x5_1 : Int),v1 = .int .i64 x1_1 ∧ v5 = .int .i64 x5_1 ∧ Aside0 (laws_szIntSSS.l0 kq l0 x1_1 x5_1 = some r) ∧ Aside0 (kq ≤ k) ∧ Drawn0 w w')
  case atStart=>exact ⟨(wrap64 (a1 - (l0.length : Int))),(0),(q1_),(q1_),H', ⟨Nat.le_refl _⟩,q3_⟩
  case round =>
   clear H';try clear c3
   try clear c3b0
   obtain ⟨x1_1,x5_1,rfl,rfl,HA,HK1,⟨m1,rfl⟩⟩:=hrel;cases gk with
   | zero=>exact absurd HA.out (by simp [laws_szIntSSS.l0])
   | succ k1 =>
    have H:=HA.out;clear HA;simp only [laws_szIntSSS.l0] at H;by_cases c4 : x5_1 < (l0.length : Int)
    ·rw [if_pos c4] at H;have c4b0 : decide (x5_1 < (l0.length : Int)) = true:=decide_eq_true c4;clear c4;by_cases c5 : 0 ≤ x5_1
     ·rw [if_pos c5] at H;have c5b0 : decide (0 ≤ x5_1) = true:=decide_eq_true c5;clear c5;replace H:=Option.bind_eq_some_iff.mp H;obtain ⟨t102,A60,H⟩:=H;(try dsimp only at H);have A6:=Aside0.mk A60;clear A60;by_cases c7 : t102 < 0
      ·rw [if_pos c7] at H;have c7b0 : decide (t102 < 0) = true:=decide_eq_true c7;clear c7;obtain rfl:=Option.some.inj H;have p101 : 0 ≤ (x5_1 : Int):=of_decide_eq_true (q2_);have q101 : x5_1 < (l0.length : Int):=of_decide_eq_true (q2_);obtain ⟨ad101,A101_0,c101_0,e101,hx101_0,hl101_0,hi101_0⟩:=at_L16 HR0.out x5_1 p101 q101;cases e101;have HR101_0:=Aside0.mk hi101_0;have HC101_0:=Aside0.mk hl101_0;clear hi101_0 hl101_0;replace p101:=eq_true p101;replace q101:=eq_true q101;go_wp2_with (first | ((with_reducible refine gate_callee (f:=129) rfl ?_);refine goesL_ (some 23) rfl rfl Try.func129 (by kernel_rfl) rfl #[.slice A101_0 (rd_L16 l0 x5_1).length c101_0,.int .i64 x1_1] rfl (q9_) ?_;(with_reducible refine (laws_szIntSS.calls k1 _ _ (rd_L16 l0 x5_1) x1_1 t102 _ ?side1 ?side2 A6.out).mono ?_);(case side1=>exact cX_ HR101_0.out);(case side2=>exact HC101_0.out);rintro e w' ⟨rfl,⟨nd,rfl⟩⟩;refine ⟨_,rfl,?_⟩))
       go_ret;exact ⟨q1_,q3_⟩
      ·rw [if_neg c7] at H;have c7b0 : decide (t102 < 0) = false:=decide_eq_false c7;clear c7;have H' := Aside0.mk H;clear H;have p101 : 0 ≤ (x5_1 : Int):=of_decide_eq_true (q2_);have q101 : x5_1 < (l0.length : Int):=of_decide_eq_true (q2_);obtain ⟨ad101,A101_0,c101_0,e101,hx101_0,hl101_0,hi101_0⟩:=at_L16 HR0.out x5_1 p101 q101;cases e101;have HR101_0:=Aside0.mk hi101_0;have HC101_0:=Aside0.mk hl101_0;clear hi101_0 hl101_0;replace p101:=eq_true p101;replace q101:=eq_true q101;go_wp2_with (first | ((with_reducible refine gate_callee (f:=129) rfl ?_);refine goesL_ (some 23) rfl rfl Try.func129 (by kernel_rfl) rfl #[.slice A101_0 (rd_L16 l0 x5_1).length c101_0,.int .i64 x1_1] rfl (q9_) ?_;(with_reducible refine (laws_szIntSS.calls k1 _ _ (rd_L16 l0 x5_1) x1_1 t102 _ ?side1 ?side2 A6.out).mono ?_);(case side1=>exact cX_ HR101_0.out);(case side2=>exact HC101_0.out);rintro e w' ⟨rfl,⟨nd,rfl⟩⟩;refine ⟨_,rfl,?_⟩))
       go_roundg k1
       case measure=>have:=HK1.out;omega
       case rel=>exact ⟨(t102),(wrap64 (x5_1 + 1)),(q1_),(q1_),H', ⟨by have:=HK1.out;omega⟩,q3_⟩
     ·rw [if_neg c5] at H;exact absurd H (by simp)
    ·rw [if_neg c4] at H;have c4b0 : decide (x5_1 < (l0.length : Int)) = false:=decide_eq_false c4;clear c4;obtain rfl:=Option.some.inj H;go_wp2;go_ret;exact ⟨q1_,q3_⟩
/-! ### spec_l1Rising: function 259 -/
def spec_l1Rising.l0 : Nat → List Int → Int → Int → List Int → Int → Int → Option (Bool)
 | 0,_,_,_,_,_,_=>none
 | k + 1,x0,x1,x2,x9,x10,x11=>if x11 < x10 then (if 0 ≤ x11 then (if x11 < (x9.length : Int) then ((spec_l1In.f (rd x9 x11) x1 x2).bind fun t102=>(if t102 = true then (if x11 > 0 then (if 0 ≤ (wrap64 (x11 - 1)) then (if (wrap64 (x11 - 1)) < (x0.length : Int) then (if (rd x0 (wrap64 (x11 - 1))) ≥ (rd x9 x11) then (some false) else (spec_l1Rising.l0 k x0 x1 x2 x9 x10 (wrap64 (x11 + 1)))) else (none)) else (none)) else (spec_l1Rising.l0 k x0 x1 x2 x9 x10 (wrap64 (x11 + 1)))) else (some false))) else (none)) else (none)) else (some true)
def spec_l1Rising.f (k : Nat) (l0 : List Int) (a1 : Int) (a2 : Int) : Option (Bool):=spec_l1Rising.l0 k l0 a1 a2 l0 (l0.length : Int) 0
set_option maxHeartbeats 8000000 in
set_option maxRecDepth 100000 in
theorem spec_l1Rising.calls (k : Nat) (A0 : Option Addr) (c0 : Nat) (l0 : List Int) (a1 : Int) (a2 : Int) (r : Bool) (w : World) (hr0 : Kd.C (Kd.int .i64) w A0 l0.length l0) (hc0 : l0.length ≤ c0) (h : spec_l1Rising.f k l0 a1 a2 = some r) :
  Calls Try.prog 259 #[.slice A0 l0.length c0,.int .i64 a1,.int .i64 a2] w fun e w' => e = .returned (.bool r) ∧ Drawn0 w w' := by
 have HR0:=Aside0.mk hr0;have HC0:=Aside0.mk hc0;clear hr0 hc0;have H : (spec_l1Rising.l0 k l0 a1 a2 l0 (l0.length : Int) 0) = some r:=h;clear h;have H' := Aside0.mk H;clear H;go_enter Try.func259,Try.ntmps259
 go_wp2;go_loopg [11] k (fun kq v11 w' => ∃ (x11_1 : Int),v11 = .int .i64 x11_1 ∧ Aside0 (spec_l1Rising.l0 kq l0 a1 a2 l0 (l0.length : Int) x11_1 = some r) ∧ Aside0 (kq ≤ k) ∧ Drawn0 w w')
 case atStart=>exact ⟨(0),(q1_),H', ⟨Nat.le_refl _⟩,q3_⟩
 case round =>
  clear H';obtain ⟨x11_1,rfl,HA,HK1,⟨m1,rfl⟩⟩:=hrel;cases gk with
  | zero=>exact absurd HA.out (by simp [spec_l1Rising.l0])
  | succ k1 =>
   have H:=HA.out;clear HA;simp only [spec_l1Rising.l0] at H;by_cases c4 : x11_1 < (l0.length : Int)
   ·rw [if_pos c4] at H;have c4b0 : decide (x11_1 < (l0.length : Int)) = true:=decide_eq_true c4;clear c4;by_cases c5 : 0 ≤ x11_1
    ·rw [if_pos c5] at H;have c5b0 : decide (0 ≤ x11_1) = true:=decide_eq_true c5;clear c5;by_cases c6 : x11_1 < (l0.length : Int)
     ·rw [if_pos c6] at H;have c6b0 : decide (x11_1 < (l0.length : Int)) = true:=decide_eq_true c6;clear c6;replace H:=Option.bind_eq_some_iff.mp H;obtain ⟨t102,A70,H⟩:=H;(try dsimp only at H);have A7:=Aside0.mk A70;clear A70;by_cases c8 : t102 = true
      ·subst c8;have H1 : (if x11_1 > 0 then (if 0 ≤ (wrap64 (x11_1 - 1)) then (if (wrap64 (x11_1 - 1)) < (l0.length : Int) then (if (rd l0 (wrap64 (x11_1 - 1))) ≥ (rd l0 x11_1) then (some false) else (spec_l1Rising.l0 k1 l0 a1 a2 l0 (l0.length : Int) (wrap64 (x11_1 + 1)))) else (none)) else (none)) else (spec_l1Rising.l0 k1 l0 a1 a2 l0 (l0.length : Int) (wrap64 (x11_1 + 1)))) = some r:=by rw [if_pos rfl] at H;exact H
       clear H;have H:=H1;clear H1;by_cases c9 : x11_1 > 0
       ·rw [if_pos c9] at H;have c9b0 : decide (0 < x11_1) = true:=decide_eq_true c9;clear c9;obtain ⟨ji10,hji10⟩ : ∃ j_ : Int,(wrap64 (x11_1 - 1)) = j_:=⟨_,rfl⟩;replace H : (if 0 ≤ (ji10) then (if (ji10) < (l0.length : Int) then (if (rd l0 (ji10)) ≥ (rd l0 x11_1) then (some false) else (spec_l1Rising.l0 k1 l0 a1 a2 l0 (l0.length : Int) (wrap64 (x11_1 + 1)))) else (none)) else (none)) = some r:=by first | (rw [hji10] at H;exact H) | (simp only [hji10] at H ⊢;exact H)
        (try rw [hji10] at A7)
        have hji10w : (IntKind.i64.wrap (x11_1 - 1)) = ji10:=(i64_w _).trans hji10;by_cases c11 : 0 ≤ (ji10)
        ·rw [if_pos c11] at H;have c11b0 : decide (0 ≤ (ji10)) = true:=decide_eq_true c11;clear c11;by_cases c12 : (ji10) < (l0.length : Int)
         ·rw [if_pos c12] at H;have c12b0 : decide ((ji10) < (l0.length : Int)) = true:=decide_eq_true c12;clear c12;by_cases c13 : (rd l0 (ji10)) ≥ (rd l0 x11_1)
          ·rw [if_pos c13] at H;have c13b0 : decide ((rd l0 x11_1) ≤ (rd l0 (ji10))) = true:=decide_eq_true c13;clear c13;obtain rfl:=Option.some.inj H;have p101 : 0 ≤ (x11_1 : Int):=of_decide_eq_true (q2_);have q101 : x11_1 < (l0.length : Int):=of_decide_eq_true (q2_);obtain ⟨ad101,e101,hx101_0⟩:=Kd.at_int HR0.out x11_1 p101 q101;cases e101;replace p101:=eq_true p101;replace q101:=eq_true q101;go_wp2_with (first | ((with_reducible refine gate_callee (f:=146) rfl ?_);refine goesL_ (some 19) rfl rfl Try.func146 (by kernel_rfl) rfl #[.int .i64 (rd l0 x11_1),.int .i64 a1,.int .i64 a2] rfl (q9_) ?_;(with_reducible refine (spec_l1In.calls (rd l0 x11_1) a1 a2 true _ A7.out).mono ?_);rintro e w' ⟨rfl,⟨nd,rfl⟩⟩;refine ⟨_,rfl,?_⟩;have p103 : 0 ≤ ((ji10) : Int):=of_decide_eq_true (q2_);have q103 : (ji10) < (l0.length : Int):=of_decide_eq_true (q2_);obtain ⟨ad103,e103,hx103_0⟩:=Kd.at_int HR0.out (ji10) p103 q103;obtain rfl : ad101 = ad103:=(by injection e103);replace p103:=eq_true p103;replace q103:=eq_true q103))
           go_ret;exact ⟨by first | rfl | (simp;done) | (simp only [← hji10] <;> (first | rfl | simp)) | (simp [*];done),q3_⟩
          ·rw [if_neg c13] at H;have c13b0 : decide ((rd l0 x11_1) ≤ (rd l0 (ji10))) = false:=decide_eq_false c13;clear c13;have H' := Aside0.mk H;clear H;have p101 : 0 ≤ (x11_1 : Int):=of_decide_eq_true (q2_);have q101 : x11_1 < (l0.length : Int):=of_decide_eq_true (q2_);obtain ⟨ad101,e101,hx101_0⟩:=Kd.at_int HR0.out x11_1 p101 q101;cases e101;replace p101:=eq_true p101;replace q101:=eq_true q101;go_wp2_with (first | ((with_reducible refine gate_callee (f:=146) rfl ?_);refine goesL_ (some 19) rfl rfl Try.func146 (by kernel_rfl) rfl #[.int .i64 (rd l0 x11_1),.int .i64 a1,.int .i64 a2] rfl (q9_) ?_;(with_reducible refine (spec_l1In.calls (rd l0 x11_1) a1 a2 true _ A7.out).mono ?_);rintro e w' ⟨rfl,⟨nd,rfl⟩⟩;refine ⟨_,rfl,?_⟩;have p103 : 0 ≤ ((ji10) : Int):=of_decide_eq_true (q2_);have q103 : (ji10) < (l0.length : Int):=of_decide_eq_true (q2_);obtain ⟨ad103,e103,hx103_0⟩:=Kd.at_int HR0.out (ji10) p103 q103;obtain rfl : ad101 = ad103:=(by injection e103);replace p103:=eq_true p103;replace q103:=eq_true q103))
           go_roundg k1
           case measure=>have:=HK1.out;omega
           case rel=>exact ⟨(wrap64 (x11_1 + 1)),(q1_),H', ⟨by have:=HK1.out;omega⟩,q3_⟩
         ·rw [if_neg c12] at H;exact absurd H (by simp)
        ·rw [if_neg c11] at H;exact absurd H (by simp)
       ·rw [if_neg c9] at H;have c9b0 : decide (0 < x11_1) = false:=decide_eq_false c9;clear c9;have H' := Aside0.mk H;clear H;have p101 : 0 ≤ (x11_1 : Int):=of_decide_eq_true (q2_);have q101 : x11_1 < (l0.length : Int):=of_decide_eq_true (q2_);obtain ⟨ad101,e101,hx101_0⟩:=Kd.at_int HR0.out x11_1 p101 q101;cases e101;replace p101:=eq_true p101;replace q101:=eq_true q101;go_wp2_with (first | ((with_reducible refine gate_callee (f:=146) rfl ?_);refine goesL_ (some 19) rfl rfl Try.func146 (by kernel_rfl) rfl #[.int .i64 (rd l0 x11_1),.int .i64 a1,.int .i64 a2] rfl (q9_) ?_;(with_reducible refine (spec_l1In.calls (rd l0 x11_1) a1 a2 true _ A7.out).mono ?_);rintro e w' ⟨rfl,⟨nd,rfl⟩⟩;refine ⟨_,rfl,?_⟩))
        go_roundg k1
        case measure=>have:=HK1.out;omega
        case rel=>exact ⟨(wrap64 (x11_1 + 1)),(q1_),H', ⟨by have:=HK1.out;omega⟩,q3_⟩
      ·replace c8:=Bool.eq_false_iff.mpr c8;subst c8;have H1 : (some false) = some r:=by rw [if_neg (show ¬ (false = true) by decide)] at H;exact H
       clear H;have H:=H1;clear H1;obtain rfl:=Option.some.inj H;have p101 : 0 ≤ (x11_1 : Int):=of_decide_eq_true (q2_);have q101 : x11_1 < (l0.length : Int):=of_decide_eq_true (q2_);obtain ⟨ad101,e101,hx101_0⟩:=Kd.at_int HR0.out x11_1 p101 q101;cases e101;replace p101:=eq_true p101;replace q101:=eq_true q101;go_wp2_with (first | ((with_reducible refine gate_callee (f:=146) rfl ?_);refine goesL_ (some 19) rfl rfl Try.func146 (by kernel_rfl) rfl #[.int .i64 (rd l0 x11_1),.int .i64 a1,.int .i64 a2] rfl (q9_) ?_;(with_reducible refine (spec_l1In.calls (rd l0 x11_1) a1 a2 false _ A7.out).mono ?_);rintro e w' ⟨rfl,⟨nd,rfl⟩⟩;refine ⟨_,rfl,?_⟩))
       go_ret;exact ⟨q1_,q3_⟩
     ·rw [if_neg c6] at H;exact absurd H (by simp)
    ·rw [if_neg c5] at H;exact absurd H (by simp)
   ·rw [if_neg c4] at H;have c4b0 : decide (x11_1 < (l0.length : Int)) = false:=decide_eq_false c4;clear c4;obtain rfl:=Option.some.inj H;go_wp2;go_ret;exact ⟨q1_,q3_⟩
/-! ### spec_spSet: function 217 -/
def spec_spSet.f (k : Nat) (l0 : List Int) : Option (Bool):=(spec_l1Rising.f k l0 0 12).bind fun t101=>(some t101)
set_option maxHeartbeats 8000000 in
set_option maxRecDepth 100000 in
theorem spec_spSet.calls (k : Nat) (A0 : Option Addr) (c0 : Nat) (l0 : List Int) (r : Bool) (w : World) (hr0 : Kd.C (Kd.int .i64) w A0 l0.length l0) (hc0 : l0.length ≤ c0) (h : spec_spSet.f k l0 = some r) :
  Calls Try.prog 217 #[.slice A0 l0.length c0] w fun e w' => e = .returned (.bool r) ∧ Drawn0 w w' := by
 have HR0:=Aside0.mk hr0;have HC0:=Aside0.mk hc0;clear hr0 hc0;have H : ((spec_l1Rising.f k l0 0 12).bind fun t101=>(some t101)) = some r:=h;clear h;replace H:=Option.bind_eq_some_iff.mp H;obtain ⟨t101,A20,H⟩:=H;(try dsimp only at H);have A2:=Aside0.mk A20;clear A20;obtain rfl:=Option.some.inj H;go_enter Try.func217,Try.ntmps217
 go_wp2_with (first | ((with_reducible refine gate_callee (f:=259) rfl ?_);refine goesL_ (some 4) rfl rfl Try.func259 (by kernel_rfl) rfl #[.slice A0 l0.length c0,.int .i64 0,.int .i64 12] rfl (q9_) ?_;(with_reducible refine (spec_l1Rising.calls k _ _ l0 0 12 t101 _ ?side1 ?side2 A2.out).mono ?_);(case side1=>exact cX_ HR0.out);(case side2=>exact HC0.out);rintro e w' ⟨rfl,⟨nd,rfl⟩⟩;refine ⟨_,rfl,?_⟩))
 go_ret;exact ⟨q1_,q3_⟩
/-! ### spec_l1Same: function 218 -/
def spec_l1Same.l0 : Nat → List Int → List Int → Int → Int → Option (Bool)
 | 0,_,_,_,_=>none
 | k + 1,x0,x1,x12,x13=>if x13 < x12 then (if 0 ≤ x13 then (if x13 < (x0.length : Int) then (if x13 < (x1.length : Int) then (if (rd x0 x13) = (rd x1 x13) then (spec_l1Same.l0 k x0 x1 x12 (wrap64 (x13 + 1))) else (some false)) else (none)) else (none)) else (none)) else (some true)
def spec_l1Same.f (k : Nat) (l0 : List Int) (l1 : List Int) : Option (Bool):=if (l0.length : Int) = (l1.length : Int) then (spec_l1Same.l0 k l0 l1 (l0.length : Int) 0) else (some false)
set_option maxHeartbeats 8000000 in
set_option maxRecDepth 100000 in
theorem spec_l1Same.calls (k : Nat) (A0 : Option Addr) (c0 : Nat) (l0 : List Int) (A1 : Option Addr) (c1 : Nat) (l1 : List Int) (r : Bool) (w : World) (hr0 : Kd.C (Kd.int .i64) w A0 l0.length l0) (hc0 : l0.length ≤ c0) (hr1 : Kd.C (Kd.int .i64) w A1 l1.length l1) (hc1 : l1.length ≤ c1) (h : spec_l1Same.f k l0 l1 = some r) :
  Calls Try.prog 218 #[.slice A0 l0.length c0,.slice A1 l1.length c1] w fun e w' => e = .returned (.bool r) ∧ Drawn0 w w' := by
 have HR0:=Aside0.mk hr0;have HC0:=Aside0.mk hc0;clear hr0 hc0;have HR1:=Aside0.mk hr1;have HC1:=Aside0.mk hc1;clear hr1 hc1;have H : (if (l0.length : Int) = (l1.length : Int) then (spec_l1Same.l0 k l0 l1 (l0.length : Int) 0) else (some false)) = some r:=h;clear h;by_cases c3 : (l0.length : Int) = (l1.length : Int)
 ·rw [if_pos c3] at H;have c3b0 : ((l0.length : Int) == (l1.length : Int)) = true:=beq_iff_eq.mpr c3;have c3b1 : ((l0.length : Int) != (l1.length : Int)) = false:=bne_eq_false_iff_eq.mpr c3;have c3b2 : (l0.length == l1.length) = true:=by first | simpa using c3 | (simp at c3 ⊢;omega)
  clear c3;have H' := Aside0.mk H;clear H;go_enter Try.func218,Try.ntmps218
  go_wp2;repeat (go_quiet (fail);try go_wp2)
  go_loopg [13] k (fun kq v13 w' => ∃ (x13_1 : Int),v13 = .int .i64 x13_1 ∧ Aside0 (spec_l1Same.l0 kq l0 l1 (l0.length : Int) x13_1 = some r) ∧ Aside0 (kq ≤ k) ∧ Drawn0 w w')
  case atStart=>exact ⟨(0),(q1_),H', ⟨Nat.le_refl _⟩,q3_⟩
  case round =>
   clear H';try clear c1
   try clear c3
   try clear c3b0
   try clear c3b1
   try clear c3b2
   obtain ⟨x13_1,rfl,HA,HK1,⟨m1,rfl⟩⟩:=hrel;cases gk with
   | zero=>exact absurd HA.out (by simp [spec_l1Same.l0])
   | succ k1 =>
    have H:=HA.out;clear HA;simp only [spec_l1Same.l0] at H;by_cases c4 : x13_1 < (l0.length : Int)
    ·rw [if_pos c4] at H;have c4b0 : decide (x13_1 < (l0.length : Int)) = true:=decide_eq_true c4;clear c4;by_cases c5 : 0 ≤ x13_1
     ·rw [if_pos c5] at H;have c5b0 : decide (0 ≤ x13_1) = true:=decide_eq_true c5;clear c5;by_cases c6 : x13_1 < (l0.length : Int)
      ·rw [if_pos c6] at H;have c6b0 : decide (x13_1 < (l0.length : Int)) = true:=decide_eq_true c6;clear c6;by_cases c7 : x13_1 < (l1.length : Int)
       ·rw [if_pos c7] at H;have c7b0 : decide (x13_1 < (l1.length : Int)) = true:=decide_eq_true c7;clear c7;by_cases c8 : (rd l0 x13_1) = (rd l1 x13_1)
        ·rw [if_pos c8] at H;have c8b0 : ((rd l0 x13_1) == (rd l1 x13_1)) = true:=beq_iff_eq.mpr c8;have c8b1 : ((rd l0 x13_1) != (rd l1 x13_1)) = false:=bne_eq_false_iff_eq.mpr c8;clear c8;have H' := Aside0.mk H;clear H;have p101 : 0 ≤ (x13_1 : Int):=of_decide_eq_true (q2_);have q101 : x13_1 < (l0.length : Int):=of_decide_eq_true (q2_);obtain ⟨ad101,e101,hx101_0⟩:=Kd.at_int HR0.out x13_1 p101 q101;cases e101;replace p101:=eq_true p101;replace q101:=eq_true q101;have p102 : 0 ≤ (x13_1 : Int):=of_decide_eq_true (q2_);have q102 : x13_1 < (l1.length : Int):=of_decide_eq_true (q2_);obtain ⟨ad102,e102,hx102_0⟩:=Kd.at_int HR1.out x13_1 p102 q102;cases e102;replace p102:=eq_true p102;replace q102:=eq_true q102;go_wp2;repeat (go_quiet (fail);try go_wp2)
         go_roundg k1
         case measure=>have:=HK1.out;omega
         case rel=>exact ⟨(wrap64 (x13_1 + 1)),(q1_),H', ⟨by have:=HK1.out;omega⟩,q3_⟩
        ·rw [if_neg c8] at H;have c8b0 : ((rd l0 x13_1) == (rd l1 x13_1)) = false:=beq_eq_false_iff_ne.mpr c8;have c8b1 : ((rd l0 x13_1) != (rd l1 x13_1)) = true:=bne_iff_ne.mpr c8;obtain rfl:=Option.some.inj H;have p101 : 0 ≤ (x13_1 : Int):=of_decide_eq_true (q2_);have q101 : x13_1 < (l0.length : Int):=of_decide_eq_true (q2_);obtain ⟨ad101,e101,hx101_0⟩:=Kd.at_int HR0.out x13_1 p101 q101;cases e101;replace p101:=eq_true p101;replace q101:=eq_true q101;have p102 : 0 ≤ (x13_1 : Int):=of_decide_eq_true (q2_);have q102 : x13_1 < (l1.length : Int):=of_decide_eq_true (q2_);obtain ⟨ad102,e102,hx102_0⟩:=Kd.at_int HR1.out x13_1 p102 q102;cases e102;replace p102:=eq_true p102;replace q102:=eq_true q102;go_wp2;repeat (go_quiet (fail);try go_wp2)
         go_ret;exact ⟨q1_,q3_⟩
       ·rw [if_neg c7] at H;exact absurd H (by simp)
      ·rw [if_neg c6] at H;exact absurd H (by simp)
     ·rw [if_neg c5] at H;exact absurd H (by simp)
    ·rw [if_neg c4] at H;have c4b0 : decide (x13_1 < (l0.length : Int)) = false:=decide_eq_false c4;clear c4;obtain rfl:=Option.some.inj H;go_wp2;repeat (go_quiet (fail);try go_wp2)
     go_ret;exact ⟨q1_,q3_⟩
 ·rw [if_neg c3] at H;have c3b0 : ((l0.length : Int) == (l1.length : Int)) = false:=beq_eq_false_iff_ne.mpr c3;have c3b1 : ((l0.length : Int) != (l1.length : Int)) = true:=bne_iff_ne.mpr c3;have c3b2 : (l0.length == l1.length) = false:=by first | simpa using c3 | (simp at c3 ⊢;omega)
  obtain rfl:=Option.some.inj H;go_enter Try.func218,Try.ntmps218
  go_wp2;repeat (go_quiet (fail);try go_wp2)
  go_ret;exact ⟨q1_,q3_⟩
end Go.Proofs.Ytgapcmmhbegdeaa.G
