-- Written by this session's own program over the kit's print (wip/tools/myprint.py); Lean checks it.
import Derived.Test.YtglcpghappepaaaGreatDoorMBase
import Derived.Test.YtglcpghappepaaaGreatDoorG0
import Derived.Test.YtglcpghappepaaaGreatDoorG2
namespace Go.Proofs.YtglcpghappepaaaGreatDoor.G
open Go.RowKit Go.Proofs.YtglcpghappepaaaGreatDoorW.PrintWords Go.Proofs.YtglcpghappepaaaGreatDoorW.PrintLast Go.Proofs.YtglcpghappepaaaGreatDoorW.PrintMore
attribute [local go_sem] max2_int min2_int max_two min_two max_three min_three max_four min_four str_geq str_gtr str_leq   -- for this text's walks alone
set_option linter.unusedVariables false
set_option linter.unusedSimpArgs false
/-! ### yAb: function 51 -/
def yAb.l0 : Nat → ByteArray → Int → List ByteArray → Int → Int → Option (List ByteArray)
 | 0,_,_,_,_,_=>none
 | k + 1,x0,x1,x5,x6,x7=>if x7 < (x0.size : Int) then (if 0 ≤ x7 then (if (bt x0 x7) = x1 then (if 0 ≤ x6 then (if x6 ≤ x7 then (if x7 ≤ (x0.size : Int) then (if x5.length < 8796093022208 then (yAb.l0 k x0 x1 (x5 ++ [x0.extract (x6 : Int).toNat (x7 : Int).toNat]) (wrap64 (x7 + 1)) (wrap64 (x7 + 1))) else (none)) else (none)) else (none)) else (none)) else (yAb.l0 k x0 x1 x5 x6 (wrap64 (x7 + 1)))) else (none)) else (if 0 ≤ x6 then (if x6 ≤ (x0.size : Int) then (if x5.length < 8796093022208 then (some (x5 ++ [x0.extract (x6 : Int).toNat x0.size])) else (none)) else (none)) else (none))
def yAb.f (k : Nat) (a0 : ByteArray) (a1 : Int) : Option (List ByteArray):=yAb.l0 k a0 a1 ([] : List ByteArray) 0 0
set_option maxHeartbeats 8000000 in
set_option maxRecDepth 100000 in
theorem yAb.calls (k : Nat) (a0 : ByteArray) (a1 : Int) (r : List ByteArray) (w : World) (h : yAb.f k a0 a1 = some r) :
  Calls Tryz.prog 51 #[.string a0,.int .u8 a1] w fun e w' => ∃ v0_ : Value,e = .returned (v0_) ∧ Kd.R Kd.string 9 w' w.heap.size (fun _=>True) v0_ r ∧ Below w.heap.size w w' := by
 have HB:=Aside0.mk (Below.refl w.heap.size w);have H : (yAb.l0 k a0 a1 ([] : List ByteArray) 0 0) = some r:=h;clear h;have H' := Aside0.mk H;clear H;go_enter Tryz.func51,Tryz.ntmps51
 go_wp2;go_loopg [5,6,7] k (fun kq v5 v6 v7 w' => ∃ (x5_1 : List ByteArray) (x6_1 : Int) (x7_1 : Int),v6 = .int .i64 x6_1 ∧ v7 = .int .i64 x7_1 ∧ Aside0 (yAb.l0 kq a0 a1 x5_1 x6_1 x7_1 = some r) ∧ Aside0 (kq ≤ k) ∧ Aside0 (Kd.R Kd.string 9 w' w.heap.size (fun _=>True) v5 x5_1) ∧ Aside0 (Below w.heap.size w w'))
 case atStart=>exact ⟨(([] : List ByteArray)),(0),(0),(q3_),(q3_),H', ⟨Nat.le_refl _⟩,⟨q22_⟩,⟨q20_⟩⟩
 case round =>
  clear H';obtain ⟨x5_1,x6_1,x7_1,rfl,rfl,HA,HK1,HO_5,HB⟩:=hrel;cases gk with
  | zero=>exact absurd HA.out (by simp [yAb.l0])
  | succ k1 =>
   have H:=HA.out;clear HA;simp only [yAb.l0] at H;by_cases c3 : x7_1 < (a0.size : Int)
   ·rw [if_pos c3] at H;have c3b0:=decide_eq_true c3;clear c3;by_cases c4 : 0 ≤ x7_1
    ·rw [if_pos c4] at H;have c4b0:=decide_eq_true c4;clear c4;by_cases c6 : (bt a0 x7_1) = a1
     ·rw [if_pos c6] at H;have c6b0 : ((bt a0 x7_1) == a1) = true:=beq_iff_eq.mpr c6;have c6b1 : ((bt a0 x7_1) != a1) = false:=bne_eq_false_iff_eq.mpr c6;clear c6;by_cases c7 : 0 ≤ x6_1
      ·rw [if_pos c7] at H;have c7b0:=eq_true c7;have c7b1:=decide_eq_true c7;clear c7;by_cases c8 : x6_1 ≤ x7_1
       ·rw [if_pos c8] at H;have c8b0:=eq_true c8;have c8b1:=decide_eq_true c8;clear c8;by_cases c9 : x7_1 ≤ (a0.size : Int)
        ·rw [if_pos c9] at H;have c9b0:=eq_true c9;have c9b1:=decide_eq_true c9;clear c9;by_cases c10 : x5_1.length < 8796093022208
         ·rw [if_pos c10] at H;have LMc10:=Aside0.mk c10;clear c10;obtain ⟨y101,hy101⟩ : ∃ y_ : List ByteArray,y_ = (x5_1 ++ [a0.extract (x6_1 : Int).toNat (x7_1 : Int).toNat]):=⟨_,rfl⟩;replace H : (yAb.l0 k1 a0 a1 y101 (wrap64 (x7_1 + 1)) (wrap64 (x7_1 + 1))) = some r:=by first | (rw [hy101];with_reducible exact H) | (have H2_:=(Option.bind_some _ _).symm.trans H;rw [hy101];with_reducible exact H2_) | (have H2_:=(Option.bind_some _ _).symm.trans H;with_reducible exact H2_) | with_reducible exact H | (rw [hy101];exact H) | exact H
          have Ny101:=Aside0.mk hy101;clear hy101;have H' := Aside0.mk H;clear H;have p5 : 0 ≤ (x7_1 : Int):=of_decide_eq_true (q4_);have q5 : x7_1 < (a0.size : Int):=of_decide_eq_true (q4_);have hx5:=bt_at a0 x7_1;replace p5:=eq_true p5;replace q5:=eq_true q5;go_wp2_with (first | ((with_reducible refine gate_builtin (b:=.append) (xs:=#[.tmp 19,.tmp 24]) rfl ?_);at_builtin;refine Kd.R_append Kd.string (w0:=w) w.heap.size rfl (.tmp 19) (.tmp 24) 67 9 (.string ⟨#[]⟩) 16 rfl Tryz.underlying67 info9 rfl (by decide) (by omega) u5 x5_1 (a0.extract (x6_1 : Int).toNat (x7_1 : Int).toNat) [.string (a0.extract (x6_1 : Int).toNat (x7_1 : Int).toNat)] (fun _=>True) (fun _=>False) rfl rfl ?aP (fun _ hk=>hk.elim) ?aF ?aO ?aB ?aS ?aL ?_;(case aP=>exact rfl);(case aB=>exact (q20_));(case aF=>exact (fun _ _=>trivial));(case aO=>exact (q8_));(case aS=>exact (below_size (q20_)));(case aL=>have:=LMc10.out;omega);intro v102 w11 ho hb hg hat;rw [← Ny101.out] at ho;replace HB:=Aside0.mk (hb);have HO103:=Aside0.mk (ho);clear HO_5;clear ho hb hg hat))
          go_roundg k1
          case measure=>have:=HK1.out;omega
          case rel=>exact ⟨(y101),(wrap64 (x7_1 + 1)),(wrap64 (x7_1 + 1)),(q3_),(q3_),H', ⟨by have:=HK1.out;omega⟩,⟨q11_⟩,⟨q20_⟩⟩
         ·rw [if_neg c10] at H;exact absurd H (q1_)
        ·rw [if_neg c9] at H;exact absurd H (q1_)
       ·rw [if_neg c8] at H;exact absurd H (q1_)
      ·rw [if_neg c7] at H;exact absurd H (q1_)
     ·rw [if_neg c6] at H;have c6b0 : ((bt a0 x7_1) == a1) = false:=beq_eq_false_iff_ne.mpr c6;have c6b1 : ((bt a0 x7_1) != a1) = true:=bne_iff_ne.mpr c6;have H' := Aside0.mk H;clear H;have p5 : 0 ≤ (x7_1 : Int):=of_decide_eq_true (q4_);have q5 : x7_1 < (a0.size : Int):=of_decide_eq_true (q4_);have hx5:=bt_at a0 x7_1;replace p5:=eq_true p5;replace q5:=eq_true q5;go_wp2;go_roundg k1
      case measure=>have:=HK1.out;omega
      case rel=>exact ⟨(x5_1),(x6_1),(wrap64 (x7_1 + 1)),(q3_),(q3_),H', ⟨by have:=HK1.out;omega⟩,⟨q8_⟩,⟨q20_⟩⟩
    ·rw [if_neg c4] at H;exact absurd H (q1_)
   ·rw [if_neg c3] at H;have c3b0:=decide_eq_false c3;clear c3;by_cases c12 : 0 ≤ x6_1
    ·rw [if_pos c12] at H;have c12b0:=eq_true c12;have c12b1:=decide_eq_true c12;clear c12;by_cases c13 : x6_1 ≤ (a0.size : Int)
     ·rw [if_pos c13] at H;have c13b0:=eq_true c13;have c13b1:=decide_eq_true c13;clear c13;by_cases c14 : x5_1.length < 8796093022208
      ·rw [if_pos c14] at H;have LMc14:=Aside0.mk c14;clear c14;obtain ⟨y104,hy104⟩ : ∃ y_ : List ByteArray,y_ = (x5_1 ++ [a0.extract (x6_1 : Int).toNat a0.size]):=⟨_,rfl⟩;replace H : (some y104) = some r:=by first | (rw [hy104];with_reducible exact H) | (have H2_:=(Option.bind_some _ _).symm.trans H;rw [hy104];with_reducible exact H2_) | (have H2_:=(Option.bind_some _ _).symm.trans H;with_reducible exact H2_) | with_reducible exact H | (rw [hy104];exact H) | exact H
       have Ny104:=Aside0.mk hy104;clear hy104;obtain rfl:=Option.some.inj H;go_wp2_with (first | ((with_reducible refine gate_builtin (b:=.append) (xs:=#[.tmp 28,.tmp 32]) rfl ?_);at_builtin;refine Kd.R_append Kd.string (w0:=w) w.heap.size rfl (.tmp 28) (.tmp 32) 67 9 (.string ⟨#[]⟩) 16 rfl Tryz.underlying67 info9 rfl (by decide) (by omega) u5 x5_1 (a0.extract (x6_1 : Int).toNat a0.size) [.string (a0.extract (x6_1 : Int).toNat a0.size)] (fun _=>True) (fun _=>False) rfl rfl ?aP (fun _ hk=>hk.elim) ?aF ?aO ?aB ?aS ?aL ?_;(case aP=>exact rfl);(case aB=>exact (q20_));(case aF=>exact (fun _ _=>trivial));(case aO=>exact (q8_));(case aS=>exact (below_size (q20_)));(case aL=>have:=LMc14.out;omega);intro v105 w15 ho hb hg hat;rw [← Ny104.out] at ho;replace HB:=Aside0.mk (hb);have HO106:=Aside0.mk (ho);clear HO_5;clear ho hb hg hat))
       go_ret;exact ⟨_,q6_,by (with_reducible repeat (first | apply Kd.R_alloc | apply Kd.R_drewN | apply Kd.R_drew));exact HO106.out,q20_⟩
      ·rw [if_neg c14] at H;exact absurd H (q1_)
     ·rw [if_neg c13] at H;exact absurd H (q1_)
    ·rw [if_neg c12] at H;exact absurd H (q1_)
/-! ### yAR: function 52 -/
mutual
def yAR.j0 : Nat → ByteArray → Bool → Option (Int)
 | 0,_,_=>none
 | k + 1,x0,x18=>if x18 = true then (some (-1)) else (yAR.l0 k x0 0 0)
def yAR.l0 : Nat → ByteArray → Int → Int → Option (Int)
 | 0,_,_,_=>none
 | k + 1,x0,x3,x4=>if x4 < (x0.size : Int) then (if 0 ≤ x4 then (if (bt x0 x4) < 48 then (some (-1)) else (if (bt x0 x4) > 57 then (some (-1)) else (yAR.l0 k x0 (wrap64 ((wrap64 (10 * x3)) + (((bt x0 x4) - 48) % 256))) (wrap64 (x4 + 1))))) else (none)) else (some x3)
end
def yAR.f (k : Nat) (a0 : ByteArray) : Option (Int):=(yA7.f (a0.size : Int) 1 6).bind fun t101=>(if t101 = true then (if 0 < (a0.size : Int) then (if (bt a0 0) = 48 then (yAR.j0 k a0 (decide ((a0.size : Int) > 1))) else (yAR.j0 k a0 false)) else (none)) else (yAR.j0 k a0 true))
set_option maxHeartbeats 8000000 in
set_option maxRecDepth 100000 in
theorem yAR.calls (k : Nat) (a0 : ByteArray) (r : Int) (w : World) (h : yAR.f k a0 = some r) :
  Calls Tryz.prog 52 #[.string a0] w fun e w' => e = .returned (.int .i64 r) ∧ Drawn0 w w' := by
 have H : ((yA7.f (a0.size : Int) 1 6).bind fun t101=>(if t101 = true then (if 0 < (a0.size : Int) then (if (bt a0 0) = 48 then (yAR.j0 k a0 (decide ((a0.size : Int) > 1))) else (yAR.j0 k a0 false)) else (none)) else (yAR.j0 k a0 true))) = some r:=h;clear h;have HC2:=Aside0.mk H;clear H;go_enter Tryz.func52,Tryz.ntmps52
 go_upto_region 1 with (fail)
 go_cut [18] (fun v18 wc=>∃ (kq : Nat) (x18_1 : Bool),v18 = .bool x18_1 ∧ Aside0 (yAR.j0 kq a0 x18_1 = some r) ∧ Aside0 (kq ≤ k) ∧ Drawn0 w wc)
 case first =>
  have H:=HC2.out;clear HC2;replace H:=Option.bind_eq_some_iff.mp H;obtain ⟨t101,A30,H⟩:=H;(try dsimp only at H);have A3:=Aside0.mk A30;clear A30;by_cases c4 : t101 = true
  ·subst c4;rw [if_pos rfl] at H;by_cases c5 : 0 < (a0.size : Int)
   ·rw [if_pos c5] at H;have c5b0:=decide_eq_true c5;have c5b1 : decide (0 < a0.size) = true:=decide_eq_true (by omega);clear c5
    (first | rw [c5b0] | (simp only [i64_w,i32_w];rw [c5b0]) | skip)
    by_cases c7 : (bt a0 0) = 48
    ·rw [if_pos c7] at H;have c7b0 : ((bt a0 0) == 48) = true:=beq_iff_eq.mpr c7;have c7b1 : ((bt a0 0) != 48) = false:=bne_eq_false_iff_eq.mpr c7;clear c7;have H' := Aside0.mk H;clear H;go_wp2_with (first | ((with_reducible refine gate_callee (f:=73) rfl ?_);refine goesL_ (some 7) rfl rfl Tryz.func73 (by kernel_rfl) rfl #[.int .i64 (a0.size : Int),.int .i64 1,.int .i64 6] rfl (q21_) ?_;(with_reducible refine (yA7.calls (a0.size : Int) 1 6 true _ A3.out).mono ?_);rintro e w' ⟨rfl,⟨nd,rfl⟩⟩;refine ⟨_,rfl,?_⟩;have p6 : 0 ≤ (0 : Int):=(by omega);have q6 : 0 < a0.size:=(by have : (0 : Int) < (a0.size : Int):=of_decide_eq_true (q4_);omega);have hx6 : ∀ h : 0 < a0.size,((a0[0]'h).toNat : Int) = bt a0 0:=bt_at a0 0;clear p6;have qi6 : (0 < (a0.size : Int)) = True:=eq_true (of_decide_eq_true (q4_));replace q6:=eq_true q6))
     go_meet
     case rel=>exact ⟨_,(decide ((a0.size : Int) > 1)),(q3_),H', ⟨q2_⟩,q5_⟩
    ·rw [if_neg c7] at H;have c7b0 : ((bt a0 0) == 48) = false:=beq_eq_false_iff_ne.mpr c7;have c7b1 : ((bt a0 0) != 48) = true:=bne_iff_ne.mpr c7;have H' := Aside0.mk H;clear H;go_wp2_with (first | ((with_reducible refine gate_callee (f:=73) rfl ?_);refine goesL_ (some 7) rfl rfl Tryz.func73 (by kernel_rfl) rfl #[.int .i64 (a0.size : Int),.int .i64 1,.int .i64 6] rfl (q21_) ?_;(with_reducible refine (yA7.calls (a0.size : Int) 1 6 true _ A3.out).mono ?_);rintro e w' ⟨rfl,⟨nd,rfl⟩⟩;refine ⟨_,rfl,?_⟩;have p6 : 0 ≤ (0 : Int):=(by omega);have q6 : 0 < a0.size:=(by have : (0 : Int) < (a0.size : Int):=of_decide_eq_true (q4_);omega);have hx6 : ∀ h : 0 < a0.size,((a0[0]'h).toNat : Int) = bt a0 0:=bt_at a0 0;clear p6;have qi6 : (0 < (a0.size : Int)) = True:=eq_true (of_decide_eq_true (q4_));replace q6:=eq_true q6))
     go_meet
     case rel=>exact ⟨_,(false),(q3_),H', ⟨q2_⟩,q5_⟩
   ·rw [if_neg c5] at H;exact absurd H (q1_)
  ·replace c4:=Bool.eq_false_iff.mpr c4;subst c4;rw [if_neg (show ¬ (false = true) by decide)] at H;have H' := Aside0.mk H;clear H;go_wp2_with (first | ((with_reducible refine gate_callee (f:=73) rfl ?_);refine goesL_ (some 7) rfl rfl Tryz.func73 (by kernel_rfl) rfl #[.int .i64 (a0.size : Int),.int .i64 1,.int .i64 6] rfl (q21_) ?_;(with_reducible refine (yA7.calls (a0.size : Int) 1 6 false _ A3.out).mono ?_);rintro e w' ⟨rfl,⟨nd,rfl⟩⟩;refine ⟨_,rfl,?_⟩))
   go_meet
   case rel=>exact ⟨_,(true),(q3_),H', ⟨q2_⟩,q5_⟩
 case rest =>
  clear HC2;try clear c4
  obtain ⟨kq,x18_1,rfl,HA,HJ1,⟨mc1,rfl⟩⟩:=hcut;cases kq with
  | zero=>exact absurd HA.out (by simp [yAR.j0])
  | succ kj1 =>
   have H:=HA.out;clear HA;simp only [yAR.j0] at H;by_cases c8 : x18_1 = true
   ·subst c8;rw [if_pos rfl] at H;obtain rfl:=Option.some.inj H;go_wp2;go_ret;exact ⟨q3_,q5_⟩
   ·replace c8:=Bool.eq_false_iff.mpr c8;subst c8;rw [if_neg (show ¬ (false = true) by decide)] at H;have H' := Aside0.mk H;clear H;go_wp2;go_loopg [3,4] kj1 (fun kq v3 v4 w' => ∃ (x3_2 : Int) (x4_2 : Int),v3 = .int .i64 x3_2 ∧ v4 = .int .i64 x4_2 ∧ Aside0 (yAR.l0 kq a0 x3_2 x4_2 = some r) ∧ Aside0 (kq ≤ kj1) ∧ Drawn0 w w')
    case atStart=>exact ⟨(0),(0),(q3_),(q3_),H', ⟨Nat.le_refl _⟩,q5_⟩
    case round =>
     clear H';try clear c4
     try clear c8
     obtain ⟨x3_2,x4_2,rfl,rfl,HA,HK2,⟨m2,rfl⟩⟩:=hrel;cases gk with
     | zero=>exact absurd HA.out (by simp [yAR.l0])
     | succ k2 =>
      have H:=HA.out;clear HA;simp only [yAR.l0] at H;by_cases c9 : x4_2 < (a0.size : Int)
      ·rw [if_pos c9] at H;have c9b0:=decide_eq_true c9;clear c9;by_cases c10 : 0 ≤ x4_2
       ·rw [if_pos c10] at H;have c10b0:=decide_eq_true c10;clear c10;by_cases c12 : (bt a0 x4_2) < 48
        ·rw [if_pos c12] at H;have c12b0:=decide_eq_true c12;clear c12;obtain rfl:=Option.some.inj H;have p11 : 0 ≤ (x4_2 : Int):=of_decide_eq_true (q4_);have q11 : x4_2 < (a0.size : Int):=of_decide_eq_true (q4_);have hx11:=bt_at a0 x4_2;replace p11:=eq_true p11;replace q11:=eq_true q11;go_wp2;go_ret;exact ⟨q3_,q5_⟩
        ·rw [if_neg c12] at H;have c12b0:=decide_eq_false c12;clear c12;by_cases c14 : (bt a0 x4_2) > 57
         ·rw [if_pos c14] at H;have c14b0 : decide (57 < (bt a0 x4_2)) = true:=decide_eq_true c14;clear c14;obtain rfl:=Option.some.inj H;have p11 : 0 ≤ (x4_2 : Int):=of_decide_eq_true (q4_);have q11 : x4_2 < (a0.size : Int):=of_decide_eq_true (q4_);have hx11:=bt_at a0 x4_2;replace p11:=eq_true p11;replace q11:=eq_true q11;have p13 : 0 ≤ (x4_2 : Int):=of_decide_eq_true (q4_);have q13 : x4_2 < (a0.size : Int):=of_decide_eq_true (q4_);have hx13:=bt_at a0 x4_2;replace p13:=eq_true p13;replace q13:=eq_true q13;go_wp2;go_ret;exact ⟨q3_,q5_⟩
         ·rw [if_neg c14] at H;have c14b0 : decide (57 < (bt a0 x4_2)) = false:=decide_eq_false c14;clear c14;have H' := Aside0.mk H;clear H;have p11 : 0 ≤ (x4_2 : Int):=of_decide_eq_true (q4_);have q11 : x4_2 < (a0.size : Int):=of_decide_eq_true (q4_);have hx11:=bt_at a0 x4_2;replace p11:=eq_true p11;replace q11:=eq_true q11;have p13 : 0 ≤ (x4_2 : Int):=of_decide_eq_true (q4_);have q13 : x4_2 < (a0.size : Int):=of_decide_eq_true (q4_);have hx13:=bt_at a0 x4_2;replace p13:=eq_true p13;replace q13:=eq_true q13;have p15 : 0 ≤ (x4_2 : Int):=of_decide_eq_true (q4_);have q15 : x4_2 < (a0.size : Int):=of_decide_eq_true (q4_);have hx15:=bt_at a0 x4_2;replace p15:=eq_true p15;replace q15:=eq_true q15;go_wp2;go_roundg k2
          case measure=>have:=HJ1.out;have:=HK2.out;omega
          case rel=>exact ⟨(wrap64 ((wrap64 (10 * x3_2)) + (((bt a0 x4_2) - 48) % 256))),(wrap64 (x4_2 + 1)),(q3_),(q3_),H', ⟨by have:=HJ1.out;have:=HK2.out;omega⟩,q5_⟩
       ·rw [if_neg c10] at H;exact absurd H (q1_)
      ·rw [if_neg c9] at H;have c9b0:=decide_eq_false c9;clear c9;obtain rfl:=Option.some.inj H;go_wp2;go_ret;exact ⟨q3_,q5_⟩
end Go.Proofs.YtglcpghappepaaaGreatDoor.G
