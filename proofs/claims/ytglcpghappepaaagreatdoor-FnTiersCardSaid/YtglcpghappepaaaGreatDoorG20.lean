-- Written by this session's own program over the kit's print (wip/tools/myprint.py); Lean checks it.
import Derived.Test.YtglcpghappepaaaGreatDoorMBase
import Derived.Test.YtglcpghappepaaaGreatDoorG0
import Derived.Test.YtglcpghappepaaaGreatDoorG6
import Derived.Test.YtglcpghappepaaaGreatDoorG16
import Derived.Test.YtglcpghappepaaaGreatDoorG17
import Derived.Test.YtglcpghappepaaaGreatDoorG19
import Derived.Test.YtglcpghappepaaaGreatDoorMTabA
import Derived.Test.YtglcpghappepaaaGreatDoorMSeq
namespace Go.Proofs.YtglcpghappepaaaGreatDoor.G
open Go.RowKit Go.Proofs.YtglcpghappepaaaGreatDoorW.PrintWords Go.Proofs.YtglcpghappepaaaGreatDoorW.PrintLast Go.Proofs.YtglcpghappepaaaGreatDoorW.PrintMore
attribute [local go_sem] max2_int min2_int max_two min_two max_three min_three max_four min_four str_geq str_gtr str_leq   -- for this text's walks alone
set_option linter.unusedVariables false
set_option linter.unusedSimpArgs false
/-! ### stringslite_Cut: function 70 -/
def stringslite_Cut.f (a0 : ByteArray) (a1 : ByteArray) : Option (ByteArray × ByteArray × Bool):=(stringslite_Index.f a0 a1).bind fun t101=>(if t101 ≥ 0 then (if 0 ≤ t101 then (if t101 ≤ (a0.size : Int) then (if 0 ≤ (wrap64 (t101 + (a1.size : Int))) then (if (wrap64 (t101 + (a1.size : Int))) ≤ (a0.size : Int) then (some (a0.extract 0 (t101 : Int).toNat,a0.extract ((wrap64 (t101 + (a1.size : Int))) : Int).toNat a0.size,true)) else (none)) else (none)) else (none)) else (none)) else (some (a0,(⟨#[]⟩ : ByteArray),false)))
set_option maxHeartbeats 8000000 in
set_option maxRecDepth 100000 in
theorem stringslite_Cut.calls (a0 : ByteArray) (a1 : ByteArray) (r1 : ByteArray) (r2 : ByteArray) (r3 : Bool) (w : World) (h : stringslite_Cut.f a0 a1 = some (r1,r2,r3)) :
  Calls Tryz.prog 70 #[.string a0,.string a1] w fun e w' => e = .returned (.tuple #[.string r1,.string r2,.bool r3]) ∧ Drawn0 w w' := by
 have H : ((stringslite_Index.f a0 a1).bind fun t101=>(if t101 ≥ 0 then (if 0 ≤ t101 then (if t101 ≤ (a0.size : Int) then (if 0 ≤ (wrap64 (t101 + (a1.size : Int))) then (if (wrap64 (t101 + (a1.size : Int))) ≤ (a0.size : Int) then (some (a0.extract 0 (t101 : Int).toNat,a0.extract ((wrap64 (t101 + (a1.size : Int))) : Int).toNat a0.size,true)) else (none)) else (none)) else (none)) else (none)) else (some (a0,(⟨#[]⟩ : ByteArray),false)))) = some (r1,r2,r3):=h;clear h;replace H:=Option.bind_eq_some_iff.mp H;obtain ⟨t101,A30,H⟩:=H;(try dsimp only at H);have A3:=Aside0.mk A30;clear A30;by_cases c4 : t101 ≥ 0
 ·rw [if_pos c4] at H;have c4b0 : decide (0 ≤ t101) = true:=decide_eq_true c4;clear c4;by_cases c5 : 0 ≤ t101
  ·rw [if_pos c5] at H;have c5b0:=eq_true c5;have c5b1:=decide_eq_true c5;clear c5;by_cases c6 : t101 ≤ (a0.size : Int)
   ·rw [if_pos c6] at H;have c6b0:=eq_true c6;have c6b1:=decide_eq_true c6;clear c6;obtain ⟨ji7,hji7⟩ : ∃ j_ : Int,(wrap64 (t101 + (a1.size : Int))) = j_:=⟨_,rfl⟩;replace H : (if 0 ≤ (ji7) then (if (ji7) ≤ (a0.size : Int) then (some (a0.extract 0 (t101 : Int).toNat,a0.extract ((ji7) : Int).toNat a0.size,true)) else (none)) else (none)) = some (r1,r2,r3):=by first | (rw [hji7] at H;exact H) | (simp only [hji7] at H ⊢;exact H)
    (try rw [hji7] at A3)
    have hji7w : (IntKind.i64.wrap (t101 + (a1.size : Int))) = ji7:=(i64_w _).trans hji7;by_cases c8 : 0 ≤ (ji7)
    ·rw [if_pos c8] at H;have c8b0:=eq_true c8;have c8b1:=decide_eq_true c8;clear c8;by_cases c9 : (ji7) ≤ (a0.size : Int)
     ·rw [if_pos c9] at H;have c9b0:=eq_true c9;have c9b1:=decide_eq_true c9;clear c9;simp only [Option.some.injEq,Prod.mk.injEq] at H;obtain ⟨rfl,rfl,rfl⟩:=H;go_enter Tryz.func70,Tryz.ntmps70
      iterate 3 (go_wp2_with (first | (go_at_call 83;(with_reducible refine (stringslite_Index.calls a0 a1 t101 _ A3.out).mono ?_);rintro e w' ⟨rfl,⟨nd,rfl⟩⟩;(try first | exact ⟨rfl,_,World.drewN_drewN _ _ _⟩ | exact ⟨rfl,_,Eq.trans (World.drewN_drewN _ _ _) (congrArg (World.drewN _) (Nat.add_assoc _ _ _))⟩)));try go_quiet (first | (go_at_call 83;(with_reducible refine (stringslite_Index.calls a0 a1 t101 _ A3.out).mono ?_);rintro e w' ⟨rfl,⟨nd,rfl⟩⟩;(try first | exact ⟨rfl,_,World.drewN_drewN _ _ _⟩ | exact ⟨rfl,_,Eq.trans (World.drewN_drewN _ _ _) (congrArg (World.drewN _) (Nat.add_assoc _ _ _))⟩))))
      go_ret3
      exact ⟨by first | rfl | (simp;done) | (simp only [← hji7] <;> (first | rfl | simp)) | (simp [*];done),q5_⟩
     ·rw [if_neg c9] at H;exact absurd H (q1_)
    ·rw [if_neg c8] at H;exact absurd H (q1_)
   ·rw [if_neg c6] at H;exact absurd H (q1_)
  ·rw [if_neg c5] at H;exact absurd H (q1_)
 ·rw [if_neg c4] at H;have c4b0 : decide (0 ≤ t101) = false:=decide_eq_false c4;clear c4;simp only [Option.some.injEq,Prod.mk.injEq] at H;obtain ⟨rfl,rfl,rfl⟩:=H;go_enter Tryz.func70,Tryz.ntmps70
  iterate 3 (go_wp2_with (first | (go_at_call 83;(with_reducible refine (stringslite_Index.calls a0 a1 t101 _ A3.out).mono ?_);rintro e w' ⟨rfl,⟨nd,rfl⟩⟩;(try first | exact ⟨rfl,_,World.drewN_drewN _ _ _⟩ | exact ⟨rfl,_,Eq.trans (World.drewN_drewN _ _ _) (congrArg (World.drewN _) (Nat.add_assoc _ _ _))⟩)));try go_quiet (first | (go_at_call 83;(with_reducible refine (stringslite_Index.calls a0 a1 t101 _ A3.out).mono ?_);rintro e w' ⟨rfl,⟨nd,rfl⟩⟩;(try first | exact ⟨rfl,_,World.drewN_drewN _ _ _⟩ | exact ⟨rfl,_,Eq.trans (World.drewN_drewN _ _ _) (congrArg (World.drewN _) (Nat.add_assoc _ _ _))⟩))))
  go_ret3
  exact ⟨q3_,q5_⟩
/-! ### yAt: function 48 -/
def yAt.f (a0 : ByteArray) (a1 : ByteArray) : Option (ByteArray × ByteArray × Bool):=(stringslite_Cut.f a0 a1).bind fun bt101=>(some (bt101.1,bt101.2.1,bt101.2.2))
set_option maxHeartbeats 8000000 in
set_option maxRecDepth 100000 in
theorem yAt.calls (a0 : ByteArray) (a1 : ByteArray) (r1 : ByteArray) (r2 : ByteArray) (r3 : Bool) (w : World) (h : yAt.f a0 a1 = some (r1,r2,r3)) :
  Calls Tryz.prog 48 #[.string a0,.string a1] w fun e w' => e = .returned (.tuple #[.string r1,.string r2,.bool r3]) ∧ Drawn0 w w' := by
 have H : ((stringslite_Cut.f a0 a1).bind fun bt101=>(some (bt101.1,bt101.2.1,bt101.2.2))) = some (r1,r2,r3):=h;clear h;replace H:=Option.bind_eq_some_iff.mp H;obtain ⟨⟨t101,t102,t103⟩,A30,H⟩:=H;(try dsimp only at H);have A3:=Aside0.mk A30;clear A30;simp only [Option.some.injEq,Prod.mk.injEq] at H;obtain ⟨rfl,rfl,rfl⟩:=H;go_enter Tryz.func48,Tryz.ntmps48
 go_wp2_with (first | ((with_reducible refine gate_callee (f:=70) rfl ?_);refine goesL_ (some 9) rfl rfl Tryz.func70 (by kernel_rfl) rfl #[.string a0,.string a1] rfl (q21_) ?_;(with_reducible refine (stringslite_Cut.calls a0 a1 t101 t102 t103 _ A3.out).mono ?_);rintro e w' ⟨rfl,⟨nd,rfl⟩⟩;refine ⟨_,rfl,?_⟩))
 go_ret3
 exact ⟨q3_,q5_⟩
/-! ### stringslite_HasSuffix: function 84 -/
def stringslite_HasSuffix.f (a0 : ByteArray) (a1 : ByteArray) : Option (Bool):=if (a0.size : Int) ≥ (a1.size : Int) then (if 0 ≤ (wrap64 ((a0.size : Int) - (a1.size : Int))) then (if (wrap64 ((a0.size : Int) - (a1.size : Int))) ≤ (a0.size : Int) then (some ((a0.extract ((wrap64 ((a0.size : Int) - (a1.size : Int))) : Int).toNat a0.size).toList == a1.toList)) else (none)) else (none)) else (some false)
set_option maxHeartbeats 8000000 in
set_option maxRecDepth 100000 in
theorem stringslite_HasSuffix.calls (a0 : ByteArray) (a1 : ByteArray) (r : Bool) (w : World) (h : stringslite_HasSuffix.f a0 a1 = some r) :
  Calls Tryz.prog 84 #[.string a0,.string a1] w fun e w' => e = .returned (.bool r) ∧ Drawn0 w w' := by
 have H : (if (a0.size : Int) ≥ (a1.size : Int) then (if 0 ≤ (wrap64 ((a0.size : Int) - (a1.size : Int))) then (if (wrap64 ((a0.size : Int) - (a1.size : Int))) ≤ (a0.size : Int) then (some ((a0.extract ((wrap64 ((a0.size : Int) - (a1.size : Int))) : Int).toNat a0.size).toList == a1.toList)) else (none)) else (none)) else (some false)) = some r:=h;clear h;by_cases c3 : (a0.size : Int) ≥ (a1.size : Int)
 ·rw [if_pos c3] at H;have c3b0 : decide ((a1.size : Int) ≤ (a0.size : Int)) = true:=decide_eq_true c3;have c3b1 : decide (a1.size ≤ a0.size) = true:=decide_eq_true (Int.ofNat_le.mp c3);clear c3;obtain ⟨ji4,hji4⟩ : ∃ j_ : Int,(wrap64 ((a0.size : Int) - (a1.size : Int))) = j_:=⟨_,rfl⟩;replace H : (if 0 ≤ (ji4) then (if (ji4) ≤ (a0.size : Int) then (some ((a0.extract ((ji4) : Int).toNat a0.size).toList == a1.toList)) else (none)) else (none)) = some r:=by first | (rw [hji4] at H;exact H) | (simp only [hji4] at H ⊢;exact H)
  have hji4w : (IntKind.i64.wrap ((a0.size : Int) - (a1.size : Int))) = ji4:=(i64_w _).trans hji4;by_cases c5 : 0 ≤ (ji4)
  ·rw [if_pos c5] at H;have c5b0:=eq_true c5;have c5b1:=decide_eq_true c5;clear c5;by_cases c6 : (ji4) ≤ (a0.size : Int)
   ·rw [if_pos c6] at H;have c6b0:=eq_true c6;have c6b1:=decide_eq_true c6;clear c6;obtain rfl:=Option.some.inj H;go_enter Tryz.func84,Tryz.ntmps84
    go_wp2;go_ret;exact ⟨by first | rfl | (simp;done) | (simp only [← hji4] <;> (first | rfl | simp)) | (simp [*];done),q5_⟩
   ·rw [if_neg c6] at H;exact absurd H (q1_)
  ·rw [if_neg c5] at H;exact absurd H (q1_)
 ·rw [if_neg c3] at H;have c3b0 : decide ((a1.size : Int) ≤ (a0.size : Int)) = false:=decide_eq_false c3;have c3b1 : decide (a1.size ≤ a0.size) = false:=decide_eq_false (fun h=>c3 (Int.ofNat_le.mpr h));clear c3;obtain rfl:=Option.some.inj H;go_enter Tryz.func84,Tryz.ntmps84
  go_wp2;go_ret;exact ⟨q3_,q5_⟩
/-! ### stringslite_TrimSuffix: function 71 -/
def stringslite_TrimSuffix.f (a0 : ByteArray) (a1 : ByteArray) : Option (ByteArray):=(stringslite_HasSuffix.f a0 a1).bind fun t101=>(if t101 = true then (if 0 ≤ (wrap64 ((a0.size : Int) - (a1.size : Int))) then (if (wrap64 ((a0.size : Int) - (a1.size : Int))) ≤ (a0.size : Int) then (some (a0.extract 0 ((wrap64 ((a0.size : Int) - (a1.size : Int))) : Int).toNat)) else (none)) else (none)) else (some a0))
set_option maxHeartbeats 8000000 in
set_option maxRecDepth 100000 in
theorem stringslite_TrimSuffix.calls (a0 : ByteArray) (a1 : ByteArray) (r : ByteArray) (w : World) (h : stringslite_TrimSuffix.f a0 a1 = some r) :
  Calls Tryz.prog 71 #[.string a0,.string a1] w fun e w' => e = .returned (.string r) ∧ Drawn0 w w' := by
 have H : ((stringslite_HasSuffix.f a0 a1).bind fun t101=>(if t101 = true then (if 0 ≤ (wrap64 ((a0.size : Int) - (a1.size : Int))) then (if (wrap64 ((a0.size : Int) - (a1.size : Int))) ≤ (a0.size : Int) then (some (a0.extract 0 ((wrap64 ((a0.size : Int) - (a1.size : Int))) : Int).toNat)) else (none)) else (none)) else (some a0))) = some r:=h;clear h;replace H:=Option.bind_eq_some_iff.mp H;obtain ⟨t101,A30,H⟩:=H;(try dsimp only at H);have A3:=Aside0.mk A30;clear A30;by_cases c4 : t101 = true
 ·subst c4;rw [if_pos rfl] at H;obtain ⟨ji5,hji5⟩ : ∃ j_ : Int,(wrap64 ((a0.size : Int) - (a1.size : Int))) = j_:=⟨_,rfl⟩;replace H : (if 0 ≤ (ji5) then (if (ji5) ≤ (a0.size : Int) then (some (a0.extract 0 ((ji5) : Int).toNat)) else (none)) else (none)) = some r:=by first | (rw [hji5] at H;exact H) | (simp only [hji5] at H ⊢;exact H)
  (try rw [hji5] at A3)
  have hji5w : (IntKind.i64.wrap ((a0.size : Int) - (a1.size : Int))) = ji5:=(i64_w _).trans hji5;by_cases c6 : 0 ≤ (ji5)
  ·rw [if_pos c6] at H;have c6b0:=eq_true c6;have c6b1:=decide_eq_true c6;clear c6;by_cases c7 : (ji5) ≤ (a0.size : Int)
   ·rw [if_pos c7] at H;have c7b0:=eq_true c7;have c7b1:=decide_eq_true c7;clear c7;obtain rfl:=Option.some.inj H;go_enter Tryz.func71,Tryz.ntmps71
    go_wp2_with (first | ((with_reducible refine gate_callee (f:=84) rfl ?_);refine goesL_ (some 7) rfl rfl Tryz.func84 (by kernel_rfl) rfl #[.string a0,.string a1] rfl (q21_) ?_;(with_reducible refine (stringslite_HasSuffix.calls a0 a1 true _ A3.out).mono ?_);rintro e w' ⟨rfl,⟨nd,rfl⟩⟩;refine ⟨_,rfl,?_⟩))
    go_ret;exact ⟨by first | rfl | (simp;done) | (simp only [← hji5] <;> (first | rfl | simp)) | (simp [*];done),q5_⟩
   ·rw [if_neg c7] at H;exact absurd H (q1_)
  ·rw [if_neg c6] at H;exact absurd H (q1_)
 ·replace c4:=Bool.eq_false_iff.mpr c4;subst c4;rw [if_neg (show ¬ (false = true) by decide)] at H;obtain rfl:=Option.some.inj H;go_enter Tryz.func71,Tryz.ntmps71
  go_wp2_with (first | ((with_reducible refine gate_callee (f:=84) rfl ?_);refine goesL_ (some 7) rfl rfl Tryz.func84 (by kernel_rfl) rfl #[.string a0,.string a1] rfl (q21_) ?_;(with_reducible refine (stringslite_HasSuffix.calls a0 a1 false _ A3.out).mono ?_);rintro e w' ⟨rfl,⟨nd,rfl⟩⟩;refine ⟨_,rfl,?_⟩))
  go_ret;exact ⟨q3_,q5_⟩
/-! ### yAu: function 49 -/
def yAu.f (a0 : ByteArray) (a1 : ByteArray) : Option (ByteArray):=(stringslite_TrimSuffix.f a0 a1).bind fun t101=>(some t101)
set_option maxHeartbeats 8000000 in
set_option maxRecDepth 100000 in
theorem yAu.calls (a0 : ByteArray) (a1 : ByteArray) (r : ByteArray) (w : World) (h : yAu.f a0 a1 = some r) :
  Calls Tryz.prog 49 #[.string a0,.string a1] w fun e w' => e = .returned (.string r) ∧ Drawn0 w w' := by
 have H : ((stringslite_TrimSuffix.f a0 a1).bind fun t101=>(some t101)) = some r:=h;clear h;replace H:=Option.bind_eq_some_iff.mp H;obtain ⟨t101,A30,H⟩:=H;(try dsimp only at H);have A3:=Aside0.mk A30;clear A30;obtain rfl:=Option.some.inj H;go_enter Tryz.func49,Tryz.ntmps49
 go_wp2_with (first | ((with_reducible refine gate_callee (f:=71) rfl ?_);refine goesL_ (some 7) rfl rfl Tryz.func71 (by kernel_rfl) rfl #[.string a0,.string a1] rfl (q21_) ?_;(with_reducible refine (stringslite_TrimSuffix.calls a0 a1 t101 _ A3.out).mono ?_);rintro e w' ⟨rfl,⟨nd,rfl⟩⟩;refine ⟨_,rfl,?_⟩))
 go_ret;exact ⟨q3_,q5_⟩
/-! ### yAe: function 50 -/
def yAe.num (l : List UInt8) : Int × Bool:=match Lib.atoiAll l with
 | .ok v=>if Lib.itoa v = l then (v,true) else (0,false)
 | _=>(0,false)
def yAe.f (a0 : ByteArray) : Option (Int × Bool):=if a0.size ≤ 281474976710656 then some (yAe.num a0.data.toList) else none
set_option maxHeartbeats 1000000 in
set_option maxRecDepth 100000 in
theorem yAe.calls (a0 : ByteArray) (r1 : Int) (r2 : Bool) (w : World) (hT : MTabA.Tab w) (h : yAe.f a0 = some (r1,r2)) :
  Calls Tryz.prog 50 #[.string a0] w fun e w' => e = .returned (.tuple #[.int .i64 r1,.bool r2]) ∧ Below w.heap.size w w' := by
 by_cases hs : a0.size ≤ 281474976710656
 case neg=>simp [yAe.f,hs] at h
 rw [yAe.f,if_pos hs] at h;have h:=Option.some.inj h;have HB:=Aside0.mk (Below.refl w.heap.size w);have HT:=Aside0.mk (MTabA.all hT);have HS:=Aside0.mk hs;cases hq : Lib.atoiAll a0.data.toList with
 | ok v =>
  obtain ⟨v0,v1⟩:=Lib.atoiAll_bounds hq;have HQ:=Aside0.mk hq;have hI:=strconv_Itoa.f_at v v0 v1;have HI:=Aside0.mk hI;by_cases he : Lib.itoa v = a0.data.toList
  ·have h2 : (v,true) = (r1,r2):=by rw [← h,yAe.num,hq];exact (if_pos he).symm
   simp only [Prod.mk.injEq] at h2;obtain ⟨rfl,rfl⟩:=h2;have e2 : (⟨(Lib.itoa v).toArray⟩ : ByteArray) = a0:=by rw [he]
   have HE:=Aside0.mk e2;clear hq hI v0 v1 he e2 hs h hT;go_enter Tryz.func50,Tryz.ntmps50
   go_wp2_with (first | (go_at_call 72;refine (MTabA.atoi_ok a0 HS.out v HQ.out _).mono ?_;rintro e w1 ⟨rfl,hb⟩;replace HB:=Aside0.mk (below_step HB.out hb);clear hb) | (go_at_call 67;refine (strconv_Itoa.calls v _ _ (HT.out _ HB.out).1 HI.out).mono ?_;rintro e w2 ⟨rfl,hb⟩;rw [HE.out];replace HB:=Aside0.mk (below_step HB.out hb);clear hb))
   go_ret2
   exact ⟨rfl,HB.out⟩
  ·have h2 : ((0 : Int),false) = (r1,r2):=by rw [← h,yAe.num,hq];exact (if_neg he).symm
   simp only [Prod.mk.injEq] at h2;obtain ⟨rfl,rfl⟩:=h2
   have e2 : (Lib.itoa v == a0.toList) = false:=by
    rw [beq_eq_false_iff_ne,ByteArray.toList_eq];exact he
   clear hq hI v0 v1 he hs h hT;go_enter Tryz.func50,Tryz.ntmps50
   go_wp2_with (first | (go_at_call 72;refine (MTabA.atoi_ok a0 HS.out v HQ.out _).mono ?_;rintro e w1 ⟨rfl,hb⟩;replace HB:=Aside0.mk (below_step HB.out hb);clear hb) | (go_at_call 67;refine (strconv_Itoa.calls v _ _ (HT.out _ HB.out).1 HI.out).mono ?_;rintro e w2 ⟨rfl,hb⟩;replace HB:=Aside0.mk (below_step HB.out hb);clear hb))
   go_ret2
   exact ⟨rfl,HB.out⟩
 | «syntax» =>
  have h2 : ((0 : Int),false) = (r1,r2):=by rw [← h,yAe.num,hq]
  simp only [Prod.mk.injEq] at h2;obtain ⟨rfl,rfl⟩:=h2;obtain ⟨m,hm⟩:=MTabA.atoi_no a0 hs (fun v e=>by rw [hq] at e;cases e) w hT.2;have HM:=Aside0.mk hm;clear hm hq hs h hT;go_enter Tryz.func50,Tryz.ntmps50
  go_wp2_with (go_at_call 72;refine HM.out.mono ?_;rintro e w1 ⟨⟨t,p,rfl⟩,hb⟩;replace HB:=Aside0.mk hb;clear hb)
  go_ret2
  exact ⟨rfl,HB.out⟩
 | range =>
  have h2 : ((0 : Int),false) = (r1,r2):=by rw [← h,yAe.num,hq]
  simp only [Prod.mk.injEq] at h2;obtain ⟨rfl,rfl⟩:=h2;obtain ⟨m,hm⟩:=MTabA.atoi_no a0 hs (fun v e=>by rw [hq] at e;cases e) w hT.2;have HM:=Aside0.mk hm;clear hm hq hs h hT;go_enter Tryz.func50,Tryz.ntmps50
  go_wp2_with (go_at_call 72;refine HM.out.mono ?_;rintro e w1 ⟨⟨t,p,rfl⟩,hb⟩;replace HB:=Aside0.mk hb;clear hb)
  go_ret2
  exact ⟨rfl,HB.out⟩
/-! ### yAC: function 18 -/
def yAC.note (x : ByteArray) : Option S25:=(yAu.f x ⟨#[59]⟩).bind fun t=>(yAt.f t ⟨#[32]⟩).bind fun c=>(yAt.f c.1 ⟨#[45]⟩).bind fun d=>(yAe.f d.1).bind fun p=>(yAe.f d.2.1).bind fun q=>some ⟨p.1,q.1,c.2.1⟩
def yAC.step (out : List S25) (x : ByteArray) : Option (List S25):=if x.toList = [] ∨ 40 < out.length then some out else (yAC.note x).bind fun n=>some (out ++ [n])
def yAC.outs : List S25 → List ByteArray → Option (List S25)
 | out,[]=>some out
 | out,x :: xs=>(yAC.step out x).bind fun o=>yAC.outs o xs
def yAC.f (k : Nat) (a0 : ByteArray) : Option (List S25 × Bool):=if a0.size ≤ 1000000000 then (yAC.outs [] (MSeq.parts a0)).bind fun out=>(yAH.f k out).bind fun ok=>(if ok = true then ((yAV.f k out).bind fun t=>if t.toList = a0.toList then some (out,true) else some ([],false)) else some ([],false)) else none
theorem yAC.outs_app : ∀ (a b : List ByteArray) (o : List S25),yAC.outs o (a ++ b) = (yAC.outs o a).bind fun q=>yAC.outs q b
 | [],_,_=>rfl
 | x :: a,b,o=>by
  rw [List.cons_append,yAC.outs,yAC.outs];cases yAC.step o x with
  | none=>rfl
  | some q=>exact yAC.outs_app a b q
def yAC.outOf (pre : List ByteArray) : List S25:=(yAC.outs [] pre).getD []
theorem yAC.row_far {W : World} {base : Nat} {e : TypeId} {size k : Nat} {v : Value} {xs : List Value} (h : W.ownsRow base e size v k xs) {b : Nat} (hb : b < base) : v.ownBlock = none ∨ v.ownBlock ≠ some b:=by
 rcases h.2 with ⟨rfl,_⟩ | ⟨g,cap,cur,rfl,hg,_⟩
 ·exact .inl rfl
 ·refine .inr fun e=>?_
  have : g = b:=by simpa [Value.ownBlock] using e
  omega
theorem yAC.row_old {W : World} {base : Nat} {e : TypeId} {size k : Nat} {v : Value} {xs : List Value} (h : W.ownsRow base e size v k xs) {b : Nat} (hb : W.heap.size ≤ b) : some b ≠ v.ownBlock:=by
 rcases h.2 with ⟨rfl,_⟩ | ⟨g,cap,cur,rfl,_,hg,_⟩
 ·exact fun e=>nomatch e
 ·intro e;have h1:=blk_lt hg;have : b = g:=by simpa [Value.ownBlock] using e
  omega
def yAC.enc (n : S25) : List Value:=[.int .i64 n.f0,.int .i64 n.f1,.string n.f2]
theorem yAC.reps (w : World) (base : Nat) (okp : Nat → Prop) : ∀ out : List S25,Reps (k25.M w base okp) 3 out (out.flatMap yAC.enc)
 | []=>Reps.none _ _
 | n :: out=>Reps.c3 (k25_mkM w base okp n) (yAC.reps w base okp out)
section
open Go.Shelf MSeq
attribute [local go_sem] Oper.semAt_some
set_option maxHeartbeats 4000000 in
set_option maxRecDepth 100000 in
theorem yAC.calls (k : Nat) (a0 : ByteArray) (r1 : List S25) (r2 : Bool) (w : World) (hT : MTabA.Tab w) (h : yAC.f k a0 = some (r1,r2)) :
  Calls Tryz.prog 18 #[.string a0] w fun e w' => ∃ v0_ : Value,e = .returned (.tuple #[v0_,.bool r2]) ∧ Kd.R k25 25 w' w.heap.size (fun _=>True) v0_ r1 ∧ Below w.heap.size w w' := by
 by_cases hs : a0.size ≤ 1000000000
 case neg=>simp [yAC.f,hs] at h
 rw [yAC.f,if_pos hs] at h;obtain ⟨out,ho,h⟩:=Option.bind_eq_some_iff.mp h;obtain ⟨ok,hok,h⟩:=Option.bind_eq_some_iff.mp h;refine callsIn_wide (n:=3) |>.1 ?_
 refine callsIn_of_wp_marks Tryz.func18 rfl trivial ?_ rfl;simp only [Tryz.ntmps18,List.size_toArray,List.length_cons,List.length_nil,Nat.reduceAdd,Nat.reduceSub,Array.replicate_succ,Array.replicate_zero,List.push_toArray,List.append_toArray,List.nil_append,List.cons_append]
 gi_wp2
 refine ⟨trivial,?_⟩;refine (MSeq.after_seq _ a0 _).mono ?_;rintro e w' ⟨rfl,rfl⟩
 gi_wp2
 have hc0:=MSeq.cap_new a0 (w.alloc (.cells #[.slice none 0 0] 23));have b0:=(((Boxed.new w 23 (.slice none 0 0)).alloc (.cells #[.string a0] 9)).alloc (.cells #[.string ⟨#[59]⟩] 9)).alloc (.cells #[.int .i64 1] 3);have hB0 : Below w.heap.size w ((((w.alloc (.cells #[.slice none 0 0] 23)).alloc (.cells #[.string a0] 9)).alloc (.cells #[.string ⟨#[59]⟩] 9)).alloc (.cells #[.int .i64 1] 3)):=((((Below.refl _ w).alloc (Nat.le_refl _) _).alloc (q1_) _).alloc (by simp;omega) _).alloc (by simp;omega) _;rw [World.size_alloc] at hc0;have hz : ((((w.alloc (.cells #[.slice none 0 0] 23)).alloc (.cells #[.string a0] 9)).alloc (.cells #[.string ⟨#[59]⟩] 9)).alloc (.cells #[.int .i64 1] 3)).heap.size = w.heap.size + 4:=q1_
 refine MSeq.range_seq (w.heap.size + 1) a0 (by omega) rfl hc0
  (fun pre W=>(∃ v,Boxed W w.heap.size 23 v ∧ W.ownsRow (w.heap.size + 4) 25 3 v (yAC.outOf pre).length ((yAC.outOf pre).flatMap yAC.enc) ∧ yAC.outs [] pre = some (yAC.outOf pre)) ∧ Below w.heap.size w W)
  (OwnFrom.and (Own.from (holdsRow_own (w.heap.size + 4) w.heap.size 23 25 3 (fun pre=>(yAC.outOf pre).length) (fun pre=>(yAC.outOf pre).flatMap yAC.enc) (fun pre _=>yAC.outs [] pre = some (yAC.outOf pre))) _) (ownFrom_below (Nat.le_refl _) (by rw [hz];omega)))
  (fun pre W u hi=>⟨⟨hi.1.choose,hi.1.choose_spec.1.kept (grownBy_setCell' W (w.heap.size + 1) u) (q1_),hi.1.choose_spec.2.1.kept (grownBy_setCell' W (w.heap.size + 1) u) (yAC.row_far hi.1.choose_spec.2.1 (by omega)),hi.1.choose_spec.2.2⟩,hi.2.setCell (p:=⟨w.heap.size + 1,0,none⟩) (q1_) u⟩)
  ⟨⟨_,b0,World.ownsRow_nil _ _ _ _,rfl⟩,hB0⟩
  (fun x=>{ tmps:=#[.string a0,undef,.slice none 0 0,.bool false,.pointer (some ⟨w.heap.size,0,none⟩),.string x,undef,undef,undef,undef,undef,undef,undef,.string a0,.func (.func 80) #[] #[.pointer (some ⟨w.heap.size + 1 + 1,0,none⟩),.pointer (some ⟨w.heap.size + 1,0,none⟩),.pointer (some ⟨w.heap.size + 1 + 2,0,none⟩)],.string x,undef,undef,undef,undef,undef,undef,undef,undef,undef,undef,undef,undef,undef,undef,undef,undef,undef,undef,undef,undef,undef,undef,undef,undef,undef,undef,undef,undef,undef,undef,undef,undef,undef,undef,undef,undef,undef,undef,undef,undef,undef,undef,undef,undef,undef,undef,undef,undef],defers:=[] }) ?assign ?body ?done
 case assign =>
  intro l x W K hK
  gi_wp2
  exact hK
 case body =>
  rintro l pre x v W ⟨⟨vo,hv,hrow,hG⟩,hB⟩ hC hpre hlt;obtain ⟨rest,hpre⟩:=hpre
  obtain ⟨o,hst,ho2⟩ : ∃ o,yAC.step (yAC.outOf pre) x = some o ∧ yAC.outs [] (pre ++ [x]) = some o:=by
   rw [← hpre,yAC.outs_app,yAC.outs_app,hG] at ho;rw [yAC.outs_app,hG];simp only [Option.bind_some,yAC.outs] at ho ⊢;cases hst : yAC.step (yAC.outOf pre) x with
   | none=>rw [hst] at ho;exact nomatch ho
   | some o=>exact ⟨o,rfl,rfl⟩
  have eo : yAC.outOf (pre ++ [x]) = o:=by unfold yAC.outOf;rw [ho2];rfl
  rw [← eo] at ho2 hst;obtain ⟨A,c,rfl⟩:=own_slice hrow;clear hpre ho hc0 b0 hB0;rw [hz] at hlt;by_cases hx : x.toList = []
  ·have e2 : yAC.outOf (pre ++ [x]) = yAC.outOf pre:=by
    rw [yAC.step,if_pos (Or.inl hx)] at hst;exact (Option.some.inj hst).symm
   have hc:=hv.cell
   gi_wp2
   exact ⟨KeepsOthers.refl _,⟨⟨_,hv,by rw [e2];exact hrow,ho2⟩,hB⟩,hC⟩
  ·by_cases hn : 40 < (yAC.outOf pre).length
   ·have e2 : yAC.outOf (pre ++ [x]) = yAC.outOf pre:=by
     rw [yAC.step,if_pos (Or.inr hn)] at hst;exact (Option.some.inj hst).symm
    have hc:=hv.cell;have hn1 : decide ((40 : Int) < ((yAC.outOf pre).length : Int)) = true:=decide_eq_true (by omega)
    gi_wp2
    exact ⟨KeepsOthers.refl _,⟨⟨_,hv,by rw [e2];exact hrow,ho2⟩,hB⟩,hC⟩
   ·rw [yAC.step,if_neg (fun h=>h.elim hx hn)] at hst;obtain ⟨n,hno,hst⟩:=Option.bind_eq_some_iff.mp hst;have e2:=(Option.some.inj hst).symm;unfold yAC.note at hno;obtain ⟨t,ht,hno⟩:=Option.bind_eq_some_iff.mp hno;obtain ⟨⟨g1,g2,g3⟩,hg,hno⟩:=Option.bind_eq_some_iff.mp hno;obtain ⟨⟨d1,d2,d3⟩,hd,hno⟩:=Option.bind_eq_some_iff.mp hno;obtain ⟨⟨p1,p2⟩,hp,hno⟩:=Option.bind_eq_some_iff.mp hno;obtain ⟨⟨q1,q2⟩,hq,hno⟩:=Option.bind_eq_some_iff.mp hno;obtain rfl:=Option.some.inj hno;clear hst hno;have hc:=hv.cell;have hn1 : decide ((40 : Int) < ((yAC.outOf pre).length : Int)) = false:=decide_eq_false (by omega);have hn2 : ((yAC.outOf pre).length : Int) ≤ 40:=by omega
    have hx1 : (x.toList == []) = false:=by simpa using hx
    gi_wp2
    refine ⟨trivial,?_⟩;refine (CallsIn.inRound l (callsIn_wide.2 (yAu.calls x ⟨#[59]⟩ t W ht))).mono ?_;rintro e W1 ⟨rfl,k1⟩;have K1:=Aside0.mk k1.below;clear k1
    gi_wp2
    refine ⟨trivial,?_⟩;refine (CallsIn.inRound l (callsIn_wide.2 (yAt.calls t ⟨#[32]⟩ g1 g2 g3 W1 hg))).mono ?_;rintro e W2 ⟨rfl,k2⟩;have K2:=Aside0.mk (below_step K1.out k2.below);clear k2 K1
    gi_wp2
    refine ⟨trivial,?_⟩;refine (CallsIn.inRound l (callsIn_wide.2 (yAt.calls g1 ⟨#[45]⟩ d1 d2 d3 W2 hd))).mono ?_;rintro e W3 ⟨rfl,k3⟩;have K3:=Aside0.mk (below_step K2.out k3.below);clear k3 K2 hc hn1 hn2 hx1
    gi_wp2
    have S3:=K3.out.size;have K4:=Aside0.mk ((Below.refl W3.heap.size W3).alloc (Nat.le_refl _) (.cells #[.int .i64 0,.int .i64 0,.string g2] 25));have BK:=Aside0.mk (blk_new W3 (.cells #[.int .i64 0,.int .i64 0,.string g2] 25));have T4:=MTabA.all hT _ (below_step (below_step hB K3.out) K4.out);generalize hW4 : W3.alloc (.cells #[.int .i64 0,.int .i64 0,.string g2] 25) = W4 at K4 BK T4 ⊢;clear hW4;refine ⟨trivial,?_⟩;refine (CallsIn.inRound l (callsIn_wide.2 (yAe.calls d1 p1 p2 W4 T4 hp))).mono ?_;rintro e W5 ⟨rfl,k5⟩;have K5:=Aside0.mk (below_step K4.out k5);have BK5:=Aside0.mk (blk_below BK.out k5);clear k5 T4 K4 BK;have z0:=(blk_cell BK5.out 0).trans rfl;have y0:=blk_frozen BK5.out 0
    gi_wp2
    clear z0 y0;have K6:=Aside0.mk (K5.out.setCell (p:=⟨W3.heap.size,0,none⟩) (Nat.le_refl _) (.int .i64 p1));have BK6:=Aside0.mk (blk_put BK5.out 0 (.int .i64 p1) (cs' := #[.int .i64 p1,.int .i64 0,.string g2]) rfl);have T6:=MTabA.all hT _ (below_step (below_step hB K3.out) K6.out);generalize hW6 : W5.setCell ⟨W3.heap.size,0,none⟩ (.int .i64 p1) = W6 at K6 BK6 T6 ⊢;clear hW6 K5 BK5;refine ⟨trivial,?_⟩;refine (CallsIn.inRound l (callsIn_wide.2 (yAe.calls d2 q1 q2 W6 T6 hq))).mono ?_;rintro e W7 ⟨rfl,k7⟩;have K7:=Aside0.mk (below_step K6.out k7);have BK7:=Aside0.mk (blk_below BK6.out k7);clear k7 T6 K6 BK6;have z1:=(blk_cell BK7.out 1).trans rfl;have y1:=blk_frozen BK7.out 1;have z0:=(blk_cell BK7.out 0).trans rfl;have z2:=(blk_cell BK7.out 2).trans rfl;have hc7 : W7.cell? ⟨w.heap.size,0,none⟩ = some (.slice A (yAC.outOf pre).length c):=(K7.out.cell (p:=⟨w.heap.size,0,none⟩) (by show w.heap.size < W3.heap.size;omega)).trans ((K3.out.cell (p:=⟨w.heap.size,0,none⟩) (by show w.heap.size < W.heap.size;omega)).trans hv.cell);have hne : ¬ W3.heap.size = w.heap.size:=by omega
    have hrow8 : (W7.setCell ⟨W3.heap.size,1,none⟩ (.int .i64 q1)).ownsRow (w.heap.size + 4) 25 3 (.slice A (yAC.outOf pre).length c) (yAC.outOf pre).length ((yAC.outOf pre).flatMap yAC.enc):=own_setCell (pw_own_below (pw_own_below hrow K3.out) K7.out) (yAC.row_old hrow S3) _;have hsz : (W7.setCell ⟨W3.heap.size,1,none⟩ (.int .i64 q1)).heap.size = W7.heap.size:=q1_
    have hnew : ∀ j u,[(.int .i64 p1 : Value),.int .i64 q1,.string g2][j]? = some u → ((W7.setCell ⟨W3.heap.size,1,none⟩ (.int .i64 q1)).alloc (.cells #[.int .i64 p1,.int .i64 q1,.string g2] 25)).cell? ((⟨W7.heap.size,0,none⟩ : Addr).add j) = some u:=fun j u hj=>by
     rw [Lib.add_plain,Nat.zero_add,← hsz,blk_cell (blk_new _ _)]
     simpa using hj
    obtain ⟨i0,hi,hz0,hz1,hz2⟩:=info_parts info25;have HN:=Aside0.mk hnew;have HR8:=Aside0.mk hrow8;have HZ:=Aside0.mk hsz;have S7:=K7.out.size;have hb1 : (yAC.outOf pre).length + 1 ≤ maxLen:=by unfold maxLen;omega
    have hb2 : ((yAC.outOf pre).length + 1) * 32 ≤ 140737488355328:=by omega
    have hb3 : w.heap.size + 4 ≤ ((W7.setCell ⟨W3.heap.size,1,none⟩ (.int .i64 q1)).alloc (.cells #[.int .i64 p1,.int .i64 q1,.string g2] 25)).heap.size:=by rw [World.size_alloc,hsz];omega
    clear hnew hrow8 hsz
    gi_wp2_with (gi_at_builtin;refine Hid.out ?_)
    refine Lib.hid ?_;refine wpListIn_append_own _ rfl _ _ 23 rfl (w.heap.size + 4) 25 i0 _ 3 32 Tryz.underlying23 hi hz0 hz1 hz2 rfl (by decide) _ _ _ rfl (HR8.out.alloc _) _ 1 1 [.int .i64 p1,.int .i64 q1,.string g2] rfl rfl HN.out (by simp [Value.oneCell']) hb1 hb2 hb3 ?_;intro v2 W9 hown hgrow _;replace hgrow : ((W7.setCell ⟨W3.heap.size,1,none⟩ (.int .i64 q1)).alloc (.cells #[.int .i64 p1,.int .i64 q1,.string g2] 25)).grownBy W9 (Value.slice A (yAC.outOf pre).length c).ownBlock:=hgrow;obtain ⟨g', cap', rfl⟩:=ownsRow_succ hown;have hv8 : Boxed (W7.setCell ⟨W3.heap.size,1,none⟩ (.int .i64 q1)) w.heap.size 23 (.slice A (yAC.outOf pre).length c):=blk_far (blk_below (blk_below hv K3.out) K7.out) (fun e=>hne e.symm) _;obtain ⟨hv1,hv2,_,hk2,hb2'⟩:=Boxed.appended hv8 (by decide) (own_weaken HR8.out (by omega)) (by rw [HZ.out];omega) (Nat.le_refl _) (own_weaken hown (by omega)) hgrow;have hc9:=hv1.cell;have hf9:=hv1.frozen;have HV2:=Aside0.mk hv2;have HK2:=Aside0.mk hk2;have HB2:=Aside0.mk hb2';clear hv2 hk2 hb2' hv1 z0 z1 z2 y1 hc7 hi hz0 hz1 hz2
    gi_wp2
    have K8 : Below W.heap.size W (W7.setCell ⟨W3.heap.size,1,none⟩ (.int .i64 q1)):=(below_step K3.out K7.out).setCell (p:=⟨W3.heap.size,1,none⟩) S3 _
    have hg4 : w.heap.size + 4 ≤ g' := by
     rcases hown.2 with ⟨e,_⟩ | ⟨g,cap,cur,e,hg,_⟩
     ·exact nomatch e
     ·simp only [Value.slice.injEq,Option.some.injEq,Addr.mk.injEq] at e;omega
    have hk : ∀ j,w.heap.size < j → j < w.heap.size + 4 → (W9.setCell ⟨w.heap.size,0,none⟩ (.slice (some ⟨g', 0,none⟩) ((yAC.outOf pre).length + 1) cap')).heap[j]? = W.heap[j]?:=fun j h1 h2=>by
     rw [Below.heap_setCell _ _ _ j (by simp;omega)];refine (hgrow.block j (by rw [World.size_alloc,HZ.out];omega) ?_).trans ?_
     ·rcases yAC.row_far HR8.out (b:=j) (by omega) with h | h
      ·rw [h];simp
      ·exact fun e=>h e.symm
     ·exact (Below.heap_alloc _ _ j (by rw [HZ.out];omega)).trans (K8.block j (by omega))
    have hcc : ∀ j i,w.heap.size < j → j < w.heap.size + 4 → (W9.setCell ⟨w.heap.size,0,none⟩ (.slice (some ⟨g', 0,none⟩) ((yAC.outOf pre).length + 1) cap')).cell? ⟨j,i,none⟩ = W.cell? ⟨j,i,none⟩:=fun j i h1 h2=>by
     simp only [World.cell?,hk j h1 h2]
    have hff : ∀ j i,w.heap.size < j → j < w.heap.size + 4 → (W9.setCell ⟨w.heap.size,0,none⟩ (.slice (some ⟨g', 0,none⟩) ((yAC.outOf pre).length + 1) cap')).frozen? ⟨j,i,none⟩ = W.frozen? ⟨j,i,none⟩:=fun j i h1 h2=>by
     simp only [World.frozen?,hk j h1 h2]
    have K0 : KeepsOthers W (W7.setCell ⟨W3.heap.size,1,none⟩ (.int .i64 q1)):=⟨K8.size,fun k o h _=>(K8.block k (blk_lt h)).trans h⟩;have hR : (W9.setCell ⟨w.heap.size,0,none⟩ (.slice (some ⟨g', 0,none⟩) ((yAC.outOf pre).length + 1) cap')).ownsRow (w.heap.size + 4) 25 3 (.slice (some ⟨g', 0,none⟩) ((yAC.outOf pre).length + 1) cap') ((yAC.outOf pre).length + 1) ((yAC.outOf pre).flatMap yAC.enc ++ [.int .i64 p1,.int .i64 q1,.string g2]):=own_setCell hown (p:=⟨w.heap.size,0,none⟩) (by simp [Value.ownBlock];omega) _;refine ⟨K0.trans HK2.out,⟨⟨_,HV2.out,?_,ho2⟩,(hB.trans (K8.mono hB.size)).trans HB2.out⟩,?_⟩
    ·rw [e2,List.length_append,List.flatMap_append]
     simpa [yAC.enc] using hR
    ·exact ⟨(hcc _ _ (by omega) (by omega)).trans hC.s,(hff _ _ (by omega) (by omega)).trans hC.fr,(hcc _ _ (by omega) (by omega)).trans hC.sep,(hcc _ _ (by omega) (by omega)).trans hC.save⟩
 case done =>
  rintro D W hD ⟨⟨vo,hv,hrow,hG⟩,hB⟩ hK;rw [hz] at hD;have eo : yAC.outOf (MSeq.parts a0) = out:=by unfold yAC.outOf;rw [ho];rfl
  rw [eo] at hrow;clear hG eo hc0 b0 hB0 hz ho;have HR : Kd.R k25 25 W (w.heap.size + 4) (fun _=>True) vo out:=⟨fun _ _=>trivial,_,hrow,yAC.reps _ _ _ _⟩;obtain ⟨A,c,rfl,hlc,hread⟩:=Kd.R_reads HR;have hc:=hv.cell
  gi_wp2
  refine ⟨trivial,?_⟩;refine (callsIn_wide.2 (yAH.calls k A c out ok W hread hlc hok)).mono ?_;rintro e W1 ⟨rfl,hb1⟩;have hc1 : W1.cell? ⟨w.heap.size,0,none⟩ = some (.slice A out.length c):=(hb1.cell (p:=⟨w.heap.size,0,none⟩) hv.lt).trans hc;have hK1:=blk_below hK hb1;have hB2 : Below w.heap.size w W1:=below_step hB hb1;cases ok with
  | false =>
   have h:=Option.some.inj h;simp only [Prod.mk.injEq] at h;obtain ⟨rfl,rfl⟩:=h
   gi_wp2
   refine ⟨trivial,?_⟩
   gi_wp2
   refine ⟨q1_,.inl ⟨_,_,rfl,run_takeDeferred hK1,?_⟩⟩;exact ⟨_,results_tmp2 rfl _ _ _,_,rfl,Kd.R_nil _ _ _ _ _,hB2.trans (belowK_b (w:=w) (Nat.le_refl _) W1 D _ _ (by omega) hK1 rfl rfl)⟩
  | true =>
   replace h : ((yAV.f k out).bind fun t=>if t.toList = a0.toList then some (out,true) else some ([],false)) = some (r1,r2):=h;obtain ⟨t,ht,h⟩:=Option.bind_eq_some_iff.mp h;have hread1:=Kd.C_below hread hb1
   gi_wp2
   refine ⟨trivial,?_⟩;refine (callsIn_wide.2 (yAV.calls k A c out t W1 (MTabA.all hT _ hB2).1 hread1 hlc ht)).mono ?_;rintro e W2 ⟨rfl,hb2⟩;have hc2 : W2.cell? ⟨w.heap.size,0,none⟩ = some (.slice A out.length c):=(hb2.cell (p:=⟨w.heap.size,0,none⟩) (Nat.lt_of_lt_of_le hv.lt hb1.size)).trans hc1;have hK2:=blk_below hK1 hb2;have hB3 : Below w.heap.size w W2:=below_step hB2 hb2;by_cases hq : t.toList = a0.toList
   ·rw [if_pos hq] at h;have h:=Option.some.inj h;simp only [Prod.mk.injEq] at h;obtain ⟨rfl,rfl⟩:=h;have hq1 : (t.toList == a0.toList) = true:=beq_iff_eq.mpr hq;clear hq
    gi_wp2
    refine ⟨q1_,.inl ⟨_,_,rfl,run_takeDeferred hK2,?_⟩⟩;have hrow2:=ownsRow_putObj (pw_own_below (pw_own_below hrow hb1) hb2) (.deferred none) hK2 rfl;exact ⟨_,results_tmp2 rfl _ _ _,_,rfl,⟨fun _ _=>trivial,_,own_weaken hrow2 (by omega),yAC.reps _ _ _ _⟩,hB3.trans (belowK_b (w:=w) (Nat.le_refl _) W2 D _ _ (by omega) hK2 rfl rfl)⟩
   ·rw [if_neg hq] at h;have h:=Option.some.inj h;simp only [Prod.mk.injEq] at h;obtain ⟨rfl,rfl⟩:=h;have hq1 : (t.toList == a0.toList) = false:=beq_eq_false_iff_ne.mpr hq;clear hq
    gi_wp2
    refine ⟨q1_,.inl ⟨_,_,rfl,run_takeDeferred hK2,?_⟩⟩;exact ⟨_,results_tmp2 rfl _ _ _,_,rfl,Kd.R_nil _ _ _ _ _,hB3.trans (belowK_b (w:=w) (Nat.le_refl _) W2 D _ _ (by omega) hK2 rfl rfl)⟩
end
end Go.Proofs.YtglcpghappepaaaGreatDoor.G
