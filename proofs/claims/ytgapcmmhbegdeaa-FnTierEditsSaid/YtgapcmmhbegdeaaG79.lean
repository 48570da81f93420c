-- Written by this session's own program over the kit's print (wip/tools/myprint.py); Lean checks it.
import Derived.Test.YtgapcmmhbegdeaaMBase
import Derived.Test.YtgapcmmhbegdeaaG0
import Derived.Test.YtgapcmmhbegdeaaG1
import Derived.Test.YtgapcmmhbegdeaaG4
namespace Go.Proofs.Ytgapcmmhbegdeaa.G
open Go.RowKit Go.Proofs.YtgapcmmhbegdeaaW.PrintWords Go.Proofs.YtgapcmmhbegdeaaW.PrintLast Go.Proofs.YtgapcmmhbegdeaaW.PrintMore
attribute [local go_sem] max2_int min2_int max_two min_two max_three min_three max_four min_four str_geq str_gtr str_leq   -- for this text's walks alone
set_option linter.unusedVariables false
set_option linter.unusedSimpArgs false
/-! ### spec_JoinNotes: function 41 -/
def spec_JoinNotes.f (k : Nat) (l0 : List (S58)) (a1 : Int) : Option ((List (S58)) × Bool):=(spec_tiGood.f k l0).bind fun t101=>(if t101 = true then ((spec_l1In.f a1 0 (wrap64 ((l0.length : Int) - 2))).bind fun t102=>(if t102 = true then (if 0 ≤ a1 then (if a1 < (l0.length : Int) then (if 0 ≤ (wrap64 (a1 + 1)) then (if (wrap64 (a1 + 1)) < (l0.length : Int) then (if ((rd_T58 l0 a1).f1) = ((rd_T58 l0 (wrap64 (a1 + 1))).f0) then (if ((rd_T58 l0 a1).f2).toList = ((rd_T58 l0 (wrap64 (a1 + 1))).f2).toList then ((some (([] : List (S58)) : List (S58))).bind fun y110=>(if a1 ≤ (l0.length : Int) then ((some (l0.take (a1 : Int).toNat : List (S58))).bind fun y113=>(if y110.length + y113.length < 4398046511104 then ((some (y110 ++ y113 : List (S58))).bind fun y117=>((some (([(⟨(rd_T58 l0 a1).f0,(rd_T58 l0 (wrap64 (a1 + 1))).f1,(rd_T58 l0 a1).f2⟩ : S58)] : List (S58)) : List (S58))).bind fun y120=>(if y117.length + y120.length < 4398046511104 then ((some (y117 ++ y120 : List (S58))).bind fun y123=>(if 0 ≤ (wrap64 (a1 + 2)) then (if (wrap64 (a1 + 2)) ≤ (l0.length : Int) then ((some (l0.drop ((wrap64 (a1 + 2)) : Int).toNat : List (S58))).bind fun y126=>(if y123.length + y126.length < 4398046511104 then (some ((y123 ++ y126),true)) else (none))) else (none)) else (none))) else (none)))) else (none))) else (none))) else (some (([] : List (S58)),false))) else (some (([] : List (S58)),false))) else (none)) else (none)) else (none)) else (none)) else (some (([] : List (S58)),false)))) else (some (([] : List (S58)),false)))
def spec_JoinNotes.T1 : Bool × List (List Nat × List Nat):=(true,[([],[]),([0],[0]),([1],[1]),([2,1],[2]),([3],[3]),([3],[3]),([5,3],[3,5]),([6,3],[3,6]),([4,7,3,3],[3,4,7]),([8,3],[3,8]),([3,9],[3,9]),([10,8],[10]),([11],[11]),([11],[11]),([12,13,11],[11,12,13]),([14,11],[11,14]),([15,11],[11,15]),([11],[11]),([11],[11]),([18,11],[11,18]),([17,19,11],[11,17,19]),([20,11],[11,20]),([21,11],[11,21]),([16,22,11],[11,16,22]),([11,23],[11,23]),([24,11],[24]),([25],[25]),([25],[25]),([26,27,25],[25,26,27]),([28,25],[25,28]),([29,25],[25,29]),([25],[25]),([25],[25]),([32,25],[25,32]),([31,33,25],[25,31,33]),([34,25],[25,34]),([35,25],[25,35]),([30,36,25],[25,30,36]),([25,37],[25,37])])
def spec_JoinNotes.B1 : List Nat:=[0,1,3,7,15,15,47,111,255,511,1023,2047,4095,4095,16383,32767,65535,4095,4095,266239,921599,1970175,4067327,8388607,16777215,33554431,67108863,67108863,268435455,536870911,1073741823,67108863,67108863,4362076159,15099494399,32279363583,66639101951,137438953471,274877906943]
theorem spec_JoinNotes.tab1 : rtab .any (opsOf Try.f41 1) = spec_JoinNotes.T1:=by kernel_rfl
theorem spec_JoinNotes.bits1 : waitsOk spec_JoinNotes.T1.2 spec_JoinNotes.B1 = true:=by kernel_rfl
def spec_JoinNotes.T5 : Bool × List (List Nat × List Nat):=(true,[([],[]),([],[]),([],[]),([1,2],[1,2]),([0,3],[0,3]),([],[]),([5],[5]),([4,6,4],[4,6]),([],[]),([],[]),([9],[9]),([8,10],[8,10]),([7,11,7],[7,11]),([12,12,0,1,2,3,4,5,6,7,8,9,10,11,12],[12]),([13,0,1,2,3,4,5,6,7,8,9,10,11,12,13],[])])
def spec_JoinNotes.B5 : List Nat:=[0,0,0,6,15,0,32,127,0,0,512,1792,4095,8191,16383]
theorem spec_JoinNotes.tab5 : rtab .any (opsOf Try.f41 5) = spec_JoinNotes.T5:=by kernel_rfl
theorem spec_JoinNotes.bits5 : waitsOk spec_JoinNotes.T5.2 spec_JoinNotes.B5 = true:=by kernel_rfl
set_option maxHeartbeats 8000000 in
set_option maxRecDepth 100000 in
theorem spec_JoinNotes.calls (k : Nat) (A0 : Option Addr) (c0 : Nat) (l0 : List (S58)) (a1 : Int) (r1 : List (S58)) (r2 : Bool) (w : World) (hr0 : Kd.C k58 w A0 l0.length l0) (hc0 : l0.length ≤ c0) (h : spec_JoinNotes.f k l0 a1 = some (r1,r2)) :
  Calls Try.prog 41 #[.slice A0 l0.length c0,.int .i64 a1] w fun e w' => ∃ v0_ : Value,e = .returned (.tuple #[v0_,.bool r2]) ∧ Kd.R k58 58 w' w.heap.size (fun _=>True) v0_ r1 ∧ Below w.heap.size w w' := by
 have hu58:=Try.underlying58;have HR0:=Aside0.mk hr0;have HC0:=Aside0.mk hc0;clear hr0 hc0;have HB:=Aside0.mk (Below.refl w.heap.size w);have H : ((spec_tiGood.f k l0).bind fun t101=>(if t101 = true then ((spec_l1In.f a1 0 (wrap64 ((l0.length : Int) - 2))).bind fun t102=>(if t102 = true then (if 0 ≤ a1 then (if a1 < (l0.length : Int) then (if 0 ≤ (wrap64 (a1 + 1)) then (if (wrap64 (a1 + 1)) < (l0.length : Int) then (if ((rd_T58 l0 a1).f1) = ((rd_T58 l0 (wrap64 (a1 + 1))).f0) then (if ((rd_T58 l0 a1).f2).toList = ((rd_T58 l0 (wrap64 (a1 + 1))).f2).toList then ((some (([] : List (S58)) : List (S58))).bind fun y110=>(if a1 ≤ (l0.length : Int) then ((some (l0.take (a1 : Int).toNat : List (S58))).bind fun y113=>(if y110.length + y113.length < 4398046511104 then ((some (y110 ++ y113 : List (S58))).bind fun y117=>((some (([(⟨(rd_T58 l0 a1).f0,(rd_T58 l0 (wrap64 (a1 + 1))).f1,(rd_T58 l0 a1).f2⟩ : S58)] : List (S58)) : List (S58))).bind fun y120=>(if y117.length + y120.length < 4398046511104 then ((some (y117 ++ y120 : List (S58))).bind fun y123=>(if 0 ≤ (wrap64 (a1 + 2)) then (if (wrap64 (a1 + 2)) ≤ (l0.length : Int) then ((some (l0.drop ((wrap64 (a1 + 2)) : Int).toNat : List (S58))).bind fun y126=>(if y123.length + y126.length < 4398046511104 then (some ((y123 ++ y126),true)) else (none))) else (none)) else (none))) else (none)))) else (none))) else (none))) else (some (([] : List (S58)),false))) else (some (([] : List (S58)),false))) else (none)) else (none)) else (none)) else (none)) else (some (([] : List (S58)),false)))) else (some (([] : List (S58)),false)))) = some (r1,r2):=h;clear h;replace H:=Option.bind_eq_some_iff.mp H;obtain ⟨t101,A30,H⟩:=H;(try dsimp only at H);have A3:=Aside0.mk A30;clear A30;by_cases c4 : t101 = true
 ·subst c4;have H1 : ((spec_l1In.f a1 0 (wrap64 ((l0.length : Int) - 2))).bind fun t102=>(if t102 = true then (if 0 ≤ a1 then (if a1 < (l0.length : Int) then (if 0 ≤ (wrap64 (a1 + 1)) then (if (wrap64 (a1 + 1)) < (l0.length : Int) then (if ((rd_T58 l0 a1).f1) = ((rd_T58 l0 (wrap64 (a1 + 1))).f0) then (if ((rd_T58 l0 a1).f2).toList = ((rd_T58 l0 (wrap64 (a1 + 1))).f2).toList then ((some (([] : List (S58)) : List (S58))).bind fun y110=>(if a1 ≤ (l0.length : Int) then ((some (l0.take (a1 : Int).toNat : List (S58))).bind fun y113=>(if y110.length + y113.length < 4398046511104 then ((some (y110 ++ y113 : List (S58))).bind fun y117=>((some (([(⟨(rd_T58 l0 a1).f0,(rd_T58 l0 (wrap64 (a1 + 1))).f1,(rd_T58 l0 a1).f2⟩ : S58)] : List (S58)) : List (S58))).bind fun y120=>(if y117.length + y120.length < 4398046511104 then ((some (y117 ++ y120 : List (S58))).bind fun y123=>(if 0 ≤ (wrap64 (a1 + 2)) then (if (wrap64 (a1 + 2)) ≤ (l0.length : Int) then ((some (l0.drop ((wrap64 (a1 + 2)) : Int).toNat : List (S58))).bind fun y126=>(if y123.length + y126.length < 4398046511104 then (some ((y123 ++ y126),true)) else (none))) else (none)) else (none))) else (none)))) else (none))) else (none))) else (some (([] : List (S58)),false))) else (some (([] : List (S58)),false))) else (none)) else (none)) else (none)) else (none)) else (some (([] : List (S58)),false)))) = some (r1,r2):=by rw [if_pos rfl] at H;exact H
  clear H;have H:=H1;clear H1;replace H:=Option.bind_eq_some_iff.mp H;obtain ⟨t102,A50,H⟩:=H;(try dsimp only at H);have A5:=Aside0.mk A50;clear A50;by_cases c6 : t102 = true
  ·subst c6;have H1 : (if 0 ≤ a1 then (if a1 < (l0.length : Int) then (if 0 ≤ (wrap64 (a1 + 1)) then (if (wrap64 (a1 + 1)) < (l0.length : Int) then (if ((rd_T58 l0 a1).f1) = ((rd_T58 l0 (wrap64 (a1 + 1))).f0) then (if ((rd_T58 l0 a1).f2).toList = ((rd_T58 l0 (wrap64 (a1 + 1))).f2).toList then ((some (([] : List (S58)) : List (S58))).bind fun y110=>(if a1 ≤ (l0.length : Int) then ((some (l0.take (a1 : Int).toNat : List (S58))).bind fun y113=>(if y110.length + y113.length < 4398046511104 then ((some (y110 ++ y113 : List (S58))).bind fun y117=>((some (([(⟨(rd_T58 l0 a1).f0,(rd_T58 l0 (wrap64 (a1 + 1))).f1,(rd_T58 l0 a1).f2⟩ : S58)] : List (S58)) : List (S58))).bind fun y120=>(if y117.length + y120.length < 4398046511104 then ((some (y117 ++ y120 : List (S58))).bind fun y123=>(if 0 ≤ (wrap64 (a1 + 2)) then (if (wrap64 (a1 + 2)) ≤ (l0.length : Int) then ((some (l0.drop ((wrap64 (a1 + 2)) : Int).toNat : List (S58))).bind fun y126=>(if y123.length + y126.length < 4398046511104 then (some ((y123 ++ y126),true)) else (none))) else (none)) else (none))) else (none)))) else (none))) else (none))) else (some (([] : List (S58)),false))) else (some (([] : List (S58)),false))) else (none)) else (none)) else (none)) else (none)) = some (r1,r2):=by rw [if_pos rfl] at H;exact H
   clear H;have H:=H1;clear H1;by_cases c7 : 0 ≤ a1
   ·rw [if_pos c7] at H;have c7b0 : decide (0 ≤ a1) = true:=decide_eq_true c7;clear c7;by_cases c8 : a1 < (l0.length : Int)
    ·rw [if_pos c8] at H;have c8b0 : decide (a1 < (l0.length : Int)) = true:=decide_eq_true c8;clear c8;obtain ⟨ji9,hji9⟩ : ∃ j_ : Int,(wrap64 (a1 + 1)) = j_:=⟨_,rfl⟩;replace H : (if 0 ≤ (ji9) then (if (ji9) < (l0.length : Int) then (if ((rd_T58 l0 a1).f1) = ((rd_T58 l0 (ji9)).f0) then (if ((rd_T58 l0 a1).f2).toList = ((rd_T58 l0 (ji9)).f2).toList then ((some (([] : List (S58)) : List (S58))).bind fun y110=>(if a1 ≤ (l0.length : Int) then ((some (l0.take (a1 : Int).toNat : List (S58))).bind fun y113=>(if y110.length + y113.length < 4398046511104 then ((some (y110 ++ y113 : List (S58))).bind fun y117=>((some (([(⟨(rd_T58 l0 a1).f0,(rd_T58 l0 (ji9)).f1,(rd_T58 l0 a1).f2⟩ : S58)] : List (S58)) : List (S58))).bind fun y120=>(if y117.length + y120.length < 4398046511104 then ((some (y117 ++ y120 : List (S58))).bind fun y123=>(if 0 ≤ (wrap64 (a1 + 2)) then (if (wrap64 (a1 + 2)) ≤ (l0.length : Int) then ((some (l0.drop ((wrap64 (a1 + 2)) : Int).toNat : List (S58))).bind fun y126=>(if y123.length + y126.length < 4398046511104 then (some ((y123 ++ y126),true)) else (none))) else (none)) else (none))) else (none)))) else (none))) else (none))) else (some (([] : List (S58)),false))) else (some (([] : List (S58)),false))) else (none)) else (none)) = some (r1,r2):=by first | (rw [hji9] at H;exact H) | (simp only [hji9] at H ⊢;exact H)
     (try rw [hji9] at A3)
     (try rw [hji9] at A5)
     have hji9w : (IntKind.i64.wrap (a1 + 1)) = ji9:=(i64_w _).trans hji9;by_cases c10 : 0 ≤ (ji9)
     ·rw [if_pos c10] at H;have c10b0 : decide (0 ≤ (ji9)) = true:=decide_eq_true c10;clear c10;by_cases c11 : (ji9) < (l0.length : Int)
      ·rw [if_pos c11] at H;have c11b0 : decide ((ji9) < (l0.length : Int)) = true:=decide_eq_true c11;clear c11;by_cases c12 : ((rd_T58 l0 a1).f1) = ((rd_T58 l0 (ji9)).f0)
       ·rw [if_pos c12] at H;have c12b0 : (((rd_T58 l0 a1).f1) == ((rd_T58 l0 (ji9)).f0)) = true:=beq_iff_eq.mpr c12;have c12b1 : (((rd_T58 l0 a1).f1) != ((rd_T58 l0 (ji9)).f0)) = false:=bne_eq_false_iff_eq.mpr c12;clear c12;by_cases c13 : ((rd_T58 l0 a1).f2).toList = ((rd_T58 l0 (ji9)).f2).toList
        ·rw [if_pos c13] at H;have c13b0 : (((rd_T58 l0 a1).f2).toList == ((rd_T58 l0 (ji9)).f2).toList) = true:=beq_iff_eq.mpr c13;have c13b1 : (((rd_T58 l0 a1).f2).toList != ((rd_T58 l0 (ji9)).f2).toList) = false:=bne_eq_false_iff_eq.mpr c13;clear c13;obtain ⟨y110,hy110⟩ : ∃ y_ : List (S58),y_ = (([] : List (S58))):=⟨_,rfl⟩;replace H : (if a1 ≤ (l0.length : Int) then ((some (l0.take (a1 : Int).toNat : List (S58))).bind fun y113=>(if y110.length + y113.length < 4398046511104 then ((some (y110 ++ y113 : List (S58))).bind fun y117=>((some (([(⟨(rd_T58 l0 a1).f0,(rd_T58 l0 (ji9)).f1,(rd_T58 l0 a1).f2⟩ : S58)] : List (S58)) : List (S58))).bind fun y120=>(if y117.length + y120.length < 4398046511104 then ((some (y117 ++ y120 : List (S58))).bind fun y123=>(if 0 ≤ (wrap64 (a1 + 2)) then (if (wrap64 (a1 + 2)) ≤ (l0.length : Int) then ((some (l0.drop ((wrap64 (a1 + 2)) : Int).toNat : List (S58))).bind fun y126=>(if y123.length + y126.length < 4398046511104 then (some ((y123 ++ y126),true)) else (none))) else (none)) else (none))) else (none)))) else (none))) else (none)) = some (r1,r2):=by first | (rw [hy110];with_reducible exact H) | (have H2_:=(Option.bind_some _ _).symm.trans H;rw [hy110];with_reducible exact H2_) | (have H2_:=(Option.bind_some _ _).symm.trans H;with_reducible exact H2_) | with_reducible exact H | (rw [hy110];exact H) | exact H
         have Ny110:=Aside0.mk hy110;clear hy110;have c14b0:=eq_true (of_decide_eq_true (q3_) : 0 ≤ a1);by_cases c15 : a1 ≤ (l0.length : Int)
         ·rw [if_pos c15] at H;have c15b0:=eq_true c15;have c15b1 : decide (a1 ≤ (l0.length : Int)) = true:=decide_eq_true c15;clear c15;obtain ⟨y113,hy113⟩ : ∃ y_ : List (S58),y_ = (l0.take (a1 : Int).toNat):=⟨_,rfl⟩;replace H : (if y110.length + y113.length < 4398046511104 then ((some (y110 ++ y113 : List (S58))).bind fun y117=>((some (([(⟨(rd_T58 l0 a1).f0,(rd_T58 l0 (ji9)).f1,(rd_T58 l0 a1).f2⟩ : S58)] : List (S58)) : List (S58))).bind fun y120=>(if y117.length + y120.length < 4398046511104 then ((some (y117 ++ y120 : List (S58))).bind fun y123=>(if 0 ≤ (wrap64 (a1 + 2)) then (if (wrap64 (a1 + 2)) ≤ (l0.length : Int) then ((some (l0.drop ((wrap64 (a1 + 2)) : Int).toNat : List (S58))).bind fun y126=>(if y123.length + y126.length < 4398046511104 then (some ((y123 ++ y126),true)) else (none))) else (none)) else (none))) else (none)))) else (none)) = some (r1,r2):=by first | (rw [hy113];with_reducible exact H) | (have H2_:=(Option.bind_some _ _).symm.trans H;rw [hy113];with_reducible exact H2_) | (have H2_:=(Option.bind_some _ _).symm.trans H;with_reducible exact H2_) | with_reducible exact H | (rw [hy113];exact H) | exact H
          have Ny113:=Aside0.mk hy113;clear hy113;by_cases c16 : y110.length + y113.length < 4398046511104
          ·rw [if_pos c16] at H;have LMc16:=Aside0.mk c16;clear c16;obtain ⟨y117,hy117⟩ : ∃ y_ : List (S58),y_ = (y110 ++ y113):=⟨_,rfl⟩;replace H : ((some (([(⟨(rd_T58 l0 a1).f0,(rd_T58 l0 (ji9)).f1,(rd_T58 l0 a1).f2⟩ : S58)] : List (S58)) : List (S58))).bind fun y120=>(if y117.length + y120.length < 4398046511104 then ((some (y117 ++ y120 : List (S58))).bind fun y123=>(if 0 ≤ (wrap64 (a1 + 2)) then (if (wrap64 (a1 + 2)) ≤ (l0.length : Int) then ((some (l0.drop ((wrap64 (a1 + 2)) : Int).toNat : List (S58))).bind fun y126=>(if y123.length + y126.length < 4398046511104 then (some ((y123 ++ y126),true)) else (none))) else (none)) else (none))) else (none))) = some (r1,r2):=by first | (rw [hy117];with_reducible exact H) | (have H2_:=(Option.bind_some _ _).symm.trans H;rw [hy117];with_reducible exact H2_) | (have H2_:=(Option.bind_some _ _).symm.trans H;with_reducible exact H2_) | with_reducible exact H | (rw [hy117];exact H) | exact H
           have Ny117:=Aside0.mk hy117;clear hy117;obtain ⟨y120,hy120⟩ : ∃ y_ : List (S58),y_ = (([(⟨(rd_T58 l0 a1).f0,(rd_T58 l0 (ji9)).f1,(rd_T58 l0 a1).f2⟩ : S58)] : List (S58))):=⟨_,rfl⟩;replace H : (if y117.length + y120.length < 4398046511104 then ((some (y117 ++ y120 : List (S58))).bind fun y123=>(if 0 ≤ (wrap64 (a1 + 2)) then (if (wrap64 (a1 + 2)) ≤ (l0.length : Int) then ((some (l0.drop ((wrap64 (a1 + 2)) : Int).toNat : List (S58))).bind fun y126=>(if y123.length + y126.length < 4398046511104 then (some ((y123 ++ y126),true)) else (none))) else (none)) else (none))) else (none)) = some (r1,r2):=by first | (rw [hy120];with_reducible exact H) | (have H2_:=(Option.bind_some _ _).symm.trans H;rw [hy120];with_reducible exact H2_) | (have H2_:=(Option.bind_some _ _).symm.trans H;with_reducible exact H2_) | with_reducible exact H | (rw [hy120];exact H) | exact H
           have Ny120:=Aside0.mk hy120;clear hy120;by_cases c17 : y117.length + y120.length < 4398046511104
           ·rw [if_pos c17] at H;have LMc17:=Aside0.mk c17;clear c17;obtain ⟨y123,hy123⟩ : ∃ y_ : List (S58),y_ = (y117 ++ y120):=⟨_,rfl⟩;replace H : (if 0 ≤ (wrap64 (a1 + 2)) then (if (wrap64 (a1 + 2)) ≤ (l0.length : Int) then ((some (l0.drop ((wrap64 (a1 + 2)) : Int).toNat : List (S58))).bind fun y126=>(if y123.length + y126.length < 4398046511104 then (some ((y123 ++ y126),true)) else (none))) else (none)) else (none)) = some (r1,r2):=by first | (rw [hy123];with_reducible exact H) | (have H2_:=(Option.bind_some _ _).symm.trans H;rw [hy123];with_reducible exact H2_) | (have H2_:=(Option.bind_some _ _).symm.trans H;with_reducible exact H2_) | with_reducible exact H | (rw [hy123];exact H) | exact H
            have Ny123:=Aside0.mk hy123;clear hy123;obtain ⟨ji18,hji18⟩ : ∃ j_ : Int,(wrap64 (a1 + 2)) = j_:=⟨_,rfl⟩;replace H : (if 0 ≤ (ji18) then (if (ji18) ≤ (l0.length : Int) then ((some (l0.drop ((ji18) : Int).toNat : List (S58))).bind fun y126=>(if y123.length + y126.length < 4398046511104 then (some ((y123 ++ y126),true)) else (none))) else (none)) else (none)) = some (r1,r2):=by first | (rw [hji18] at H;exact H) | (simp only [hji18] at H ⊢;exact H)
            (try rw [hji18] at A3)
            (try rw [hji18] at A5)
            have hji18w : (IntKind.i64.wrap (a1 + 2)) = ji18:=(i64_w _).trans hji18;by_cases c19 : 0 ≤ (ji18)
            ·rw [if_pos c19] at H;have c19b0:=eq_true c19;have c19b1 : decide (0 ≤ (ji18)) = true:=decide_eq_true c19;clear c19;by_cases c20 : (ji18) ≤ (l0.length : Int)
             ·rw [if_pos c20] at H;have c20b0:=eq_true c20;have c20b1 : decide ((ji18) ≤ (l0.length : Int)) = true:=decide_eq_true c20;clear c20;obtain ⟨y126,hy126⟩ : ∃ y_ : List (S58),y_ = (l0.drop ((ji18) : Int).toNat):=⟨_,rfl⟩;replace H : (if y123.length + y126.length < 4398046511104 then (some ((y123 ++ y126),true)) else (none)) = some (r1,r2):=by first | (rw [hy126];with_reducible exact H) | (have H2_:=(Option.bind_some _ _).symm.trans H;rw [hy126];with_reducible exact H2_) | (have H2_:=(Option.bind_some _ _).symm.trans H;with_reducible exact H2_) | with_reducible exact H | (rw [hy126];exact H) | exact H
              have Ny126:=Aside0.mk hy126;clear hy126;by_cases c21 : y123.length + y126.length < 4398046511104
              ·rw [if_pos c21] at H;have LMc21:=Aside0.mk c21;clear c21;obtain ⟨y130,hy130⟩ : ∃ y_ : List (S58),y_ = (y123 ++ y126):=⟨_,rfl⟩;replace H : (some (y130,true)) = some (r1,r2):=by first | (rw [hy130];with_reducible exact H) | (have H2_:=(Option.bind_some _ _).symm.trans H;rw [hy130];with_reducible exact H2_) | (have H2_:=(Option.bind_some _ _).symm.trans H;with_reducible exact H2_) | with_reducible exact H | (rw [hy130];exact H) | exact H
               have Ny130:=Aside0.mk hy130;clear hy130;simp only [Option.some.injEq,Prod.mk.injEq] at H;obtain ⟨rfl,rfl⟩:=H;go_enter Try.func41,Try.ntmps41
               try go_wp2
               replace HB:=Aside0.mk (below_drew1 HB.out);have p103 : 0 ≤ (a1 : Int):=of_decide_eq_true (q3_);have q103 : a1 < (l0.length : Int):=of_decide_eq_true (q3_);obtain ⟨ad103,e103,hx103_0,hx103_1,hx103_2⟩:=at_T58 HR0.out a1 p103 q103;have hw103_2:=hx103_2;have hw103_1:=hx103_1;have hw103_0:=hx103_0;cases e103;replace hx103_0:=hB_ HB.out hx103_0;replace hx103_1:=hB_ HB.out hx103_1;replace hx103_2:=hB_ HB.out hx103_2;replace p103:=eq_true p103;replace q103:=eq_true q103;have p104 : 0 ≤ ((ji9) : Int):=of_decide_eq_true (q3_);have q104 : (ji9) < (l0.length : Int):=of_decide_eq_true (q3_);obtain ⟨ad104,e104,hx104_0,hx104_1,hx104_2⟩:=at_T58 HR0.out (ji9) p104 q104;have hw104_2:=hx104_2;have hw104_1:=hx104_1;have hw104_0:=hx104_0;obtain rfl : ad103 = ad104:=(by injection e104);replace hx104_0:=hB_ HB.out hx104_0;replace hx104_1:=hB_ HB.out hx104_1;replace hx104_2:=hB_ HB.out hx104_2;replace p104:=eq_true p104;replace q104:=eq_true q104;have p105 : 0 ≤ (a1 : Int):=of_decide_eq_true (q3_);have q105 : a1 < (l0.length : Int):=of_decide_eq_true (q3_);obtain ⟨ad105,e105,hx105_0,hx105_1,hx105_2⟩:=at_T58 HR0.out a1 p105 q105;have hw105_2:=hx105_2;have hw105_1:=hx105_1;have hw105_0:=hx105_0;obtain rfl : ad103 = ad105:=(by injection e105);replace hx105_0:=hB_ HB.out hx105_0;replace hx105_1:=hB_ HB.out hx105_1;replace hx105_2:=hB_ HB.out hx105_2;replace p105:=eq_true p105;replace q105:=eq_true q105;have p106 : 0 ≤ ((ji9) : Int):=of_decide_eq_true (q3_);have q106 : (ji9) < (l0.length : Int):=of_decide_eq_true (q3_);obtain ⟨ad106,e106,hx106_0,hx106_1,hx106_2⟩:=at_T58 HR0.out (ji9) p106 q106;have hw106_2:=hx106_2;have hw106_1:=hx106_1;have hw106_0:=hx106_0;obtain rfl : ad103 = ad106:=(by injection e106);replace hx106_0:=hB_ HB.out hx106_0;replace hx106_1:=hB_ HB.out hx106_1;replace hx106_2:=hB_ HB.out hx106_2;replace p106:=eq_true p106;replace q106:=eq_true q106;refine start_ (n:=39) (S:=fun w' => w'.cell? (ad103.add ((a1).toNat * 3)) = some (.int .i64 ((rd_T58 l0 a1).f0)) ∧ w'.cell? ⟨(ad103.add ((a1).toNat * 3)).block,(ad103.add ((a1).toNat * 3)).off + 1,none⟩ = some (.int .i64 ((rd_T58 l0 a1).f1)) ∧ w'.cell? ⟨(ad103.add ((a1).toNat * 3)).block,(ad103.add ((a1).toNat * 3)).off + 2,none⟩ = some (.string ((rd_T58 l0 a1).f2)) ∧ w'.cell? (ad103.add (((ji9)).toNat * 3)) = some (.int .i64 ((rd_T58 l0 (ji9)).f0)) ∧ w'.cell? ⟨(ad103.add (((ji9)).toNat * 3)).block,(ad103.add (((ji9)).toNat * 3)).off + 1,none⟩ = some (.int .i64 ((rd_T58 l0 (ji9)).f1)) ∧ w'.cell? ⟨(ad103.add (((ji9)).toNat * 3)).block,(ad103.add (((ji9)).toNat * 3)).off + 2,none⟩ = some (.string ((rd_T58 l0 (ji9)).f2)) ∧ w'.cell? (ad103.add ((a1).toNat * 3)) = some (.int .i64 ((rd_T58 l0 a1).f0)) ∧ w'.cell? ⟨(ad103.add ((a1).toNat * 3)).block,(ad103.add ((a1).toNat * 3)).off + 1,none⟩ = some (.int .i64 ((rd_T58 l0 a1).f1)) ∧ w'.cell? ⟨(ad103.add ((a1).toNat * 3)).block,(ad103.add ((a1).toNat * 3)).off + 2,none⟩ = some (.string ((rd_T58 l0 a1).f2)) ∧ w'.cell? (ad103.add (((ji9)).toNat * 3)) = some (.int .i64 ((rd_T58 l0 (ji9)).f0)) ∧ w'.cell? ⟨(ad103.add (((ji9)).toNat * 3)).block,(ad103.add (((ji9)).toNat * 3)).off + 1,none⟩ = some (.int .i64 ((rd_T58 l0 (ji9)).f1)) ∧ w'.cell? ⟨(ad103.add (((ji9)).toNat * 3)).block,(ad103.add (((ji9)).toNat * 3)).off + 2,none⟩ = some (.string ((rd_T58 l0 (ji9)).f2))) (ds:=[]) f0_ (by kernel_rfl) rfl rfl ⟨((HB.out.cell (World.block_lt_of_cell? w _ hw103_0)).trans hw103_0),((HB.out.cell (World.block_lt_of_cell? w _ hw103_1)).trans hw103_1),((HB.out.cell (World.block_lt_of_cell? w _ hw103_2)).trans hw103_2),((HB.out.cell (World.block_lt_of_cell? w _ hw104_0)).trans hw104_0),((HB.out.cell (World.block_lt_of_cell? w _ hw104_1)).trans hw104_1),((HB.out.cell (World.block_lt_of_cell? w _ hw104_2)).trans hw104_2),((HB.out.cell (World.block_lt_of_cell? w _ hw105_0)).trans hw105_0),((HB.out.cell (World.block_lt_of_cell? w _ hw105_1)).trans hw105_1),((HB.out.cell (World.block_lt_of_cell? w _ hw105_2)).trans hw105_2),((HB.out.cell (World.block_lt_of_cell? w _ hw106_0)).trans hw106_0),((HB.out.cell (World.block_lt_of_cell? w _ hw106_1)).trans hw106_1),((HB.out.cell (World.block_lt_of_cell? w _ hw106_2)).trans hw106_2)⟩ (fun hHeld=>?_);refine with_tabW spec_JoinNotes.tab1 spec_JoinNotes.bits1 (fun HT_ HW_=>?_);generalize w.drew = w22 at HB hx103_0 hx103_1 hx103_2 hx104_0 hx104_1 hx104_2 hx105_0 hx105_1 hx105_2 hx106_0 hx106_1 hx106_2 hHeld ⊢;refine pure_ (i:=0) (N:=some 7) (v:=?_) (a' := ?_) f1_ rfl rfl (any_of HT_.out (by kernel_rfl)) (fun _ _ _ h=>h) (Or.inl ⟨by rfl,?_⟩) ?_ ?_;rotate_left
               ·intro w';go_simp;with_reducible rfl
               rotate_left
               ·exact q46_
               refine one_ (i:=1) (N:=some 8) f2_ rfl rfl (one_of HT_.out (by kernel_rfl)) (by decide) (fun K hK=>?_);refine goes_ Try.func119 (by kernel_rfl) rfl #[.slice _ l0.length c0] (by rfl) rfl rfl (q18_) ?_
               with_reducible refine (spec_tiGood.calls k _ _ l0 true _ ?side1 ?side2 A3.out).mono ?_
               (case side1=>exact cX_ (Kd.C_below HR0.out HB.out))
               (case side2=>exact HC0.out)
               rintro e w23 ⟨rfl,hb⟩;refine ⟨_,rfl,?_⟩;replace HB:=bS_ HB hb
               (try clear hb)
               (try clear hb2)
               (try clear hk)
               (try clear hi)
               refine hK.out _ _ ⟨((HB.out.cell (World.block_lt_of_cell? w _ hw103_0)).trans hw103_0),((HB.out.cell (World.block_lt_of_cell? w _ hw103_1)).trans hw103_1),((HB.out.cell (World.block_lt_of_cell? w _ hw103_2)).trans hw103_2),((HB.out.cell (World.block_lt_of_cell? w _ hw104_0)).trans hw104_0),((HB.out.cell (World.block_lt_of_cell? w _ hw104_1)).trans hw104_1),((HB.out.cell (World.block_lt_of_cell? w _ hw104_2)).trans hw104_2),((HB.out.cell (World.block_lt_of_cell? w _ hw105_0)).trans hw105_0),((HB.out.cell (World.block_lt_of_cell? w _ hw105_1)).trans hw105_1),((HB.out.cell (World.block_lt_of_cell? w _ hw105_2)).trans hw105_2),((HB.out.cell (World.block_lt_of_cell? w _ hw106_0)).trans hw106_0),((HB.out.cell (World.block_lt_of_cell? w _ hw106_1)).trans hw106_1),((HB.out.cell (World.block_lt_of_cell? w _ hw106_2)).trans hw106_2)⟩ (fun hHeld=>?_);clear hK K;refine norm_ (a' := ?_) ?_ ?_;rotate_left
               ·show Act.put _ (some 8) _ = _;simp only [Act.put,List.setIfInBounds_toArray,List.set_cons_zero,List.set_cons_succ,i64_w,i32_w];rfl
               refine pa_ 2 9 f3_ ?_
               refine pa_ 3 10 f4_ ?_
               refine pa_ 4 11 f5_ ?_
               refine pa_ 5 12 f6_ ?_
               refine pa_ 6 13 f7_ ?_
               refine pa_ 7 14 f8_ ?_
               refine one_ (i:=8) (N:=some 15) f9_ rfl rfl (one_of HT_.out (by kernel_rfl)) (by decide) (fun K hK=>?_);refine goes_ Try.func146 (by kernel_rfl) rfl #[.int .i64 a1,.int .i64 0,.int .i64 (wrap64 ((l0.length : Int) - 2))] (by rfl) rfl rfl (q18_) ?_
               with_reducible refine (spec_l1In.calls a1 0 (wrap64 ((l0.length : Int) - 2)) true _ A5.out).mono ?_
               rintro e w' ⟨rfl,⟨nd,rfl⟩⟩;refine ⟨_,rfl,?_⟩;refine hK.out _ _ ⟨((HB.out.cell (World.block_lt_of_cell? w _ hw103_0)).trans hw103_0),((HB.out.cell (World.block_lt_of_cell? w _ hw103_1)).trans hw103_1),((HB.out.cell (World.block_lt_of_cell? w _ hw103_2)).trans hw103_2),((HB.out.cell (World.block_lt_of_cell? w _ hw104_0)).trans hw104_0),((HB.out.cell (World.block_lt_of_cell? w _ hw104_1)).trans hw104_1),((HB.out.cell (World.block_lt_of_cell? w _ hw104_2)).trans hw104_2),((HB.out.cell (World.block_lt_of_cell? w _ hw105_0)).trans hw105_0),((HB.out.cell (World.block_lt_of_cell? w _ hw105_1)).trans hw105_1),((HB.out.cell (World.block_lt_of_cell? w _ hw105_2)).trans hw105_2),((HB.out.cell (World.block_lt_of_cell? w _ hw106_0)).trans hw106_0),((HB.out.cell (World.block_lt_of_cell? w _ hw106_1)).trans hw106_1),((HB.out.cell (World.block_lt_of_cell? w _ hw106_2)).trans hw106_2)⟩ (fun hHeld=>?_);clear hK K;refine norm_ (a' := ?_) ?_ ?_;rotate_left
               ·show Act.put _ (some 15) _ = _;simp only [Act.put,List.setIfInBounds_toArray,List.set_cons_zero,List.set_cons_succ,i64_w,i32_w];rfl
               refine pa_ 9 16 f10_ ?_
               refine pa_ 10 17 f11_ ?_
               refine pa_ 11 18 f12_ ?_
               refine pa_ 12 19 f13_ ?_
               refine pa_ 13 20 f14_ ?_
               refine pa_ 14 21 f15_ ?_
               refine pa_ 15 22 f16_ ?_
               refine pa_ 17 24 f17_ ?_
               refine pa_ 18 25 f18_ ?_
               refine pa_ 19 26 f19_ ?_
               refine pa_ 20 27 f20_ ?_
               refine pa_ 21 28 f21_ ?_
               refine take_ (i:=16) (N:=some 23) (v:=?_) (a' := ?_) f22_ rfl rfl (take_ofW HT_.out HW_.out (by kernel_rfl)) (fun _ _ _ h=>h) (Or.inl ⟨by rfl,?_⟩) hHeld ?_ ?_;rotate_left
               ·rintro w' ⟨s0,s1,s2,s3,s4,s5,s6,s7,s8,s9,s10,s11⟩;go_simp;with_reducible rfl
               rotate_left
               ·exact q46_
               refine take_ (i:=22) (N:=some 29) (v:=?_) (a' := ?_) f23_ rfl rfl (take_ofW HT_.out HW_.out (by kernel_rfl)) (fun _ _ _ h=>h) (Or.inl ⟨by rfl,?_⟩) hHeld ?_ ?_;rotate_left
               ·rintro w' ⟨s0,s1,s2,s3,s4,s5,s6,s7,s8,s9,s10,s11⟩;go_simp;with_reducible rfl
               rotate_left
               ·exact q46_
               refine pa_ 23 30 f24_ ?_
               refine pa_ 24 31 f25_ ?_
               refine pa_ 25 32 f26_ ?_
               refine pa_ 26 33 f27_ ?_
               refine pa_ 27 34 f28_ ?_
               refine pa_ 28 35 f29_ ?_
               refine pa_ 29 36 f30_ ?_
               refine pa_ 31 38 f31_ ?_
               refine pa_ 32 39 f32_ ?_
               refine pa_ 33 40 f33_ ?_
               refine pa_ 34 41 f34_ ?_
               refine pa_ 35 42 f35_ ?_
               refine take_ (i:=30) (N:=some 37) (v:=?_) (a' := ?_) f36_ rfl rfl (take_ofW HT_.out HW_.out (by kernel_rfl)) (fun _ _ _ h=>h) (Or.inl ⟨by rfl,?_⟩) hHeld ?_ ?_;rotate_left
               ·rintro w' ⟨s0,s1,s2,s3,s4,s5,s6,s7,s8,s9,s10,s11⟩;go_simp;with_reducible rfl
               rotate_left
               ·exact q46_
               refine take_ (i:=36) (N:=some 43) (v:=?_) (a' := ?_) f37_ rfl rfl (take_ofW HT_.out HW_.out (by kernel_rfl)) (fun _ _ _ h=>h) (Or.inl ⟨by rfl,?_⟩) hHeld ?_ ?_;rotate_left
               ·rintro w' ⟨s0,s1,s2,s3,s4,s5,s6,s7,s8,s9,s10,s11⟩;go_simp;with_reducible rfl
               rotate_left
               ·exact q46_
               refine pa_ 37 44 f38_ ?_
               refine pa_ 38 45 f39_ ?_
               refine done_ (done_of HT_.out (by kernel_rfl)) ?_;have p107 : 0 ≤ (a1 : Int):=of_decide_eq_true (q3_);have q107 : a1 < (l0.length : Int):=of_decide_eq_true (q3_);obtain ⟨ad107,e107,hx107_0,hx107_1,hx107_2⟩:=at_T58 HR0.out a1 p107 q107;obtain rfl : ad103 = ad107:=(by injection e107);replace hx107_0:=hB_ HB.out hx107_0;replace hx107_1:=hB_ HB.out hx107_1;replace hx107_2:=hB_ HB.out hx107_2;replace p107:=eq_true p107;replace q107:=eq_true q107;try go_wp2_with (first | ((with_reducible refine gate_dst (N:=6) rfl ?_);(try (refine gate_guard (by rfl) ?_;dsimp only));refine box_event ?hg (N:=6) ?hd (cs:=#[.int .i64 0,.int .i64 0,.string (⟨#[]⟩ : ByteArray)]) (t:=58) ?hr ?_;(case hd=>rfl);(case hg=>rfl);(case hr=>first | (go_simp;done) | (go_simp;rfl));intro gb108 hg w24 hbox hb;have BK108:=Aside0.mk (hbox);have GW108:=Aside0.mk ((q42_ : w.heap.size ≤ gb108));have GE108:=Aside0.mk ((q42_ : w.heap.size ≤ gb108));replace HB:=bS_ HB hb;clear hb hbox hg;have hcz25_0 : w24.cell? ⟨gb108,0,none⟩ = some (.int .i64 0):=(blk_cell BK108.out 0).trans rfl;have hcz25_1 : w24.cell? ⟨gb108,1,none⟩ = some (.int .i64 0):=(blk_cell BK108.out 1).trans rfl;have hcz25_2 : w24.cell? ⟨gb108,2,none⟩ = some (.string (⟨#[]⟩ : ByteArray)):=(blk_cell BK108.out 2).trans rfl;have hfz25_0:=blk_frozen BK108.out 0;have hfz25_1:=blk_frozen BK108.out 1;have hfz25_2:=blk_frozen BK108.out 2;have p109 : 0 ≤ ((ji9) : Int):=of_decide_eq_true (q3_);have q109 : (ji9) < (l0.length : Int):=of_decide_eq_true (q3_);obtain ⟨ad109,e109,hx109_0,hx109_1,hx109_2⟩:=at_T58 HR0.out (ji9) p109 q109;obtain rfl : ad103 = ad109:=(by injection e109);have hn109_0 : ad103.block ≠ gb108:=Nat.ne_of_lt (Nat.lt_of_lt_of_le (by have:=World.block_lt_of_cell? _ _ hx109_0;first | rwa [add_block] at this | exact this) GW108.out);have hn109_1 : ad103.block ≠ gb108:=Nat.ne_of_lt (Nat.lt_of_lt_of_le (by have:=World.block_lt_of_cell? _ _ hx109_0;first | rwa [add_block] at this | exact this) GW108.out);have hn109_2 : ad103.block ≠ gb108:=Nat.ne_of_lt (Nat.lt_of_lt_of_le (by have:=World.block_lt_of_cell? _ _ hx109_0;first | rwa [add_block] at this | exact this) GW108.out);replace hx109_0:=hB_ HB.out hx109_0;replace hx109_1:=hB_ HB.out hx109_1;replace hx109_2:=hB_ HB.out hx109_2;replace hx109_0:=(cell_far (p:=⟨gb108,0,none⟩) (by first | (rw [add_block];exact hn109_0) | (show (Addr.add _ _).block ≠ _;rw [add_block];exact hn109_0) | exact hn109_0) (.int .i64 ((rd_T58 l0 a1).f0))).trans hx109_0;replace hx109_1:=(cell_far (p:=⟨gb108,0,none⟩) (by first | (rw [add_block];exact hn109_0) | (show (Addr.add _ _).block ≠ _;rw [add_block];exact hn109_0) | exact hn109_0) (.int .i64 ((rd_T58 l0 a1).f0))).trans hx109_1;replace hx109_2:=(cell_far (p:=⟨gb108,0,none⟩) (by first | (rw [add_block];exact hn109_0) | (show (Addr.add _ _).block ≠ _;rw [add_block];exact hn109_0) | exact hn109_0) (.int .i64 ((rd_T58 l0 a1).f0))).trans hx109_2;replace hx109_0:=(cell_far (p:=⟨gb108,1,none⟩) (by first | (rw [add_block];exact hn109_1) | (show (Addr.add _ _).block ≠ _;rw [add_block];exact hn109_1) | exact hn109_1) (.int .i64 ((rd_T58 l0 a1).f1))).trans hx109_0;replace hx109_1:=(cell_far (p:=⟨gb108,1,none⟩) (by first | (rw [add_block];exact hn109_1) | (show (Addr.add _ _).block ≠ _;rw [add_block];exact hn109_1) | exact hn109_1) (.int .i64 ((rd_T58 l0 a1).f1))).trans hx109_1;replace hx109_2:=(cell_far (p:=⟨gb108,1,none⟩) (by first | (rw [add_block];exact hn109_1) | (show (Addr.add _ _).block ≠ _;rw [add_block];exact hn109_1) | exact hn109_1) (.int .i64 ((rd_T58 l0 a1).f1))).trans hx109_2;replace hx109_0:=(cell_far (p:=⟨gb108,2,none⟩) (by first | (rw [add_block];exact hn109_2) | (show (Addr.add _ _).block ≠ _;rw [add_block];exact hn109_2) | exact hn109_2) (.string ((rd_T58 l0 a1).f2))).trans hx109_0;replace hx109_1:=(cell_far (p:=⟨gb108,2,none⟩) (by first | (rw [add_block];exact hn109_2) | (show (Addr.add _ _).block ≠ _;rw [add_block];exact hn109_2) | exact hn109_2) (.string ((rd_T58 l0 a1).f2))).trans hx109_1;replace hx109_2:=(cell_far (p:=⟨gb108,2,none⟩) (by first | (rw [add_block];exact hn109_2) | (show (Addr.add _ _).block ≠ _;rw [add_block];exact hn109_2) | exact hn109_2) (.string ((rd_T58 l0 a1).f2))).trans hx109_2;clear hn109_0;clear hn109_1;clear hn109_2;replace p109:=eq_true p109;replace q109:=eq_true q109))
               have n0_ : Aside0 (((((w24.setCell ⟨gb108,0,none⟩ (.int .i64 ((rd_T58 l0 a1).f0))).setCell ⟨gb108,1,none⟩ (.int .i64 ((rd_T58 l0 a1).f1))).setCell ⟨gb108,2,none⟩ (.string ((rd_T58 l0 a1).f2))).setCell ⟨gb108,1,none⟩ (.int .i64 ((rd_T58 l0 (ji9)).f1))).heap[gb108]? = some (.cells #[.int .i64 ((rd_T58 l0 a1).f0),.int .i64 ((rd_T58 l0 (ji9)).f1),.string ((rd_T58 l0 a1).f2)] 58 (0,0))):=⟨by (with_reducible repeat (first | refine blk_drewN ?_ _ | refine blk_drew ?_ | refine blk_alloc ?_ _));refine blk_put (cs:=#[.int .i64 ((rd_T58 l0 a1).f0),.int .i64 ((rd_T58 l0 a1).f1),.string ((rd_T58 l0 a1).f2)]) ?_ 1 _ rfl;(with_reducible repeat (first | refine blk_drewN ?_ _ | refine blk_drew ?_ | refine blk_alloc ?_ _));refine blk_put (cs:=#[.int .i64 ((rd_T58 l0 a1).f0),.int .i64 ((rd_T58 l0 a1).f1),.string (⟨#[]⟩ : ByteArray)]) ?_ 2 _ rfl;(with_reducible repeat (first | refine blk_drewN ?_ _ | refine blk_drew ?_ | refine blk_alloc ?_ _));refine blk_put (cs:=#[.int .i64 ((rd_T58 l0 a1).f0),.int .i64 0,.string (⟨#[]⟩ : ByteArray)]) ?_ 1 _ rfl;(with_reducible repeat (first | refine blk_drewN ?_ _ | refine blk_drew ?_ | refine blk_alloc ?_ _));refine blk_put (cs:=#[.int .i64 0,.int .i64 0,.string (⟨#[]⟩ : ByteArray)]) ?_ 0 _ rfl;(with_reducible repeat (first | refine blk_drewN ?_ _ | refine blk_drew ?_ | refine blk_alloc ?_ _));exact BK108.out⟩;have n1_ : Aside0 (Below w.heap.size w ((((w24.setCell ⟨gb108,0,none⟩ (.int .i64 ((rd_T58 l0 a1).f0))).setCell ⟨gb108,1,none⟩ (.int .i64 ((rd_T58 l0 a1).f1))).setCell ⟨gb108,2,none⟩ (.string ((rd_T58 l0 a1).f2))).setCell ⟨gb108,1,none⟩ (.int .i64 ((rd_T58 l0 (ji9)).f1)))):=⟨q21_⟩
               (try clear BK108)
               (try clear HB)
               generalize ((((w24.setCell ⟨gb108,0,none⟩ (.int .i64 ((rd_T58 l0 a1).f0))).setCell ⟨gb108,1,none⟩ (.int .i64 ((rd_T58 l0 a1).f1))).setCell ⟨gb108,2,none⟩ (.string ((rd_T58 l0 a1).f2))).setCell ⟨gb108,1,none⟩ (.int .i64 ((rd_T58 l0 (ji9)).f1))) = w26 at n0_ n1_ ⊢;have BK108:=n0_;have HB:=n1_;clear n0_ n1_;replace BK108:=Aside0.mk (blk_drew BK108.out);replace HB:=Aside0.mk (below_drew1 HB.out);have q28 : (a1 : Int) ≤ ((l0.length : Int) : Int):=of_decide_eq_true (q3_);obtain ⟨i028,hi028,_,hsz28,_⟩:=info_parts info58;have hroom28 : l0.length ≤ c0:=HC0.out;have hC28 : Kd.C k58 _ (some ad103) l0.length l0:=HR0.out;have hcut28:=cut_to (P:=Try.prog) 30 58 .i64 Try.underlying30 hi028 (some ad103) l0.length c0 a1 (of_decide_eq_true (q3_)) q28 hroom28;have hr28:=Kd.C_take (m:=(a1 : Int).toNat) hC28 (by omega);have hy28 : y113.length = (a1 : Int).toNat:=(by rw [Ny113.out,List.length_take];omega);rw [← Ny113.out] at hr28;rw [← hy28] at hcut28;have HR116:=Aside0.mk hr28;have HC116:=Aside0.mk (show y113.length ≤ c0 from by omega);clear hr28 hC28 hroom28 hi028 hsz28;have KY28:=Aside0.mk hy28;clear hy28;replace q28:=eq_true q28;have q29 : ((ji18) : Int) ≤ ((l0.length : Int) : Int):=of_decide_eq_true (q3_);obtain ⟨i029,hi029,_,hsz29,_⟩:=info_parts info58;have hroom29 : l0.length ≤ c0:=HC0.out;have hC29 : Kd.C k58 _ (some ad103) l0.length l0:=HR0.out;have q029 : (0 : Int) ≤ ((ji18) : Int):=of_decide_eq_true (q3_);have hcut29:=cut_from (P:=Try.prog) 30 58 .i64 Try.underlying30 hi029 3 hsz29 (some ad103) l0.length c0 (ji18) q029 q29;have hr29:=Kd.C_drop (m:=((ji18) : Int).toNat) (c:=c0) hC29 (by omega) hroom29;obtain ⟨A29,hA29⟩ : ∃ A1,A1 = (if c0 = ((ji18) : Int).toNat then (some ad103) else ((some ad103) : Option Addr).map (·.add (((ji18) : Int).toNat * 3))):=⟨_,rfl⟩;obtain ⟨c29,hc29⟩ : ∃ c1,c1 = c0 - ((ji18) : Int).toNat:=⟨_,rfl⟩;have hy29 : y126.length = l0.length - ((ji18) : Int).toNat:=(by rw [Ny126.out,List.length_drop] <;> omega);rw [show (l0).drop ((ji18) : Int).toNat = y126 from Ny126.out.symm] at hr29;replace hr29 : Kd.C k58 _ A29 y126.length y126:=(by rw [hA29];exact hr29);rw [← hy29,← hA29,← hc29] at hcut29;have HR129:=Aside0.mk hr29;have HC129:=Aside0.mk (show y126.length ≤ c29 from by rw [hy29,hc29];exact Nat.sub_le_sub_right hroom29 _);clear hr29 hC29 hroom29 hi029 hsz29 hc29;have KY29:=Aside0.mk hy29;have KA29:=Aside0.mk hA29;clear hy29 hA29;replace q29:=eq_true q29;refine start_ (n:=15) (S:=fun w' => w'.cell? ⟨gb108,0,none⟩ = some (.int .i64 ((rd_T58 l0 a1).f0)) ∧ w'.cell? ⟨gb108,1,none⟩ = some (.int .i64 ((rd_T58 l0 (ji9)).f1)) ∧ w'.cell? ⟨gb108,2,none⟩ = some (.string ((rd_T58 l0 a1).f2))) (ds:=[]) f40_ (by kernel_rfl) rfl rfl ⟨(blk_cell BK108.out 0).trans rfl,(blk_cell BK108.out 1).trans rfl,(blk_cell BK108.out 2).trans rfl⟩ (fun hHeld=>?_);refine with_tabW spec_JoinNotes.tab5 spec_JoinNotes.bits5 (fun HT_ HW_=>?_);generalize w26.drew = w27 at BK108 HB HR116 HR129 hHeld ⊢;refine pure_ (i:=1) (N:=some 58) (v:=?_) (a' := ?_) f41_ rfl rfl (any_of HT_.out (by kernel_rfl)) (fun _ _ _ h=>h) (Or.inl ⟨by rfl,?_⟩) ?_ ?_;rotate_left
               ·intro w';go_simp;with_reducible rfl
               rotate_left
               ·exact q46_
               refine pa_ 2 59 f42_ ?_
               refine pa_ 3 60 f43_ ?_
               refine pa_ 8 65 f44_ ?_
               refine pa_ 9 66 f45_ ?_
               refine pa_ 10 67 f46_ ?_
               refine pa_ 11 68 f47_ ?_
               refine take_ (i:=5) (N:=some 62) (v:=?_) (a' := ?_) f48_ rfl rfl (take_ofW HT_.out HW_.out (by kernel_rfl)) (fun _ _ _ h=>h) (Or.inl ⟨by rfl,?_⟩) hHeld ?_ ?_;rotate_left
               ·rintro w' ⟨s0,s1,s2⟩;go_simp;with_reducible rfl
               rotate_left
               ·exact q46_
               refine join_ (σ:=Value × Value × Value) 4 f49_ (fun s_=>[(57,s_.1),(61,s_.2.1),(63,s_.2.2)]) (fun s_ w' => (w'.cell? ⟨gb108,0,none⟩ = some (.int .i64 ((rd_T58 l0 a1).f0)) ∧ w'.cell? ⟨gb108,1,none⟩ = some (.int .i64 ((rd_T58 l0 (ji9)).f1)) ∧ w'.cell? ⟨gb108,2,none⟩ = some (.string ((rd_T58 l0 a1).f2))) ∧ (Kd.R k58 58 w' w.heap.size (fun k_=>some k_ ≠ (s_.2.2 : Value).ownBlock ∧ k_ ≠ gb108) s_.2.1 y117) ∧ (Kd.R k58 58 w' w.heap.size (fun k_=>some k_ ≠ (s_.2.1 : Value).ownBlock ∧ k_ ≠ gb108) s_.2.2 y120) ∧ (w'.heap[gb108]? = some (.cells #[.int .i64 ((rd_T58 l0 a1).f0),.int .i64 ((rd_T58 l0 (ji9)).f1),.string ((rd_T58 l0 a1).f2)] 58 (0,0))) ∧ (Below w.heap.size w w')) ?_ ?_;rotate_left
               ·intro hCont;refine two_ (i:=0) (j:=6) (Ni:=some 57) (Nj:=some 63) f50_ f51_ rfl rfl rfl rfl (two_of HT_.out (by kernel_rfl)) (by decide) (by decide) (fun K hK=>?_) (fun K hK=>?_)
                ·skip
                 refine Kd.R_lit_step k58 _ 58 ?hg (N:=57) ?hd (xs:=([] : List (S58))) (inner:=[]) (ok:=fun _=>True) (okp:=fun _=>True) ?hr ?hp (fun _ hk=>hk) trivial (Below.refl _ _) (Nat.le_refl _) (by simp) ?_;(case hd=>rfl);(case hg=>rfl);(case hr=>first | (go_simp;done) | (go_simp;rfl));(case hp=>exact (Reps.none _ _));intro v111 w30 ho31 hb hg_ hnew_;clear hg_ hnew_
                 (first | rw [← Ny110.out] at ho31 | (simp only [Int.reduceToNat] at ho31;rw [← Ny110.out] at ho31))
                 have HO112:=Aside0.mk (Kd.R_lower (Kd.R_newB ho31 (g:=gb108) (o:=.cells #[.int .i64 ((rd_T58 l0 a1).f0),.int .i64 ((rd_T58 l0 (ji9)).f1),.string ((rd_T58 l0 a1).f2)] 58 (0,0)) (q14_)) (below_size (q21_)));replace BK108:=bkB_ BK108 hb;replace HB:=Aside0.mk (below_step (q21_) hb);clear hb ho31;refine hK.out _ _ ⟨(blk_cell BK108.out 0).trans rfl,(blk_cell BK108.out 1).trans rfl,(blk_cell BK108.out 2).trans rfl⟩ (fun hHeld=>?_);clear hK K;refine norm_ (a' := ?_) ?_ ?_;rotate_left
                 ·show Act.put _ (some 57) _ = _;simp only [Act.put,List.setIfInBounds_toArray,List.set_cons_zero,List.set_cons_succ,i64_w,i32_w];rfl
                 refine two_ (i:=4) (j:=6) (Ni:=some 61) (Nj:=some 63) f52_ f53_ rfl rfl rfl rfl (two_of HT_.out (by kernel_rfl)) (by decide) (by decide) (fun K hK=>?_) (fun K hK=>?_)
                 ·skip
                  refine Kd.R_append_rows_step k58 (w0:=w) w.heap.size (by rfl) (.tmp 57) (.tmp 60) 30 58 (.agg #[(.int .i64 0),(.int .i64 0),(.string ⟨#[]⟩)]) 32 rfl Try.underlying30 info58 rfl (by decide) (by omega) v111 y110 y113 _ _ _ (fun k_=>k_ ≠ gb108) (fun _=>False) rfl rfl ?aO ?aR (fun _ _ h=>h) (fun _ h=>h.elim) ?aF ?aB ?aS ?aL ?_
                  (case aR=>exact cX_ (Kd.C_below HR116.out HB.out))
                  (case aB=>exact (q21_))
                  (case aF=>exact (fun k_ hk=>Kd.freshB (g:=gb108) (o:=.cells #[.int .i64 ((rd_T58 l0 a1).f0),.int .i64 ((rd_T58 l0 (ji9)).f1),.string ((rd_T58 l0 a1).f2)] 58 (0,0)) (q14_) k_ hk))
                  (case aO=>exact (by (with_reducible repeat (first | apply Kd.R_alloc | apply Kd.R_drewN | apply Kd.R_drew));exact Kd.R_mono HO112.out (fun _ hk=>hk.2)))
                  (case aS=>exact (below_size (q21_)))
                  (case aL=>have:=LMc16.out;omega)
                  intro v118 w32 ho hb hg hat;rw [← Ny117.out] at ho;replace BK108:=Aside0.mk (blk_grown (g:=gb108) (o:=.cells #[.int .i64 ((rd_T58 l0 a1).f0),.int .i64 ((rd_T58 l0 (ji9)).f1),.string ((rd_T58 l0 a1).f2)] 58 (0,0)) (q14_) hg (Kd.R_away HO112.out (fun _ hk=>hk.2)));replace HB:=Aside0.mk (hb);have HO119:=Aside0.mk (ho);clear HO112 ho hb hg hat;refine hK.out _ _ ⟨(blk_cell BK108.out 0).trans rfl,(blk_cell BK108.out 1).trans rfl,(blk_cell BK108.out 2).trans rfl⟩ (fun hHeld=>?_);clear hK K;refine norm_ (a' := ?_) ?_ ?_;rotate_left
                  ·show Act.put _ (some 61) _ = _;simp only [Act.put,List.setIfInBounds_toArray,List.set_cons_zero,List.set_cons_succ,i64_w,i32_w];rfl
                  refine one_ (i:=6) (N:=some 63) f49_ rfl rfl (one_of HT_.out (by kernel_rfl)) (by decide) (fun K hK=>?_);refine Kd.R_lit_step k58 _ 58 ?hg (N:=63) ?hd (xs:=([(⟨(rd_T58 l0 a1).f0,(rd_T58 l0 (ji9)).f1,(rd_T58 l0 a1).f2⟩ : S58)] : List (S58))) (inner:=[.int .i64 ((rd_T58 l0 a1).f0),.int .i64 ((rd_T58 l0 (ji9)).f1),.string ((rd_T58 l0 a1).f2)]) (ok:=fun _=>True) (okp:=fun _=>True) ?hr ?hp (fun _ hk=>hk) trivial (Below.refl _ _) (Nat.le_refl _) (by simp) ?_;(case hd=>rfl);(case hg=>rfl);(case hr=>first | (go_simp;done) | (go_simp;rfl));(case hp=>exact (Reps.c3 (show Kd.M k58 _ _ _ (⟨(rd_T58 l0 a1).f0,(rd_T58 l0 (ji9)).f1,(rd_T58 l0 a1).f2⟩ : S58) [.int .i64 ((rd_T58 l0 a1).f0),.int .i64 ((rd_T58 l0 (ji9)).f1),.string ((rd_T58 l0 a1).f2)] from (k58_mkM _ _ _ (⟨(rd_T58 l0 a1).f0,(rd_T58 l0 (ji9)).f1,(rd_T58 l0 a1).f2⟩ : S58) )) (Reps.none _ _)));intro v121 w33 ho34 hb hg_ hnew_;clear hg_ hnew_
                  (first | rw [← Ny120.out] at ho34 | (simp only [Int.reduceToNat] at ho34;rw [← Ny120.out] at ho34))
                  have HO122:=Aside0.mk (Kd.R_lower (Kd.R_newB (Kd.R_new' ho34 (Kd.R_lt (q7_))) (g:=gb108) (o:=.cells #[.int .i64 ((rd_T58 l0 a1).f0),.int .i64 ((rd_T58 l0 (ji9)).f1),.string ((rd_T58 l0 a1).f2)] 58 (0,0)) (q14_)) (below_size (q21_)));replace HO119:=rE_ HO119 ho34 hb;replace BK108:=bkB_ BK108 hb;replace HB:=Aside0.mk (below_step (q21_) hb);clear hb ho34;refine hK.out _ _ ⟨(blk_cell BK108.out 0).trans rfl,(blk_cell BK108.out 1).trans rfl,(blk_cell BK108.out 2).trans rfl⟩ (fun hHeld=>?_);clear hK K;refine norm_ (a' := ?_) ?_ ?_;rotate_left
                  ·show Act.put _ (some 63) _ = _;simp only [Act.put,List.setIfInBounds_toArray,List.set_cons_zero,List.set_cons_succ,i64_w,i32_w];rfl
                  exact norm_ (by simp only [putAll,Act.put,List.setIfInBounds_toArray,List.set_cons_zero,List.set_cons_succ]) (hCont (v111,v118,v121) _ ⟨hHeld,(by (with_reducible repeat (first | apply Kd.R_alloc | apply Kd.R_drewN | apply Kd.R_drew));exact Kd.R_mono HO119.out (fun _ hk=>⟨hk.2,hk.1⟩)),(by (with_reducible repeat (first | apply Kd.R_alloc | apply Kd.R_drewN | apply Kd.R_drew));exact Kd.R_mono HO122.out (fun _ hk=>⟨hk.1.2,hk.2⟩)),(q14_),(q21_)⟩)
                 ·skip
                  refine Kd.R_lit_step k58 _ 58 ?hg (N:=63) ?hd (xs:=([(⟨(rd_T58 l0 a1).f0,(rd_T58 l0 (ji9)).f1,(rd_T58 l0 a1).f2⟩ : S58)] : List (S58))) (inner:=[.int .i64 ((rd_T58 l0 a1).f0),.int .i64 ((rd_T58 l0 (ji9)).f1),.string ((rd_T58 l0 a1).f2)]) (ok:=fun _=>True) (okp:=fun _=>True) ?hr ?hp (fun _ hk=>hk) trivial (Below.refl _ _) (Nat.le_refl _) (by simp) ?_;(case hd=>rfl);(case hg=>rfl);(case hr=>first | (go_simp;done) | (go_simp;rfl));(case hp=>exact (Reps.c3 (show Kd.M k58 _ _ _ (⟨(rd_T58 l0 a1).f0,(rd_T58 l0 (ji9)).f1,(rd_T58 l0 a1).f2⟩ : S58) [.int .i64 ((rd_T58 l0 a1).f0),.int .i64 ((rd_T58 l0 (ji9)).f1),.string ((rd_T58 l0 a1).f2)] from (k58_mkM _ _ _ (⟨(rd_T58 l0 a1).f0,(rd_T58 l0 (ji9)).f1,(rd_T58 l0 a1).f2⟩ : S58) )) (Reps.none _ _)));intro v121 w32 ho33 hb hg_ hnew_;clear hg_ hnew_
                  (first | rw [← Ny120.out] at ho33 | (simp only [Int.reduceToNat] at ho33;rw [← Ny120.out] at ho33))
                  have HO122:=Aside0.mk (Kd.R_lower (Kd.R_newB (Kd.R_new' ho33 (Kd.R_lt (by (with_reducible repeat (first | apply Kd.R_alloc | apply Kd.R_drewN | apply Kd.R_drew));exact HO112.out))) (g:=gb108) (o:=.cells #[.int .i64 ((rd_T58 l0 a1).f0),.int .i64 ((rd_T58 l0 (ji9)).f1),.string ((rd_T58 l0 a1).f2)] 58 (0,0)) (q14_)) (below_size (q21_)));replace HO112:=rE_ HO112 ho33 hb;replace BK108:=bkB_ BK108 hb;replace HB:=Aside0.mk (below_step (q21_) hb);clear hb ho33;refine hK.out _ _ ⟨(blk_cell BK108.out 0).trans rfl,(blk_cell BK108.out 1).trans rfl,(blk_cell BK108.out 2).trans rfl⟩ (fun hHeld=>?_);clear hK K;refine norm_ (a' := ?_) ?_ ?_;rotate_left
                  ·show Act.put _ (some 63) _ = _;simp only [Act.put,List.setIfInBounds_toArray,List.set_cons_zero,List.set_cons_succ,i64_w,i32_w];rfl
                  refine one_ (i:=4) (N:=some 61) f49_ rfl rfl (one_of HT_.out (by kernel_rfl)) (by decide) (fun K hK=>?_);refine Kd.R_append_rows_step k58 (w0:=w) w.heap.size (by rfl) (.tmp 57) (.tmp 60) 30 58 (.agg #[(.int .i64 0),(.int .i64 0),(.string ⟨#[]⟩)]) 32 rfl Try.underlying30 info58 rfl (by decide) (by omega) v111 y110 y113 _ _ _ (fun k_=>some k_ ≠ (v121 : Value).ownBlock ∧ k_ ≠ gb108) (fun _=>False) rfl rfl ?aO ?aR (fun _ _ h=>h) (fun _ h=>h.elim) ?aF ?aB ?aS ?aL ?_
                  (case aR=>exact cX_ (Kd.C_below HR116.out HB.out))
                  (case aB=>exact (q21_))
                  (case aF=>exact (fun k_ hk=>⟨Kd.fresh' (Kd.R_lt (q8_)) k_ hk,Kd.freshB (g:=gb108) (o:=.cells #[.int .i64 ((rd_T58 l0 a1).f0),.int .i64 ((rd_T58 l0 (ji9)).f1),.string ((rd_T58 l0 a1).f2)] 58 (0,0)) (q14_) k_ hk⟩))
                  (case aO=>exact (by (with_reducible repeat (first | apply Kd.R_alloc | apply Kd.R_drewN | apply Kd.R_drew));exact Kd.R_mono HO112.out (fun _ hk=>⟨hk.2,hk.1.2⟩)))
                  (case aS=>exact (below_size (q21_)))
                  (case aL=>have:=LMc16.out;omega)
                  intro v118 w34 ho hb hg hat;rw [← Ny117.out] at ho;replace BK108:=Aside0.mk (blk_grown (g:=gb108) (o:=.cells #[.int .i64 ((rd_T58 l0 a1).f0),.int .i64 ((rd_T58 l0 (ji9)).f1),.string ((rd_T58 l0 a1).f2)] 58 (0,0)) (q14_) hg (Kd.R_away HO112.out (fun _ hk=>hk.1.2)));replace HO122:=Aside0.mk (Kd.R_after (ok:=(fun k_=>k_ ≠ gb108)) (by (with_reducible repeat (first | apply Kd.R_alloc | apply Kd.R_drewN | apply Kd.R_drew));exact Kd.R_mono HO122.out (fun _ hk=>⟨hk.2,hk.1.2⟩)) hg hat);replace HB:=Aside0.mk (hb);have HO119:=Aside0.mk (ho);clear HO112 ho hb hg hat;refine hK.out _ _ ⟨(blk_cell BK108.out 0).trans rfl,(blk_cell BK108.out 1).trans rfl,(blk_cell BK108.out 2).trans rfl⟩ (fun hHeld=>?_);clear hK K;refine norm_ (a' := ?_) ?_ ?_;rotate_left
                  ·show Act.put _ (some 61) _ = _;simp only [Act.put,List.setIfInBounds_toArray,List.set_cons_zero,List.set_cons_succ,i64_w,i32_w];rfl
                  exact norm_ (by simp only [putAll,Act.put,List.setIfInBounds_toArray,List.set_cons_zero,List.set_cons_succ]) (hCont (v111,v118,v121) _ ⟨hHeld,(q7_),(by (with_reducible repeat (first | apply Kd.R_alloc | apply Kd.R_drewN | apply Kd.R_drew));exact Kd.R_mono HO122.out (fun _ hk=>⟨hk.2,hk.1⟩)),(q14_),(q21_)⟩)
                ·skip
                 refine Kd.R_lit_step k58 _ 58 ?hg (N:=63) ?hd (xs:=([(⟨(rd_T58 l0 a1).f0,(rd_T58 l0 (ji9)).f1,(rd_T58 l0 a1).f2⟩ : S58)] : List (S58))) (inner:=[.int .i64 ((rd_T58 l0 a1).f0),.int .i64 ((rd_T58 l0 (ji9)).f1),.string ((rd_T58 l0 a1).f2)]) (ok:=fun _=>True) (okp:=fun _=>True) ?hr ?hp (fun _ hk=>hk) trivial (Below.refl _ _) (Nat.le_refl _) (by simp) ?_;(case hd=>rfl);(case hg=>rfl);(case hr=>first | (go_simp;done) | (go_simp;rfl));(case hp=>exact (Reps.c3 (show Kd.M k58 _ _ _ (⟨(rd_T58 l0 a1).f0,(rd_T58 l0 (ji9)).f1,(rd_T58 l0 a1).f2⟩ : S58) [.int .i64 ((rd_T58 l0 a1).f0),.int .i64 ((rd_T58 l0 (ji9)).f1),.string ((rd_T58 l0 a1).f2)] from (k58_mkM _ _ _ (⟨(rd_T58 l0 a1).f0,(rd_T58 l0 (ji9)).f1,(rd_T58 l0 a1).f2⟩ : S58) )) (Reps.none _ _)));intro v121 w30 ho31 hb hg_ hnew_;clear hg_ hnew_
                 (first | rw [← Ny120.out] at ho31 | (simp only [Int.reduceToNat] at ho31;rw [← Ny120.out] at ho31))
                 have HO122:=Aside0.mk (Kd.R_lower (Kd.R_newB ho31 (g:=gb108) (o:=.cells #[.int .i64 ((rd_T58 l0 a1).f0),.int .i64 ((rd_T58 l0 (ji9)).f1),.string ((rd_T58 l0 a1).f2)] 58 (0,0)) (q14_)) (below_size (q21_)));replace BK108:=bkB_ BK108 hb;replace HB:=Aside0.mk (below_step (q21_) hb);clear hb ho31;refine hK.out _ _ ⟨(blk_cell BK108.out 0).trans rfl,(blk_cell BK108.out 1).trans rfl,(blk_cell BK108.out 2).trans rfl⟩ (fun hHeld=>?_);clear hK K;refine norm_ (a' := ?_) ?_ ?_;rotate_left
                 ·show Act.put _ (some 63) _ = _;simp only [Act.put,List.setIfInBounds_toArray,List.set_cons_zero,List.set_cons_succ,i64_w,i32_w];rfl
                 refine one_ (i:=0) (N:=some 57) f53_ rfl rfl (one_of HT_.out (by kernel_rfl)) (by decide) (fun K hK=>?_);refine Kd.R_lit_step k58 _ 58 ?hg (N:=57) ?hd (xs:=([] : List (S58))) (inner:=[]) (ok:=fun _=>True) (okp:=fun _=>True) ?hr ?hp (fun _ hk=>hk) trivial (Below.refl _ _) (Nat.le_refl _) (by simp) ?_;(case hd=>rfl);(case hg=>rfl);(case hr=>first | (go_simp;done) | (go_simp;rfl));(case hp=>exact (Reps.none _ _));intro v111 w32 ho33 hb hg_ hnew_;clear hg_ hnew_
                 (first | rw [← Ny110.out] at ho33 | (simp only [Int.reduceToNat] at ho33;rw [← Ny110.out] at ho33))
                 have HO112:=Aside0.mk (Kd.R_lower (Kd.R_newB (Kd.R_new' ho33 (Kd.R_lt (q8_))) (g:=gb108) (o:=.cells #[.int .i64 ((rd_T58 l0 a1).f0),.int .i64 ((rd_T58 l0 (ji9)).f1),.string ((rd_T58 l0 a1).f2)] 58 (0,0)) (q14_)) (below_size (q21_)));replace HO122:=rE_ HO122 ho33 hb;replace BK108:=bkB_ BK108 hb;replace HB:=Aside0.mk (below_step (q21_) hb);clear hb ho33;refine hK.out _ _ ⟨(blk_cell BK108.out 0).trans rfl,(blk_cell BK108.out 1).trans rfl,(blk_cell BK108.out 2).trans rfl⟩ (fun hHeld=>?_);clear hK K;refine norm_ (a' := ?_) ?_ ?_;rotate_left
                 ·show Act.put _ (some 57) _ = _;simp only [Act.put,List.setIfInBounds_toArray,List.set_cons_zero,List.set_cons_succ,i64_w,i32_w];rfl
                 refine one_ (i:=4) (N:=some 61) f49_ rfl rfl (one_of HT_.out (by kernel_rfl)) (by decide) (fun K hK=>?_);refine Kd.R_append_rows_step k58 (w0:=w) w.heap.size (by rfl) (.tmp 57) (.tmp 60) 30 58 (.agg #[(.int .i64 0),(.int .i64 0),(.string ⟨#[]⟩)]) 32 rfl Try.underlying30 info58 rfl (by decide) (by omega) v111 y110 y113 _ _ _ (fun k_=>some k_ ≠ (v121 : Value).ownBlock ∧ k_ ≠ gb108) (fun _=>False) rfl rfl ?aO ?aR (fun _ _ h=>h) (fun _ h=>h.elim) ?aF ?aB ?aS ?aL ?_
                 (case aR=>exact cX_ (Kd.C_below HR116.out HB.out))
                 (case aB=>exact (q21_))
                 (case aF=>exact (fun k_ hk=>⟨Kd.fresh' (Kd.R_lt (q8_)) k_ hk,Kd.freshB (g:=gb108) (o:=.cells #[.int .i64 ((rd_T58 l0 a1).f0),.int .i64 ((rd_T58 l0 (ji9)).f1),.string ((rd_T58 l0 a1).f2)] 58 (0,0)) (q14_) k_ hk⟩))
                 (case aO=>exact (by (with_reducible repeat (first | apply Kd.R_alloc | apply Kd.R_drewN | apply Kd.R_drew));exact Kd.R_mono HO112.out (fun _ hk=>⟨hk.1.2,hk.2⟩)))
                 (case aS=>exact (below_size (q21_)))
                 (case aL=>have:=LMc16.out;omega)
                 intro v118 w34 ho hb hg hat;rw [← Ny117.out] at ho;replace BK108:=Aside0.mk (blk_grown (g:=gb108) (o:=.cells #[.int .i64 ((rd_T58 l0 a1).f0),.int .i64 ((rd_T58 l0 (ji9)).f1),.string ((rd_T58 l0 a1).f2)] 58 (0,0)) (q14_) hg (Kd.R_away HO112.out (fun _ hk=>hk.2)));replace HO122:=Aside0.mk (Kd.R_after (ok:=(fun k_=>k_ ≠ gb108)) (by (with_reducible repeat (first | apply Kd.R_alloc | apply Kd.R_drewN | apply Kd.R_drew));exact Kd.R_mono HO122.out (fun _ hk=>⟨hk.1.2,hk.2⟩)) hg hat);replace HB:=Aside0.mk (hb);have HO119:=Aside0.mk (ho);clear HO112 ho hb hg hat;refine hK.out _ _ ⟨(blk_cell BK108.out 0).trans rfl,(blk_cell BK108.out 1).trans rfl,(blk_cell BK108.out 2).trans rfl⟩ (fun hHeld=>?_);clear hK K;refine norm_ (a' := ?_) ?_ ?_;rotate_left
                 ·show Act.put _ (some 61) _ = _;simp only [Act.put,List.setIfInBounds_toArray,List.set_cons_zero,List.set_cons_succ,i64_w,i32_w];rfl
                 exact norm_ (by simp only [putAll,Act.put,List.setIfInBounds_toArray,List.set_cons_zero,List.set_cons_succ]) (hCont (v111,v118,v121) _ ⟨hHeld,(q7_),(by (with_reducible repeat (first | apply Kd.R_alloc | apply Kd.R_drewN | apply Kd.R_drew));exact Kd.R_mono HO122.out (fun _ hk=>⟨hk.2,hk.1⟩)),(q14_),(q21_)⟩)
               rintro ⟨v111,v118,v121⟩ w35 ⟨hS_,h0_,h1_,h2_,h3_⟩;have n0_ : Aside0 (Kd.R k58 58 w35 w.heap.size (fun k_=>some k_ ≠ (v121 : Value).ownBlock ∧ k_ ≠ gb108) v118 y117):=⟨h0_⟩;have n1_ : Aside0 (Kd.R k58 58 w35 w.heap.size (fun k_=>some k_ ≠ (v118 : Value).ownBlock ∧ k_ ≠ gb108) v121 y120):=⟨h1_⟩;have n2_ : Aside0 (w35.heap[gb108]? = some (.cells #[.int .i64 ((rd_T58 l0 a1).f0),.int .i64 ((rd_T58 l0 (ji9)).f1),.string ((rd_T58 l0 a1).f2)] 58 (0,0))):=⟨h2_⟩;have n3_ : Aside0 (Below w.heap.size w w35):=⟨h3_⟩;clear BK108 HB h0_ h1_ h2_ h3_;have HO119:=n0_;have HO122:=n1_;have BK108:=n2_;have HB:=n3_;clear n0_ n1_ n2_ n3_;have hHeld : w35.cell? ⟨gb108,0,none⟩ = some (.int .i64 ((rd_T58 l0 a1).f0)) ∧ w35.cell? ⟨gb108,1,none⟩ = some (.int .i64 ((rd_T58 l0 (ji9)).f1)) ∧ w35.cell? ⟨gb108,2,none⟩ = some (.string ((rd_T58 l0 a1).f2)):=hS_;obtain ⟨Ao37,co37,eo37⟩:=Kd.R_slice HO122.out
               (first | subst eo37 | (injection eo37 with f1_ f2_ f3_;have f4_:=f1_.symm;have f5_:=f3_.symm;clear f1_ f2_ f3_;subst f4_;subst f5_))
               refine norm_ (a' := ?_) ?_ ?_;rotate_left
               ·simp only [putAll,Act.put,List.setIfInBounds_toArray,List.set_cons_zero,List.set_cons_succ];rfl
               refine one_ (i:=7) (N:=some 64) f54_ rfl rfl (one_of HT_.out (by kernel_rfl)) (by decide) (fun K hK=>?_);refine Kd.R_append_rows_step k58 (w0:=w) w.heap.size (by rfl) (.tmp 61) (.tmp 63) 30 58 (.agg #[(.int .i64 0),(.int .i64 0),(.string ⟨#[]⟩)]) 32 rfl Try.underlying30 info58 rfl (by decide) (by omega) v118 y117 y120 _ _ _ (fun k_=>some k_ ≠ (.slice Ao37 y120.length co37 : Value).ownBlock ∧ k_ ≠ gb108) (fun _=>False) rfl rfl ?aO ?aR (fun _ _ h=>h) (fun _ h=>h.elim) ?aF ?aB ?aS ?aL ?_
               (case aR=>exact cX_ (Kd.R_reads' HO122.out).2.2)
               (case aB=>exact (q21_))
               (case aF=>exact (fun k_ hk=>⟨Kd.fresh' (Kd.R_lt (q8_)) k_ hk,Kd.freshB (g:=gb108) (o:=.cells #[.int .i64 ((rd_T58 l0 a1).f0),.int .i64 ((rd_T58 l0 (ji9)).f1),.string ((rd_T58 l0 a1).f2)] 58 (0,0)) (q14_) k_ hk⟩))
               (case aO=>exact (q7_))
               (case aS=>exact (below_size (q21_)))
               (case aL=>have:=LMc17.out;omega)
               intro v124 w36 ho hb hg hat;rw [← Ny123.out] at ho;replace BK108:=Aside0.mk (blk_grown (g:=gb108) (o:=.cells #[.int .i64 ((rd_T58 l0 a1).f0),.int .i64 ((rd_T58 l0 (ji9)).f1),.string ((rd_T58 l0 a1).f2)] 58 (0,0)) (q14_) hg (Kd.R_away HO119.out (fun _ hk=>hk.2)));replace HO122:=Aside0.mk (Kd.R_after (ok:=(fun k_=>k_ ≠ gb108)) (by (with_reducible repeat (first | apply Kd.R_alloc | apply Kd.R_drewN | apply Kd.R_drew));exact Kd.R_mono HO122.out (fun _ hk=>⟨hk.2,hk.1⟩)) hg hat);replace HB:=Aside0.mk (hb);have HO125:=Aside0.mk (ho);clear HO119 ho hb hg hat;refine hK.out _ _ ⟨(blk_cell BK108.out 0).trans rfl,(blk_cell BK108.out 1).trans rfl,(blk_cell BK108.out 2).trans rfl⟩ (fun hHeld=>?_);clear hK K;refine norm_ (a' := ?_) ?_ ?_;rotate_left
               ·show Act.put _ (some 64) _ = _;simp only [Act.put,List.setIfInBounds_toArray,List.set_cons_zero,List.set_cons_succ,i64_w,i32_w];rfl
               refine one_ (i:=12) (N:=some 69) f55_ rfl rfl (one_of HT_.out (by kernel_rfl)) (by decide) (fun K hK=>?_);refine Kd.R_append_rows_step k58 (w0:=w) w.heap.size (by rfl) (.tmp 64) (.tmp 68) 30 58 (.agg #[(.int .i64 0),(.int .i64 0),(.string ⟨#[]⟩)]) 32 rfl Try.underlying30 info58 rfl (by decide) (by omega) v124 y123 y126 _ _ _ (fun k_=>some k_ ≠ (.slice Ao37 y120.length co37 : Value).ownBlock ∧ k_ ≠ gb108) (fun _=>False) rfl rfl ?aO ?aR (fun _ _ h=>h) (fun _ h=>h.elim) ?aF ?aB ?aS ?aL ?_
               (case aR=>exact cX_ (Kd.C_below HR129.out HB.out))
               (case aB=>exact (q21_))
               (case aF=>exact (fun k_ hk=>⟨Kd.fresh' (Kd.R_lt (q8_)) k_ hk,Kd.freshB (g:=gb108) (o:=.cells #[.int .i64 ((rd_T58 l0 a1).f0),.int .i64 ((rd_T58 l0 (ji9)).f1),.string ((rd_T58 l0 a1).f2)] 58 (0,0)) (q14_) k_ hk⟩))
               (case aO=>exact (by (with_reducible repeat (first | apply Kd.R_alloc | apply Kd.R_drewN | apply Kd.R_drew));exact HO125.out))
               (case aS=>exact (below_size (q21_)))
               (case aL=>have:=LMc21.out;omega)
               intro v131 w38 ho hb hg hat;rw [← Ny130.out] at ho;replace BK108:=Aside0.mk (blk_grown (g:=gb108) (o:=.cells #[.int .i64 ((rd_T58 l0 a1).f0),.int .i64 ((rd_T58 l0 (ji9)).f1),.string ((rd_T58 l0 a1).f2)] 58 (0,0)) (q14_) hg (Kd.R_away HO125.out (fun _ hk=>hk.2)));replace HO122:=Aside0.mk (Kd.R_after (ok:=(fun k_=>k_ ≠ gb108)) (q8_) hg hat);replace HB:=Aside0.mk (hb);have HO132:=Aside0.mk (ho);clear HO125 ho hb hg hat;refine hK.out _ _ ⟨(blk_cell BK108.out 0).trans rfl,(blk_cell BK108.out 1).trans rfl,(blk_cell BK108.out 2).trans rfl⟩ (fun hHeld=>?_);clear hK K;refine norm_ (a' := ?_) ?_ ?_;rotate_left
               ·show Act.put _ (some 69) _ = _;simp only [Act.put,List.setIfInBounds_toArray,List.set_cons_zero,List.set_cons_succ,i64_w,i32_w];rfl
               refine pa_ 13 4 f56_ ?_
               refine pa_ 14 5 f57_ ?_
               refine done_ (done_of HT_.out (by kernel_rfl)) ?_;try go_wp2
               go_ret2
               exact ⟨_,by first | rfl | (simp [errW_none,errW_some] <;> rfl) | (simp only [← hji9,← hji18];first | rfl | (simp [errW_none,errW_some] <;> rfl)) | (simp [*,errW_none,errW_some] <;> rfl),by (with_reducible repeat (first | apply Kd.R_alloc | apply Kd.R_drewN | apply Kd.R_drew));exact Kd.R_mono HO132.out (fun _ hk=>trivial),q21_⟩
              ·rw [if_neg c21] at H;exact absurd H (by simp)
             ·rw [if_neg c20] at H;exact absurd H (by simp)
            ·rw [if_neg c19] at H;exact absurd H (by simp)
           ·rw [if_neg c17] at H;exact absurd H (by simp)
          ·rw [if_neg c16] at H;exact absurd H (by simp)
         ·rw [if_neg c15] at H;exact absurd H (by simp)
        ·rw [if_neg c13] at H;have c13b0 : (((rd_T58 l0 a1).f2).toList == ((rd_T58 l0 (ji9)).f2).toList) = false:=beq_eq_false_iff_ne.mpr c13;have c13b1 : (((rd_T58 l0 a1).f2).toList != ((rd_T58 l0 (ji9)).f2).toList) = true:=bne_iff_ne.mpr c13;simp only [Option.some.injEq,Prod.mk.injEq] at H;obtain ⟨rfl,rfl⟩:=H;go_enter Try.func41,Try.ntmps41
         try go_wp2
         replace HB:=Aside0.mk (below_drew1 HB.out);have p103 : 0 ≤ (a1 : Int):=of_decide_eq_true (q3_);have q103 : a1 < (l0.length : Int):=of_decide_eq_true (q3_);obtain ⟨ad103,e103,hx103_0,hx103_1,hx103_2⟩:=at_T58 HR0.out a1 p103 q103;have hw103_2:=hx103_2;have hw103_1:=hx103_1;have hw103_0:=hx103_0;cases e103;replace hx103_0:=hB_ HB.out hx103_0;replace hx103_1:=hB_ HB.out hx103_1;replace hx103_2:=hB_ HB.out hx103_2;replace p103:=eq_true p103;replace q103:=eq_true q103;have p104 : 0 ≤ ((ji9) : Int):=of_decide_eq_true (q3_);have q104 : (ji9) < (l0.length : Int):=of_decide_eq_true (q3_);obtain ⟨ad104,e104,hx104_0,hx104_1,hx104_2⟩:=at_T58 HR0.out (ji9) p104 q104;have hw104_2:=hx104_2;have hw104_1:=hx104_1;have hw104_0:=hx104_0;obtain rfl : ad103 = ad104:=(by injection e104);replace hx104_0:=hB_ HB.out hx104_0;replace hx104_1:=hB_ HB.out hx104_1;replace hx104_2:=hB_ HB.out hx104_2;replace p104:=eq_true p104;replace q104:=eq_true q104;have p105 : 0 ≤ (a1 : Int):=of_decide_eq_true (q3_);have q105 : a1 < (l0.length : Int):=of_decide_eq_true (q3_);obtain ⟨ad105,e105,hx105_0,hx105_1,hx105_2⟩:=at_T58 HR0.out a1 p105 q105;have hw105_2:=hx105_2;have hw105_1:=hx105_1;have hw105_0:=hx105_0;obtain rfl : ad103 = ad105:=(by injection e105);replace hx105_0:=hB_ HB.out hx105_0;replace hx105_1:=hB_ HB.out hx105_1;replace hx105_2:=hB_ HB.out hx105_2;replace p105:=eq_true p105;replace q105:=eq_true q105;have p106 : 0 ≤ ((ji9) : Int):=of_decide_eq_true (q3_);have q106 : (ji9) < (l0.length : Int):=of_decide_eq_true (q3_);obtain ⟨ad106,e106,hx106_0,hx106_1,hx106_2⟩:=at_T58 HR0.out (ji9) p106 q106;have hw106_2:=hx106_2;have hw106_1:=hx106_1;have hw106_0:=hx106_0;obtain rfl : ad103 = ad106:=(by injection e106);replace hx106_0:=hB_ HB.out hx106_0;replace hx106_1:=hB_ HB.out hx106_1;replace hx106_2:=hB_ HB.out hx106_2;replace p106:=eq_true p106;replace q106:=eq_true q106;refine start_ (n:=39) (S:=fun w' => w'.cell? (ad103.add ((a1).toNat * 3)) = some (.int .i64 ((rd_T58 l0 a1).f0)) ∧ w'.cell? ⟨(ad103.add ((a1).toNat * 3)).block,(ad103.add ((a1).toNat * 3)).off + 1,none⟩ = some (.int .i64 ((rd_T58 l0 a1).f1)) ∧ w'.cell? ⟨(ad103.add ((a1).toNat * 3)).block,(ad103.add ((a1).toNat * 3)).off + 2,none⟩ = some (.string ((rd_T58 l0 a1).f2)) ∧ w'.cell? (ad103.add (((ji9)).toNat * 3)) = some (.int .i64 ((rd_T58 l0 (ji9)).f0)) ∧ w'.cell? ⟨(ad103.add (((ji9)).toNat * 3)).block,(ad103.add (((ji9)).toNat * 3)).off + 1,none⟩ = some (.int .i64 ((rd_T58 l0 (ji9)).f1)) ∧ w'.cell? ⟨(ad103.add (((ji9)).toNat * 3)).block,(ad103.add (((ji9)).toNat * 3)).off + 2,none⟩ = some (.string ((rd_T58 l0 (ji9)).f2)) ∧ w'.cell? (ad103.add ((a1).toNat * 3)) = some (.int .i64 ((rd_T58 l0 a1).f0)) ∧ w'.cell? ⟨(ad103.add ((a1).toNat * 3)).block,(ad103.add ((a1).toNat * 3)).off + 1,none⟩ = some (.int .i64 ((rd_T58 l0 a1).f1)) ∧ w'.cell? ⟨(ad103.add ((a1).toNat * 3)).block,(ad103.add ((a1).toNat * 3)).off + 2,none⟩ = some (.string ((rd_T58 l0 a1).f2)) ∧ w'.cell? (ad103.add (((ji9)).toNat * 3)) = some (.int .i64 ((rd_T58 l0 (ji9)).f0)) ∧ w'.cell? ⟨(ad103.add (((ji9)).toNat * 3)).block,(ad103.add (((ji9)).toNat * 3)).off + 1,none⟩ = some (.int .i64 ((rd_T58 l0 (ji9)).f1)) ∧ w'.cell? ⟨(ad103.add (((ji9)).toNat * 3)).block,(ad103.add (((ji9)).toNat * 3)).off + 2,none⟩ = some (.string ((rd_T58 l0 (ji9)).f2))) (ds:=[]) f0_ (by kernel_rfl) rfl rfl ⟨((HB.out.cell (World.block_lt_of_cell? w _ hw103_0)).trans hw103_0),((HB.out.cell (World.block_lt_of_cell? w _ hw103_1)).trans hw103_1),((HB.out.cell (World.block_lt_of_cell? w _ hw103_2)).trans hw103_2),((HB.out.cell (World.block_lt_of_cell? w _ hw104_0)).trans hw104_0),((HB.out.cell (World.block_lt_of_cell? w _ hw104_1)).trans hw104_1),((HB.out.cell (World.block_lt_of_cell? w _ hw104_2)).trans hw104_2),((HB.out.cell (World.block_lt_of_cell? w _ hw105_0)).trans hw105_0),((HB.out.cell (World.block_lt_of_cell? w _ hw105_1)).trans hw105_1),((HB.out.cell (World.block_lt_of_cell? w _ hw105_2)).trans hw105_2),((HB.out.cell (World.block_lt_of_cell? w _ hw106_0)).trans hw106_0),((HB.out.cell (World.block_lt_of_cell? w _ hw106_1)).trans hw106_1),((HB.out.cell (World.block_lt_of_cell? w _ hw106_2)).trans hw106_2)⟩ (fun hHeld=>?_);refine with_tabW spec_JoinNotes.tab1 spec_JoinNotes.bits1 (fun HT_ HW_=>?_);generalize w.drew = w39 at HB hx103_0 hx103_1 hx103_2 hx104_0 hx104_1 hx104_2 hx105_0 hx105_1 hx105_2 hx106_0 hx106_1 hx106_2 hHeld ⊢;refine pure_ (i:=0) (N:=some 7) (v:=?_) (a' := ?_) f1_ rfl rfl (any_of HT_.out (by kernel_rfl)) (fun _ _ _ h=>h) (Or.inl ⟨by rfl,?_⟩) ?_ ?_;rotate_left
         ·intro w';go_simp;with_reducible rfl
         rotate_left
         ·exact q46_
         refine one_ (i:=1) (N:=some 8) f2_ rfl rfl (one_of HT_.out (by kernel_rfl)) (by decide) (fun K hK=>?_);refine goes_ Try.func119 (by kernel_rfl) rfl #[.slice _ l0.length c0] (by rfl) rfl rfl (q18_) ?_
         with_reducible refine (spec_tiGood.calls k _ _ l0 true _ ?side1 ?side2 A3.out).mono ?_
         (case side1=>exact cX_ (Kd.C_below HR0.out HB.out))
         (case side2=>exact HC0.out)
         rintro e w40 ⟨rfl,hb⟩;refine ⟨_,rfl,?_⟩;replace HB:=bS_ HB hb
         (try clear hb)
         (try clear hb2)
         (try clear hk)
         (try clear hi)
         refine hK.out _ _ ⟨((HB.out.cell (World.block_lt_of_cell? w _ hw103_0)).trans hw103_0),((HB.out.cell (World.block_lt_of_cell? w _ hw103_1)).trans hw103_1),((HB.out.cell (World.block_lt_of_cell? w _ hw103_2)).trans hw103_2),((HB.out.cell (World.block_lt_of_cell? w _ hw104_0)).trans hw104_0),((HB.out.cell (World.block_lt_of_cell? w _ hw104_1)).trans hw104_1),((HB.out.cell (World.block_lt_of_cell? w _ hw104_2)).trans hw104_2),((HB.out.cell (World.block_lt_of_cell? w _ hw105_0)).trans hw105_0),((HB.out.cell (World.block_lt_of_cell? w _ hw105_1)).trans hw105_1),((HB.out.cell (World.block_lt_of_cell? w _ hw105_2)).trans hw105_2),((HB.out.cell (World.block_lt_of_cell? w _ hw106_0)).trans hw106_0),((HB.out.cell (World.block_lt_of_cell? w _ hw106_1)).trans hw106_1),((HB.out.cell (World.block_lt_of_cell? w _ hw106_2)).trans hw106_2)⟩ (fun hHeld=>?_);clear hK K;refine norm_ (a' := ?_) ?_ ?_;rotate_left
         ·show Act.put _ (some 8) _ = _;simp only [Act.put,List.setIfInBounds_toArray,List.set_cons_zero,List.set_cons_succ,i64_w,i32_w];rfl
         refine pa_ 2 9 f3_ ?_
         refine pa_ 3 10 f4_ ?_
         refine pa_ 4 11 f5_ ?_
         refine pa_ 5 12 f6_ ?_
         refine pa_ 6 13 f7_ ?_
         refine pa_ 7 14 f8_ ?_
         refine one_ (i:=8) (N:=some 15) f9_ rfl rfl (one_of HT_.out (by kernel_rfl)) (by decide) (fun K hK=>?_);refine goes_ Try.func146 (by kernel_rfl) rfl #[.int .i64 a1,.int .i64 0,.int .i64 (wrap64 ((l0.length : Int) - 2))] (by rfl) rfl rfl (q18_) ?_
         with_reducible refine (spec_l1In.calls a1 0 (wrap64 ((l0.length : Int) - 2)) true _ A5.out).mono ?_
         rintro e w' ⟨rfl,⟨nd,rfl⟩⟩;refine ⟨_,rfl,?_⟩;refine hK.out _ _ ⟨((HB.out.cell (World.block_lt_of_cell? w _ hw103_0)).trans hw103_0),((HB.out.cell (World.block_lt_of_cell? w _ hw103_1)).trans hw103_1),((HB.out.cell (World.block_lt_of_cell? w _ hw103_2)).trans hw103_2),((HB.out.cell (World.block_lt_of_cell? w _ hw104_0)).trans hw104_0),((HB.out.cell (World.block_lt_of_cell? w _ hw104_1)).trans hw104_1),((HB.out.cell (World.block_lt_of_cell? w _ hw104_2)).trans hw104_2),((HB.out.cell (World.block_lt_of_cell? w _ hw105_0)).trans hw105_0),((HB.out.cell (World.block_lt_of_cell? w _ hw105_1)).trans hw105_1),((HB.out.cell (World.block_lt_of_cell? w _ hw105_2)).trans hw105_2),((HB.out.cell (World.block_lt_of_cell? w _ hw106_0)).trans hw106_0),((HB.out.cell (World.block_lt_of_cell? w _ hw106_1)).trans hw106_1),((HB.out.cell (World.block_lt_of_cell? w _ hw106_2)).trans hw106_2)⟩ (fun hHeld=>?_);clear hK K;refine norm_ (a' := ?_) ?_ ?_;rotate_left
         ·show Act.put _ (some 15) _ = _;simp only [Act.put,List.setIfInBounds_toArray,List.set_cons_zero,List.set_cons_succ,i64_w,i32_w];rfl
         refine pa_ 9 16 f10_ ?_
         refine pa_ 10 17 f11_ ?_
         refine pa_ 11 18 f12_ ?_
         refine pa_ 12 19 f13_ ?_
         refine pa_ 13 20 f14_ ?_
         refine pa_ 14 21 f15_ ?_
         refine pa_ 15 22 f16_ ?_
         refine pa_ 17 24 f17_ ?_
         refine pa_ 18 25 f18_ ?_
         refine pa_ 19 26 f19_ ?_
         refine pa_ 20 27 f20_ ?_
         refine pa_ 21 28 f21_ ?_
         refine take_ (i:=16) (N:=some 23) (v:=?_) (a' := ?_) f22_ rfl rfl (take_ofW HT_.out HW_.out (by kernel_rfl)) (fun _ _ _ h=>h) (Or.inl ⟨by rfl,?_⟩) hHeld ?_ ?_;rotate_left
         ·rintro w' ⟨s0,s1,s2,s3,s4,s5,s6,s7,s8,s9,s10,s11⟩;go_simp;with_reducible rfl
         rotate_left
         ·exact q46_
         refine take_ (i:=22) (N:=some 29) (v:=?_) (a' := ?_) f23_ rfl rfl (take_ofW HT_.out HW_.out (by kernel_rfl)) (fun _ _ _ h=>h) (Or.inl ⟨by rfl,?_⟩) hHeld ?_ ?_;rotate_left
         ·rintro w' ⟨s0,s1,s2,s3,s4,s5,s6,s7,s8,s9,s10,s11⟩;go_simp;with_reducible rfl
         rotate_left
         ·exact q46_
         refine pa_ 23 30 f24_ ?_
         refine pa_ 24 31 f25_ ?_
         refine pa_ 25 32 f26_ ?_
         refine pa_ 26 33 f27_ ?_
         refine pa_ 27 34 f28_ ?_
         refine pa_ 28 35 f29_ ?_
         refine pa_ 29 36 f30_ ?_
         refine pa_ 31 38 f31_ ?_
         refine pa_ 32 39 f32_ ?_
         refine pa_ 33 40 f33_ ?_
         refine pa_ 34 41 f34_ ?_
         refine pa_ 35 42 f35_ ?_
         refine take_ (i:=30) (N:=some 37) (v:=?_) (a' := ?_) f36_ rfl rfl (take_ofW HT_.out HW_.out (by kernel_rfl)) (fun _ _ _ h=>h) (Or.inl ⟨by rfl,?_⟩) hHeld ?_ ?_;rotate_left
         ·rintro w' ⟨s0,s1,s2,s3,s4,s5,s6,s7,s8,s9,s10,s11⟩;go_simp;with_reducible rfl
         rotate_left
         ·exact q46_
         refine take_ (i:=36) (N:=some 43) (v:=?_) (a' := ?_) f37_ rfl rfl (take_ofW HT_.out HW_.out (by kernel_rfl)) (fun _ _ _ h=>h) (Or.inl ⟨by rfl,?_⟩) hHeld ?_ ?_;rotate_left
         ·rintro w' ⟨s0,s1,s2,s3,s4,s5,s6,s7,s8,s9,s10,s11⟩;go_simp;with_reducible rfl
         rotate_left
         ·exact q46_
         refine pa_ 37 44 f38_ ?_
         refine pa_ 38 45 f39_ ?_
         refine done_ (done_of HT_.out (by kernel_rfl)) ?_;try go_wp2
         go_ret2
         exact ⟨_,by first | rfl | (simp [errW_none,errW_some] <;> rfl) | (simp only [← hji9];first | rfl | (simp [errW_none,errW_some] <;> rfl)) | (simp [*,errW_none,errW_some] <;> rfl),q19_,q17_⟩
       ·rw [if_neg c12] at H;have c12b0 : (((rd_T58 l0 a1).f1) == ((rd_T58 l0 (ji9)).f0)) = false:=beq_eq_false_iff_ne.mpr c12;have c12b1 : (((rd_T58 l0 a1).f1) != ((rd_T58 l0 (ji9)).f0)) = true:=bne_iff_ne.mpr c12;simp only [Option.some.injEq,Prod.mk.injEq] at H;obtain ⟨rfl,rfl⟩:=H;go_enter Try.func41,Try.ntmps41
        try go_wp2
        replace HB:=Aside0.mk (below_drew1 HB.out);have p103 : 0 ≤ (a1 : Int):=of_decide_eq_true (q3_);have q103 : a1 < (l0.length : Int):=of_decide_eq_true (q3_);obtain ⟨ad103,e103,hx103_0,hx103_1,hx103_2⟩:=at_T58 HR0.out a1 p103 q103;have hw103_2:=hx103_2;have hw103_1:=hx103_1;have hw103_0:=hx103_0;cases e103;replace hx103_0:=hB_ HB.out hx103_0;replace hx103_1:=hB_ HB.out hx103_1;replace hx103_2:=hB_ HB.out hx103_2;replace p103:=eq_true p103;replace q103:=eq_true q103;have p104 : 0 ≤ ((ji9) : Int):=of_decide_eq_true (q3_);have q104 : (ji9) < (l0.length : Int):=of_decide_eq_true (q3_);obtain ⟨ad104,e104,hx104_0,hx104_1,hx104_2⟩:=at_T58 HR0.out (ji9) p104 q104;have hw104_2:=hx104_2;have hw104_1:=hx104_1;have hw104_0:=hx104_0;obtain rfl : ad103 = ad104:=(by injection e104);replace hx104_0:=hB_ HB.out hx104_0;replace hx104_1:=hB_ HB.out hx104_1;replace hx104_2:=hB_ HB.out hx104_2;replace p104:=eq_true p104;replace q104:=eq_true q104;refine start_ (n:=39) (S:=fun w' => w'.cell? (ad103.add ((a1).toNat * 3)) = some (.int .i64 ((rd_T58 l0 a1).f0)) ∧ w'.cell? ⟨(ad103.add ((a1).toNat * 3)).block,(ad103.add ((a1).toNat * 3)).off + 1,none⟩ = some (.int .i64 ((rd_T58 l0 a1).f1)) ∧ w'.cell? ⟨(ad103.add ((a1).toNat * 3)).block,(ad103.add ((a1).toNat * 3)).off + 2,none⟩ = some (.string ((rd_T58 l0 a1).f2)) ∧ w'.cell? (ad103.add (((ji9)).toNat * 3)) = some (.int .i64 ((rd_T58 l0 (ji9)).f0)) ∧ w'.cell? ⟨(ad103.add (((ji9)).toNat * 3)).block,(ad103.add (((ji9)).toNat * 3)).off + 1,none⟩ = some (.int .i64 ((rd_T58 l0 (ji9)).f1)) ∧ w'.cell? ⟨(ad103.add (((ji9)).toNat * 3)).block,(ad103.add (((ji9)).toNat * 3)).off + 2,none⟩ = some (.string ((rd_T58 l0 (ji9)).f2))) (ds:=[]) f0_ (by kernel_rfl) rfl rfl ⟨((HB.out.cell (World.block_lt_of_cell? w _ hw103_0)).trans hw103_0),((HB.out.cell (World.block_lt_of_cell? w _ hw103_1)).trans hw103_1),((HB.out.cell (World.block_lt_of_cell? w _ hw103_2)).trans hw103_2),((HB.out.cell (World.block_lt_of_cell? w _ hw104_0)).trans hw104_0),((HB.out.cell (World.block_lt_of_cell? w _ hw104_1)).trans hw104_1),((HB.out.cell (World.block_lt_of_cell? w _ hw104_2)).trans hw104_2)⟩ (fun hHeld=>?_);refine with_tabW spec_JoinNotes.tab1 spec_JoinNotes.bits1 (fun HT_ HW_=>?_);generalize w.drew = w41 at HB hx103_0 hx103_1 hx103_2 hx104_0 hx104_1 hx104_2 hHeld ⊢;refine pure_ (i:=0) (N:=some 7) (v:=?_) (a' := ?_) f1_ rfl rfl (any_of HT_.out (by kernel_rfl)) (fun _ _ _ h=>h) (Or.inl ⟨by rfl,?_⟩) ?_ ?_;rotate_left
        ·intro w';go_simp;with_reducible rfl
        rotate_left
        ·exact q46_
        refine one_ (i:=1) (N:=some 8) f2_ rfl rfl (one_of HT_.out (by kernel_rfl)) (by decide) (fun K hK=>?_);refine goes_ Try.func119 (by kernel_rfl) rfl #[.slice _ l0.length c0] (by rfl) rfl rfl (q18_) ?_
        with_reducible refine (spec_tiGood.calls k _ _ l0 true _ ?side1 ?side2 A3.out).mono ?_
        (case side1=>exact cX_ (Kd.C_below HR0.out HB.out))
        (case side2=>exact HC0.out)
        rintro e w42 ⟨rfl,hb⟩;refine ⟨_,rfl,?_⟩;replace HB:=bS_ HB hb
        (try clear hb)
        (try clear hb2)
        (try clear hk)
        (try clear hi)
        refine hK.out _ _ ⟨((HB.out.cell (World.block_lt_of_cell? w _ hw103_0)).trans hw103_0),((HB.out.cell (World.block_lt_of_cell? w _ hw103_1)).trans hw103_1),((HB.out.cell (World.block_lt_of_cell? w _ hw103_2)).trans hw103_2),((HB.out.cell (World.block_lt_of_cell? w _ hw104_0)).trans hw104_0),((HB.out.cell (World.block_lt_of_cell? w _ hw104_1)).trans hw104_1),((HB.out.cell (World.block_lt_of_cell? w _ hw104_2)).trans hw104_2)⟩ (fun hHeld=>?_);clear hK K;refine norm_ (a' := ?_) ?_ ?_;rotate_left
        ·show Act.put _ (some 8) _ = _;simp only [Act.put,List.setIfInBounds_toArray,List.set_cons_zero,List.set_cons_succ,i64_w,i32_w];rfl
        refine pa_ 2 9 f3_ ?_
        refine pa_ 3 10 f4_ ?_
        refine pa_ 4 11 f5_ ?_
        refine pa_ 5 12 f6_ ?_
        refine pa_ 6 13 f7_ ?_
        refine pa_ 7 14 f8_ ?_
        refine one_ (i:=8) (N:=some 15) f9_ rfl rfl (one_of HT_.out (by kernel_rfl)) (by decide) (fun K hK=>?_);refine goes_ Try.func146 (by kernel_rfl) rfl #[.int .i64 a1,.int .i64 0,.int .i64 (wrap64 ((l0.length : Int) - 2))] (by rfl) rfl rfl (q18_) ?_
        with_reducible refine (spec_l1In.calls a1 0 (wrap64 ((l0.length : Int) - 2)) true _ A5.out).mono ?_
        rintro e w' ⟨rfl,⟨nd,rfl⟩⟩;refine ⟨_,rfl,?_⟩;refine hK.out _ _ ⟨((HB.out.cell (World.block_lt_of_cell? w _ hw103_0)).trans hw103_0),((HB.out.cell (World.block_lt_of_cell? w _ hw103_1)).trans hw103_1),((HB.out.cell (World.block_lt_of_cell? w _ hw103_2)).trans hw103_2),((HB.out.cell (World.block_lt_of_cell? w _ hw104_0)).trans hw104_0),((HB.out.cell (World.block_lt_of_cell? w _ hw104_1)).trans hw104_1),((HB.out.cell (World.block_lt_of_cell? w _ hw104_2)).trans hw104_2)⟩ (fun hHeld=>?_);clear hK K;refine norm_ (a' := ?_) ?_ ?_;rotate_left
        ·show Act.put _ (some 15) _ = _;simp only [Act.put,List.setIfInBounds_toArray,List.set_cons_zero,List.set_cons_succ,i64_w,i32_w];rfl
        refine pa_ 9 16 f10_ ?_
        refine pa_ 10 17 f11_ ?_
        refine pa_ 11 18 f12_ ?_
        refine pa_ 12 19 f13_ ?_
        refine pa_ 13 20 f14_ ?_
        refine pa_ 14 21 f15_ ?_
        refine pa_ 15 22 f16_ ?_
        refine pa_ 17 24 f17_ ?_
        refine pa_ 18 25 f18_ ?_
        refine pa_ 19 26 f19_ ?_
        refine pa_ 20 27 f20_ ?_
        refine pa_ 21 28 f21_ ?_
        refine take_ (i:=16) (N:=some 23) (v:=?_) (a' := ?_) f22_ rfl rfl (take_ofW HT_.out HW_.out (by kernel_rfl)) (fun _ _ _ h=>h) (Or.inl ⟨by rfl,?_⟩) hHeld ?_ ?_;rotate_left
        ·rintro w' ⟨s0,s1,s2,s3,s4,s5⟩;go_simp;with_reducible rfl
        rotate_left
        ·exact q46_
        refine take_ (i:=22) (N:=some 29) (v:=?_) (a' := ?_) f23_ rfl rfl (take_ofW HT_.out HW_.out (by kernel_rfl)) (fun _ _ _ h=>h) (Or.inl ⟨by rfl,?_⟩) hHeld ?_ ?_;rotate_left
        ·rintro w' ⟨s0,s1,s2,s3,s4,s5⟩;go_simp;with_reducible rfl
        rotate_left
        ·exact q46_
        refine pa_ 23 30 f24_ ?_
        refine pa_ 24 31 f25_ ?_
        refine pa_ 25 32 f26_ ?_
        refine pu_ 26 33 f27_ ?_
        refine pu_ 27 34 f28_ ?_
        refine pu_ 28 35 f29_ ?_
        refine pu_ 29 36 f30_ ?_
        refine pu_ 30 37 f58_ ?_
        refine pu_ 31 38 f59_ ?_
        refine pu_ 32 39 f60_ ?_
        refine pu_ 33 40 f61_ ?_
        refine pu_ 34 41 f62_ ?_
        refine pu_ 35 42 f36_ ?_
        refine pu_ 36 43 f37_ ?_
        refine pu_ 37 44 f38_ ?_
        refine pa_ 38 45 f39_ ?_
        refine done_ (done_of HT_.out (by kernel_rfl)) ?_;try go_wp2
        go_ret2
        exact ⟨_,by first | rfl | (simp [errW_none,errW_some] <;> rfl) | (simp only [← hji9];first | rfl | (simp [errW_none,errW_some] <;> rfl)) | (simp [*,errW_none,errW_some] <;> rfl),q19_,q17_⟩
      ·rw [if_neg c11] at H;exact absurd H (by simp)
     ·rw [if_neg c10] at H;exact absurd H (by simp)
    ·rw [if_neg c8] at H;exact absurd H (by simp)
   ·rw [if_neg c7] at H;exact absurd H (by simp)
  ·replace c6:=Bool.eq_false_iff.mpr c6;subst c6;have H1 : (some (([] : List (S58)),false)) = some (r1,r2):=by rw [if_neg (show ¬ (false = true) by decide)] at H;exact H
   clear H;have H:=H1;clear H1;simp only [Option.some.injEq,Prod.mk.injEq] at H;obtain ⟨rfl,rfl⟩:=H;go_enter Try.func41,Try.ntmps41
   try go_wp2
   replace HB:=Aside0.mk (below_drew1 HB.out);refine start_ (n:=39) (S:=fun w' => True) (ds:=[]) f0_ (by kernel_rfl) rfl rfl trivial (fun hHeld=>?_);refine with_tabW spec_JoinNotes.tab1 spec_JoinNotes.bits1 (fun HT_ HW_=>?_);generalize w.drew = w43 at HB hHeld ⊢;refine pure_ (i:=0) (N:=some 7) (v:=?_) (a' := ?_) f1_ rfl rfl (any_of HT_.out (by kernel_rfl)) (fun _ _ _ h=>h) (Or.inl ⟨by rfl,?_⟩) ?_ ?_;rotate_left
   ·intro w';go_simp;with_reducible rfl
   rotate_left
   ·exact q46_
   refine one_ (i:=1) (N:=some 8) f2_ rfl rfl (one_of HT_.out (by kernel_rfl)) (by decide) (fun K hK=>?_);refine goes_ Try.func119 (by kernel_rfl) rfl #[.slice _ l0.length c0] (by rfl) rfl rfl (q18_) ?_
   with_reducible refine (spec_tiGood.calls k _ _ l0 true _ ?side1 ?side2 A3.out).mono ?_
   (case side1=>exact cX_ (Kd.C_below HR0.out HB.out))
   (case side2=>exact HC0.out)
   rintro e w44 ⟨rfl,hb⟩;refine ⟨_,rfl,?_⟩;replace HB:=bS_ HB hb
   (try clear hb)
   (try clear hb2)
   (try clear hk)
   (try clear hi)
   refine hK.out _ _ trivial (fun hHeld=>?_);clear hK K;refine norm_ (a' := ?_) ?_ ?_;rotate_left
   ·show Act.put _ (some 8) _ = _;simp only [Act.put,List.setIfInBounds_toArray,List.set_cons_zero,List.set_cons_succ,i64_w,i32_w];rfl
   refine pa_ 2 9 f3_ ?_
   refine pa_ 3 10 f4_ ?_
   refine pa_ 4 11 f5_ ?_
   refine pa_ 5 12 f6_ ?_
   refine pa_ 6 13 f7_ ?_
   refine pa_ 7 14 f8_ ?_
   refine one_ (i:=8) (N:=some 15) f9_ rfl rfl (one_of HT_.out (by kernel_rfl)) (by decide) (fun K hK=>?_);refine goes_ Try.func146 (by kernel_rfl) rfl #[.int .i64 a1,.int .i64 0,.int .i64 (wrap64 ((l0.length : Int) - 2))] (by rfl) rfl rfl (q18_) ?_
   with_reducible refine (spec_l1In.calls a1 0 (wrap64 ((l0.length : Int) - 2)) false _ A5.out).mono ?_
   rintro e w' ⟨rfl,⟨nd,rfl⟩⟩;refine ⟨_,rfl,?_⟩;refine hK.out _ _ trivial (fun hHeld=>?_);clear hK K;refine norm_ (a' := ?_) ?_ ?_;rotate_left
   ·show Act.put _ (some 15) _ = _;simp only [Act.put,List.setIfInBounds_toArray,List.set_cons_zero,List.set_cons_succ,i64_w,i32_w];rfl
   refine pa_ 9 16 f10_ ?_
   refine pa_ 10 17 f11_ ?_
   refine pa_ 11 18 f12_ ?_
   refine pu_ 12 19 f13_ ?_
   refine pu_ 13 20 f14_ ?_
   refine pu_ 14 21 f15_ ?_
   refine pu_ 15 22 f16_ ?_
   refine pu_ 16 23 f63_ ?_
   refine pu_ 17 24 f64_ ?_
   refine pu_ 18 25 f65_ ?_
   refine pu_ 19 26 f66_ ?_
   refine pu_ 20 27 f67_ ?_
   refine pu_ 21 28 f22_ ?_
   refine pu_ 22 29 f23_ ?_
   refine pu_ 23 30 f24_ ?_
   refine pa_ 24 31 f25_ ?_
   refine pa_ 25 32 f26_ ?_
   refine pu_ 26 33 f27_ ?_
   refine pu_ 27 34 f28_ ?_
   refine pu_ 28 35 f29_ ?_
   refine pu_ 29 36 f30_ ?_
   refine pu_ 30 37 f58_ ?_
   refine pu_ 31 38 f59_ ?_
   refine pu_ 32 39 f60_ ?_
   refine pu_ 33 40 f61_ ?_
   refine pu_ 34 41 f62_ ?_
   refine pu_ 35 42 f36_ ?_
   refine pu_ 36 43 f37_ ?_
   refine pu_ 37 44 f38_ ?_
   refine pa_ 38 45 f39_ ?_
   refine done_ (done_of HT_.out (by kernel_rfl)) ?_;try go_wp2
   go_ret2
   exact ⟨_,q5_,q19_,q17_⟩
 ·replace c4:=Bool.eq_false_iff.mpr c4;subst c4;have H1 : (some (([] : List (S58)),false)) = some (r1,r2):=by rw [if_neg (show ¬ (false = true) by decide)] at H;exact H
  clear H;have H:=H1;clear H1;simp only [Option.some.injEq,Prod.mk.injEq] at H;obtain ⟨rfl,rfl⟩:=H;go_enter Try.func41,Try.ntmps41
  try go_wp2
  replace HB:=Aside0.mk (below_drew1 HB.out);refine start_ (n:=39) (S:=fun w' => True) (ds:=[]) f0_ (by kernel_rfl) rfl rfl trivial (fun hHeld=>?_);refine with_tabW spec_JoinNotes.tab1 spec_JoinNotes.bits1 (fun HT_ HW_=>?_);generalize w.drew = w45 at HB hHeld ⊢;refine pure_ (i:=0) (N:=some 7) (v:=?_) (a' := ?_) f1_ rfl rfl (any_of HT_.out (by kernel_rfl)) (fun _ _ _ h=>h) (Or.inl ⟨by rfl,?_⟩) ?_ ?_;rotate_left
  ·intro w';go_simp;with_reducible rfl
  rotate_left
  ·exact q46_
  refine one_ (i:=1) (N:=some 8) f2_ rfl rfl (one_of HT_.out (by kernel_rfl)) (by decide) (fun K hK=>?_);refine goes_ Try.func119 (by kernel_rfl) rfl #[.slice _ l0.length c0] (by rfl) rfl rfl (q18_) ?_
  with_reducible refine (spec_tiGood.calls k _ _ l0 false _ ?side1 ?side2 A3.out).mono ?_
  (case side1=>exact cX_ (Kd.C_below HR0.out HB.out))
  (case side2=>exact HC0.out)
  rintro e w46 ⟨rfl,hb⟩;refine ⟨_,rfl,?_⟩;replace HB:=bS_ HB hb
  (try clear hb)
  (try clear hb2)
  (try clear hk)
  (try clear hi)
  refine hK.out _ _ trivial (fun hHeld=>?_);clear hK K;refine norm_ (a' := ?_) ?_ ?_;rotate_left
  ·show Act.put _ (some 8) _ = _;simp only [Act.put,List.setIfInBounds_toArray,List.set_cons_zero,List.set_cons_succ,i64_w,i32_w];rfl
  refine pa_ 2 9 f3_ ?_
  refine pa_ 3 10 f4_ ?_
  refine pu_ 4 11 f5_ ?_
  refine pu_ 5 12 f6_ ?_
  refine pu_ 6 13 f7_ ?_
  refine pu_ 7 14 f8_ ?_
  refine pu_ 8 15 f9_ ?_
  refine pu_ 9 16 f10_ ?_
  refine pa_ 10 17 f11_ ?_
  refine pa_ 11 18 f12_ ?_
  refine pu_ 12 19 f13_ ?_
  refine pu_ 13 20 f14_ ?_
  refine pu_ 14 21 f15_ ?_
  refine pu_ 15 22 f16_ ?_
  refine pu_ 16 23 f63_ ?_
  refine pu_ 17 24 f64_ ?_
  refine pu_ 18 25 f65_ ?_
  refine pu_ 19 26 f66_ ?_
  refine pu_ 20 27 f67_ ?_
  refine pu_ 21 28 f22_ ?_
  refine pu_ 22 29 f23_ ?_
  refine pu_ 23 30 f24_ ?_
  refine pa_ 24 31 f25_ ?_
  refine pa_ 25 32 f26_ ?_
  refine pu_ 26 33 f27_ ?_
  refine pu_ 27 34 f28_ ?_
  refine pu_ 28 35 f29_ ?_
  refine pu_ 29 36 f30_ ?_
  refine pu_ 30 37 f58_ ?_
  refine pu_ 31 38 f59_ ?_
  refine pu_ 32 39 f60_ ?_
  refine pu_ 33 40 f61_ ?_
  refine pu_ 34 41 f62_ ?_
  refine pu_ 35 42 f36_ ?_
  refine pu_ 36 43 f37_ ?_
  refine pu_ 37 44 f38_ ?_
  refine pa_ 38 45 f39_ ?_
  refine done_ (done_of HT_.out (by kernel_rfl)) ?_;try go_wp2
  go_ret2
  exact ⟨_,q5_,q19_,q17_⟩
end Go.Proofs.Ytgapcmmhbegdeaa.G
