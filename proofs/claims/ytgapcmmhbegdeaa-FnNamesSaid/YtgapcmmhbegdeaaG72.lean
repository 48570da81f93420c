-- Written by this session's own program over the kit's print (wip/tools/myprint.py); Lean checks it.
import Derived.Test.YtgapcmmhbegdeaaMBase
import Derived.Test.YtgapcmmhbegdeaaG0
import Derived.Test.YtgapcmmhbegdeaaG12
import Derived.Test.YtgapcmmhbegdeaaG27
import Derived.Test.YtgapcmmhbegdeaaG59
import Derived.Test.YtgapcmmhbegdeaaG60
import Derived.Test.YtgapcmmhbegdeaaG61
import Derived.Test.YtgapcmmhbegdeaaG63
import Derived.Test.YtgapcmmhbegdeaaG66
import Derived.Test.YtgapcmmhbegdeaaG67
import Derived.Test.YtgapcmmhbegdeaaG68
import Derived.Test.YtgapcmmhbegdeaaG69
import Derived.Test.YtgapcmmhbegdeaaG70
import Derived.Test.YtgapcmmhbegdeaaG71
import Derived.Test.YtgapcmmhbegdeaaG92
namespace Go.Proofs.Ytgapcmmhbegdeaa.G
open Go.RowKit Go.Proofs.YtgapcmmhbegdeaaW.PrintWords Go.Proofs.YtgapcmmhbegdeaaW.PrintLast Go.Proofs.YtgapcmmhbegdeaaW.PrintMore
attribute [local go_sem] max2_int min2_int max_two min_two max_three min_three max_four min_four str_geq str_gtr str_leq   -- for this text's walks alone
set_option linter.unusedVariables false
set_option linter.unusedSimpArgs false
attribute [local go_sem high] eqA77
/-! ### laws_FnNames: function 8 -/
mutual
def laws_FnNames.j0 : Nat → List Int → List (S77) → List (S77) → Bool → List (S77) → Int → Bool → List Int → List (List Int) → Bool → Option (Bool)
 | 0,_,_,_,_,_,_,_,_,_,_=>none
 | k + 1,x1,x5,x7,x9,x10,x11,x14,x15,x19,x143=>if x143 = true then (some false) else (if x14 = true then (if (((x15.length : Int) == 0) != ((x19.length : Int) == 0)) = true then (some false) else (laws_FnNames.l0 k x1 x5 x7 x9 x10 x11 x15 x19 (x19.length : Int) 0)) else (laws_FnNames.j2 k x1 x5 x7 x9 x10 x11 x15))
def laws_FnNames.j2 : Nat → List Int → List (S77) → List (S77) → Bool → List (S77) → Int → List Int → Option (Bool)
 | 0,_,_,_,_,_,_,_=>none
 | k + 1,x1,x5,x7,x9,x10,x11,x15=>if x9 = true then ((impl_ClashesOf.f k x7).bind fun bt141=>(if bt141.2 = true then (if (bt141.1.length : Int) > 0 then (laws_FnNames.j3 k x1 x5 x10 x15 true) else (if x11 = (x15.length : Int) then (laws_FnNames.j3 k x1 x5 x10 x15 ((x10.length : Int) != (x5.length : Int))) else (laws_FnNames.j3 k x1 x5 x10 x15 true))) else (laws_FnNames.j3 k x1 x5 x10 x15 true))) else (laws_FnNames.j5 k x1)
def laws_FnNames.j5 : Nat → List Int → Option (Bool)
 | 0,_=>none
 | k + 1,x1=>(spec_DrawNewName.f k x1).bind fun bt153=>((impl_NewName.f k bt153.1 bt153.2.1 bt153.2.2.1 bt153.2.2.2).bind fun bt159=>((spec_NewName.f k bt153.1 bt153.2.1 bt153.2.2.1 bt153.2.2.2).bind fun bt165=>(if (bt159.2.2.2.2 != bt165.2.2.2.2) = true then (laws_FnNames.j6 k x1 bt153.1 bt153.2.2.1 bt159.2.2.2.2 true bt159.1 bt159.2.1 bt159.2.2.1 bt159.2.2.2.1 bt165.1 bt165.2.1 bt165.2.2.1 bt165.2.2.2.1) else (laws_FnNames.j6 k x1 bt153.1 bt153.2.2.1 bt159.2.2.2.2 (!(bt159.1.toList == bt165.1.toList) || (!(bt159.2.1 == bt165.2.1) || (!(bt159.2.2.1 == bt165.2.2.1) || (!(bt159.2.2.2.1 == bt165.2.2.2.1))))) bt159.1 bt159.2.1 bt159.2.2.1 bt159.2.2.2.1 bt165.1 bt165.2.1 bt165.2.2.1 bt165.2.2.2.1))))
def laws_FnNames.j6 : Nat → List Int → List (S77) → Int → Bool → Bool → ByteArray → Int → Int → Int → ByteArray → Int → Int → Int → Option (Bool)
 | 0,_,_,_,_,_,_,_,_,_,_,_,_,_=>none
 | k + 1,x1,x27,x29,x32,x269,x165000,x165001,x165002,x165003,x171000,x171001,x171002,x171003=>if x269 = true then (some false) else (if x32 = true then ((impl_WhoIs.f k x27 x29 x171002).bind fun bt171=>(if bt171.2 = true then (if (bt171.1.length : Int) > 0 then (some false) else ((impl_IsPerson.f k x165000 x165001 x165002 x165003).bind fun t175=>(if t175 = true then (laws_FnNames.j7 k x1) else (some false)))) else (some false))) else (laws_FnNames.j7 k x1))
def laws_FnNames.j7 : Nat → List Int → Option (Bool)
 | 0,_=>none
 | k + 1,x1=>(spec_DrawRenamePerson.f k x1).bind fun bt176=>((impl_RenamePerson.f k bt176.1 bt176.2.1 bt176.2.2.1 bt176.2.2.2.1 bt176.2.2.2.2).bind fun bt183=>((spec_RenamePerson.f k bt176.1 bt176.2.1 bt176.2.2.1 bt176.2.2.2.1 bt176.2.2.2.2).bind fun bt187=>(if (bt183.2 != bt187.2) = true then (laws_FnNames.j8 k bt176.2.1 bt176.2.2.1 bt176.2.2.2.1 bt183.1 bt183.2 true) else ((laws_pSamePeople.f k bt183.1 bt187.1).bind fun t191=>(laws_FnNames.j8 k bt176.2.1 bt176.2.2.1 bt176.2.2.2.1 bt183.1 bt183.2 (!t191))))))
def laws_FnNames.j8 : Nat → Int → Int → Int → List (S77) → Bool → Bool → Option (Bool)
 | 0,_,_,_,_,_,_=>none
 | k + 1,x38,x39,x40,x42,x43,x325=>if x325 = true then (some false) else (if x43 = true then ((impl_WhoIs.f k x42 x39 x40).bind fun bt192=>(if bt192.2 = true then ((laws_sameInts.f k bt192.1 (([x38] : List Int))).bind fun t199=>(if t199 = true then ((impl_ArePeople.f k x42).bind fun t200=>(some t200)) else (some false))) else (some false))) else (some true))
def laws_FnNames.j3 : Nat → List Int → List (S77) → List (S77) → List Int → Bool → Option (Bool)
 | 0,_,_,_,_,_=>none
 | k + 1,x1,x5,x10,x15,x198=>if x198 = true then (some false) else (laws_FnNames.l1 k x1 x5 x15 x10 (x10.length : Int) 0)
def laws_FnNames.l1 : Nat → List Int → List (S77) → List Int → List (S77) → Int → Int → Option (Bool)
 | 0,_,_,_,_,_,_=>none
 | k + 1,x1,x5,x15,x199,x200,x201=>if x201 < x200 then (if 0 ≤ x201 then (if x201 < (x199.length : Int) then ((laws_pIn.f k x15 x201).bind fun t147=>(if t147 = true then (if x201 < (x5.length : Int) then (if ((rd_T77 x199 x201).f0).toList = ((rd_T77 x5 x201).f0).toList then (if ((rd_T77 x199 x201).f1) = ((rd_T77 x5 x201).f1) then (laws_FnNames.l1 k x1 x5 x15 x199 x200 (wrap64 (x201 + 1))) else (some false)) else (some false)) else (none)) else (if x201 < (x5.length : Int) then (if (!((((rd_T77 x199 x201).f0).toList) == (((rd_T77 x5 x201).f0).toList)) || (!(((rd_T77 x199 x201).f1) == ((rd_T77 x5 x201).f1)) || (!(((rd_T77 x199 x201).f2) == ((rd_T77 x5 x201).f2)) || (!(((rd_T77 x199 x201).f3) == ((rd_T77 x5 x201).f3)))))) = true then (some false) else (if ((rd_T77 x199 x201).f0).toList = ((rd_T77 x5 x201).f0).toList then (if ((rd_T77 x199 x201).f1) = ((rd_T77 x5 x201).f1) then (laws_FnNames.l1 k x1 x5 x15 x199 x200 (wrap64 (x201 + 1))) else (some false)) else (some false))) else (none)))) else (none)) else (none)) else (laws_FnNames.j5 k x1)
def laws_FnNames.l0 : Nat → List Int → List (S77) → List (S77) → Bool → List (S77) → Int → List Int → List (List Int) → Int → Int → Option (Bool)
 | 0,_,_,_,_,_,_,_,_,_,_=>none
 | k + 1,x1,x5,x7,x9,x10,x11,x15,x152,x153,x154=>if x154 < x153 then (if 0 ≤ x154 then (if x154 < (x152.length : Int) then (if 0 < ((rd_L15 x152 x154).length : Int) then ((laws_pIn.f k x15 (rd (rd_L15 x152 x154) 0)).bind fun t138=>(if t138 = true then (laws_FnNames.l0 k x1 x5 x7 x9 x10 x11 x15 x152 x153 (wrap64 (x154 + 1))) else (if 1 < ((rd_L15 x152 x154).length : Int) then ((laws_pIn.f k x15 (rd (rd_L15 x152 x154) 1)).bind fun t140=>(if t140 = true then (laws_FnNames.l0 k x1 x5 x7 x9 x10 x11 x15 x152 x153 (wrap64 (x154 + 1))) else (some false))) else (none)))) else (none)) else (none)) else (none)) else (laws_FnNames.j2 k x1 x5 x7 x9 x10 x11 x15)
end
def laws_FnNames.f (k : Nat) (l0 : List Int) (l1 : List Int) : Option (Bool):=(laws_big.f l0 l1).bind fun t101=>(if t101 = true then (some true) else ((spec_DrawSolveClashes.f k l0).bind fun bt102=>((impl_SolveClashes.f k bt102.1 bt102.2).bind fun bt106=>((spec_SolveClashes.f k bt102.1 bt102.2).bind fun bt111=>((impl_FewestChanges.f k bt102.1).bind fun bt116=>((spec_FewestChanges.f k bt102.1).bind fun bt120=>((impl_ClashesOf.f k bt102.1).bind fun bt124=>((spec_ClashesOf.f k bt102.1).bind fun bt128=>(if (bt106.2.2 != bt111.2.2) = true then (laws_FnNames.j0 k l1 bt102.1 bt106.1 bt106.2.2 bt111.1 bt111.2.1 bt116.2 bt120.1 bt128.1 true) else ((laws_pSamePeople.f k bt106.1 bt111.1).bind fun t132=>(if t132 = true then (if bt106.2.1 = bt111.2.1 then (if (bt116.2 != bt120.2) = true then (laws_FnNames.j0 k l1 bt102.1 bt106.1 bt106.2.2 bt111.1 bt111.2.1 bt116.2 bt120.1 bt128.1 true) else ((laws_sameInts.f k bt116.1 bt120.1).bind fun t133=>(if t133 = true then (if (bt124.2 != bt128.2) = true then (laws_FnNames.j0 k l1 bt102.1 bt106.1 bt106.2.2 bt111.1 bt111.2.1 bt116.2 bt120.1 bt128.1 true) else ((laws_sameLists.f k bt124.1 bt128.1).bind fun t134=>(if t134 = true then ((impl_ArePeople.f k bt102.1).bind fun t135=>(if (bt116.2 != t135) = true then (laws_FnNames.j0 k l1 bt102.1 bt106.1 bt106.2.2 bt111.1 bt111.2.1 bt116.2 bt120.1 bt128.1 true) else (if (bt124.2 != bt116.2) = true then (laws_FnNames.j0 k l1 bt102.1 bt106.1 bt106.2.2 bt111.1 bt111.2.1 bt116.2 bt120.1 bt128.1 true) else (if bt106.2.2 = true then (laws_FnNames.j0 k l1 bt102.1 bt106.1 bt106.2.2 bt111.1 bt111.2.1 bt116.2 bt120.1 bt128.1 (!bt116.2)) else (laws_FnNames.j0 k l1 bt102.1 bt106.1 bt106.2.2 bt111.1 bt111.2.1 bt116.2 bt120.1 bt128.1 false))))) else (laws_FnNames.j0 k l1 bt102.1 bt106.1 bt106.2.2 bt111.1 bt111.2.1 bt116.2 bt120.1 bt128.1 true)))) else (laws_FnNames.j0 k l1 bt102.1 bt106.1 bt106.2.2 bt111.1 bt111.2.1 bt116.2 bt120.1 bt128.1 true)))) else (laws_FnNames.j0 k l1 bt102.1 bt106.1 bt106.2.2 bt111.1 bt111.2.1 bt116.2 bt120.1 bt128.1 true)) else (laws_FnNames.j0 k l1 bt102.1 bt106.1 bt106.2.2 bt111.1 bt111.2.1 bt116.2 bt120.1 bt128.1 true))))))))))))
def laws_FnNames.T28 : Bool × List (List Nat × List Nat):=(true,[([],[]),([],[]),([0,1],[0,1]),([2],[2]),([3,2],[3]),([4],[4]),([4],[4]),([4],[4]),([6,7,4],[4,6,7]),([8,4],[4,8]),([5,9,4],[4,5,9]),([4,10],[4,10]),([11,4],[11]),([12],[12]),([13,12],[12,13]),([12],[12]),([12],[12]),([15,16,12],[12,15,16]),([17,12],[12,17]),([18,12],[12,18]),([14,19,12],[12,14,19]),([12,20],[12,20]),([21,12],[21]),([22],[22]),([23,22],[22,23]),([22],[22]),([22],[22]),([25,26,22],[22,25,26]),([27,22],[22,27]),([28,22],[22,28]),([24,29,22],[22,24,29]),([22,30],[22,30])])
def laws_FnNames.B28 : List Nat:=[0,0,3,7,15,31,31,31,223,479,1023,2047,4095,8191,16383,8191,8191,106495,237567,499711,1048575,2097151,4194303,8388607,16777215,8388607,8388607,109051903,243269631,511705087,1073741823,2147483647]
theorem laws_FnNames.tab28 : rtab .any (opsOf Try.f8 28) = laws_FnNames.T28:=by kernel_rfl
theorem laws_FnNames.bits28 : waitsOk laws_FnNames.T28.2 laws_FnNames.B28 = true:=by kernel_rfl
section
attribute [local go_sem] MAlive.alive_set MAlive.alive_drewN MAlive.alive_drew MAlive.cell_set_alive
theorem laws_FnNames.j0_no {k : Nat} {y0 : _} {y1 : _} {y2 : _} {y3 : _} {y4 : _} {y5 : _} {y6 : _} {y7 : _} {y8 : _} {r : Bool} (h : laws_FnNames.j0 k y0 y1 y2 y3 y4 y5 y6 y7 y8 true = some r) (hr : r = true) : False:=by
 subst hr;cases k with
 | zero=>simp [laws_FnNames.j0] at h
 | succ k=>rw [laws_FnNames.j0.eq_2,if_pos rfl] at h;exact absurd (Option.some.inj h) (by decide)
theorem laws_FnNames.j6_no {k : Nat} {y0 : _} {y1 : _} {y2 : _} {y3 : _} {y5 : _} {y6 : _} {y7 : _} {y8 : _} {y9 : _} {y10 : _} {y11 : _} {y12 : _} {r : Bool} (h : laws_FnNames.j6 k y0 y1 y2 y3 true y5 y6 y7 y8 y9 y10 y11 y12 = some r) (hr : r = true) : False:=by
 subst hr;cases k with
 | zero=>simp [laws_FnNames.j6] at h
 | succ k=>rw [laws_FnNames.j6.eq_2,if_pos rfl] at h;exact absurd (Option.some.inj h) (by decide)
theorem laws_FnNames.j8_no {k : Nat} {y0 : _} {y1 : _} {y2 : _} {y3 : _} {y4 : _} {r : Bool} (h : laws_FnNames.j8 k y0 y1 y2 y3 y4 true = some r) (hr : r = true) : False:=by
 subst hr;cases k with
 | zero=>simp [laws_FnNames.j8] at h
 | succ k=>rw [laws_FnNames.j8.eq_2,if_pos rfl] at h;exact absurd (Option.some.inj h) (by decide)
theorem laws_FnNames.j3_no {k : Nat} {y0 : _} {y1 : _} {y2 : _} {y3 : _} {r : Bool} (h : laws_FnNames.j3 k y0 y1 y2 y3 true = some r) (hr : r = true) : False:=by
 subst hr;cases k with
 | zero=>simp [laws_FnNames.j3] at h
 | succ k=>rw [laws_FnNames.j3.eq_2,if_pos rfl] at h;exact absurd (Option.some.inj h) (by decide)
set_option maxHeartbeats 8000000 in
set_option maxRecDepth 100000 in
theorem laws_FnNames.calls (k : Nat) (A0 : Option Addr) (c0 : Nat) (l0 : List Int) (A1 : Option Addr) (c1 : Nat) (l1 : List Int) (r : Bool) (w : World) (hr0 : Kd.C (Kd.int .u8) w A0 l0.length l0) (hc0 : l0.length ≤ c0) (hr1 : Kd.C (Kd.int .u8) w A1 l1.length l1) (hc1 : l1.length ≤ c1) (ht_ : Aside0 (r = true)) (h : laws_FnNames.f k l0 l1 = some r) :
  Calls Try.prog 8 #[.slice A0 l0.length c0,.slice A1 l1.length c1] w fun e w' => e = .returned (.bool r) ∧ Below w.heap.size w w' := by
 have hu77:=Try.underlying77;have HR0:=Aside0.mk hr0;have HC0:=Aside0.mk hc0;clear hr0 hc0;have HR1:=Aside0.mk hr1;have HC1:=Aside0.mk hc1;clear hr1 hc1;have HB:=Aside0.mk (Below.refl w.heap.size w);have H : ((laws_big.f l0 l1).bind fun t101=>(if t101 = true then (some true) else ((spec_DrawSolveClashes.f k l0).bind fun bt102=>((impl_SolveClashes.f k bt102.1 bt102.2).bind fun bt106=>((spec_SolveClashes.f k bt102.1 bt102.2).bind fun bt111=>((impl_FewestChanges.f k bt102.1).bind fun bt116=>((spec_FewestChanges.f k bt102.1).bind fun bt120=>((impl_ClashesOf.f k bt102.1).bind fun bt124=>((spec_ClashesOf.f k bt102.1).bind fun bt128=>(if (bt106.2.2 != bt111.2.2) = true then (laws_FnNames.j0 k l1 bt102.1 bt106.1 bt106.2.2 bt111.1 bt111.2.1 bt116.2 bt120.1 bt128.1 true) else ((laws_pSamePeople.f k bt106.1 bt111.1).bind fun t132=>(if t132 = true then (if bt106.2.1 = bt111.2.1 then (if (bt116.2 != bt120.2) = true then (laws_FnNames.j0 k l1 bt102.1 bt106.1 bt106.2.2 bt111.1 bt111.2.1 bt116.2 bt120.1 bt128.1 true) else ((laws_sameInts.f k bt116.1 bt120.1).bind fun t133=>(if t133 = true then (if (bt124.2 != bt128.2) = true then (laws_FnNames.j0 k l1 bt102.1 bt106.1 bt106.2.2 bt111.1 bt111.2.1 bt116.2 bt120.1 bt128.1 true) else ((laws_sameLists.f k bt124.1 bt128.1).bind fun t134=>(if t134 = true then ((impl_ArePeople.f k bt102.1).bind fun t135=>(if (bt116.2 != t135) = true then (laws_FnNames.j0 k l1 bt102.1 bt106.1 bt106.2.2 bt111.1 bt111.2.1 bt116.2 bt120.1 bt128.1 true) else (if (bt124.2 != bt116.2) = true then (laws_FnNames.j0 k l1 bt102.1 bt106.1 bt106.2.2 bt111.1 bt111.2.1 bt116.2 bt120.1 bt128.1 true) else (if bt106.2.2 = true then (laws_FnNames.j0 k l1 bt102.1 bt106.1 bt106.2.2 bt111.1 bt111.2.1 bt116.2 bt120.1 bt128.1 (!bt116.2)) else (laws_FnNames.j0 k l1 bt102.1 bt106.1 bt106.2.2 bt111.1 bt111.2.1 bt116.2 bt120.1 bt128.1 false))))) else (laws_FnNames.j0 k l1 bt102.1 bt106.1 bt106.2.2 bt111.1 bt111.2.1 bt116.2 bt120.1 bt128.1 true)))) else (laws_FnNames.j0 k l1 bt102.1 bt106.1 bt106.2.2 bt111.1 bt111.2.1 bt116.2 bt120.1 bt128.1 true)))) else (laws_FnNames.j0 k l1 bt102.1 bt106.1 bt106.2.2 bt111.1 bt111.2.1 bt116.2 bt120.1 bt128.1 true)) else (laws_FnNames.j0 k l1 bt102.1 bt106.1 bt106.2.2 bt111.1 bt111.2.1 bt116.2 bt120.1 bt128.1 true))))))))))))) = some r:=h;clear h;replace H:=Option.bind_eq_some_iff.mp H;obtain ⟨t101,A30,H⟩:=H;(try dsimp only at H);have A3:=Aside0.mk A30;clear A30;by_cases c4 : t101 = true
 ·subst c4;have H1 : (some true) = some r:=by rw [if_pos rfl] at H;exact H
  clear H;have H:=H1;clear H1;obtain rfl:=Option.some.inj H;go_enter Try.func8,Try.ntmps8
  go_wp2_with (first | ((with_reducible refine gate_callee (f:=47) rfl ?_);refine goesL_ (some 50) rfl rfl Try.func47 (by kernel_rfl) rfl #[.slice A0 l0.length c0,.slice A1 l1.length c1] rfl (q22_) ?_;(with_reducible refine (laws_big.calls _ _ l0 _ _ l1 true _ ?side1 ?side2 ?side3 ?side4 A3.out).mono ?_);(case side1=>exact cX_ HR0.out);(case side2=>exact HC0.out);(case side3=>exact cX_ HR1.out);(case side4=>exact HC1.out);rintro e w' ⟨rfl,⟨nd,rfl⟩⟩;refine ⟨_,rfl,?_⟩))
  go_ret;exact ⟨q4_,q21_⟩
 ·replace c4:=Bool.eq_false_iff.mpr c4;subst c4;have H1 : ((spec_DrawSolveClashes.f k l0).bind fun bt102=>((impl_SolveClashes.f k bt102.1 bt102.2).bind fun bt106=>((spec_SolveClashes.f k bt102.1 bt102.2).bind fun bt111=>((impl_FewestChanges.f k bt102.1).bind fun bt116=>((spec_FewestChanges.f k bt102.1).bind fun bt120=>((impl_ClashesOf.f k bt102.1).bind fun bt124=>((spec_ClashesOf.f k bt102.1).bind fun bt128=>(if (bt106.2.2 != bt111.2.2) = true then (laws_FnNames.j0 k l1 bt102.1 bt106.1 bt106.2.2 bt111.1 bt111.2.1 bt116.2 bt120.1 bt128.1 true) else ((laws_pSamePeople.f k bt106.1 bt111.1).bind fun t132=>(if t132 = true then (if bt106.2.1 = bt111.2.1 then (if (bt116.2 != bt120.2) = true then (laws_FnNames.j0 k l1 bt102.1 bt106.1 bt106.2.2 bt111.1 bt111.2.1 bt116.2 bt120.1 bt128.1 true) else ((laws_sameInts.f k bt116.1 bt120.1).bind fun t133=>(if t133 = true then (if (bt124.2 != bt128.2) = true then (laws_FnNames.j0 k l1 bt102.1 bt106.1 bt106.2.2 bt111.1 bt111.2.1 bt116.2 bt120.1 bt128.1 true) else ((laws_sameLists.f k bt124.1 bt128.1).bind fun t134=>(if t134 = true then ((impl_ArePeople.f k bt102.1).bind fun t135=>(if (bt116.2 != t135) = true then (laws_FnNames.j0 k l1 bt102.1 bt106.1 bt106.2.2 bt111.1 bt111.2.1 bt116.2 bt120.1 bt128.1 true) else (if (bt124.2 != bt116.2) = true then (laws_FnNames.j0 k l1 bt102.1 bt106.1 bt106.2.2 bt111.1 bt111.2.1 bt116.2 bt120.1 bt128.1 true) else (if bt106.2.2 = true then (laws_FnNames.j0 k l1 bt102.1 bt106.1 bt106.2.2 bt111.1 bt111.2.1 bt116.2 bt120.1 bt128.1 (!bt116.2)) else (laws_FnNames.j0 k l1 bt102.1 bt106.1 bt106.2.2 bt111.1 bt111.2.1 bt116.2 bt120.1 bt128.1 false))))) else (laws_FnNames.j0 k l1 bt102.1 bt106.1 bt106.2.2 bt111.1 bt111.2.1 bt116.2 bt120.1 bt128.1 true)))) else (laws_FnNames.j0 k l1 bt102.1 bt106.1 bt106.2.2 bt111.1 bt111.2.1 bt116.2 bt120.1 bt128.1 true)))) else (laws_FnNames.j0 k l1 bt102.1 bt106.1 bt106.2.2 bt111.1 bt111.2.1 bt116.2 bt120.1 bt128.1 true)) else (laws_FnNames.j0 k l1 bt102.1 bt106.1 bt106.2.2 bt111.1 bt111.2.1 bt116.2 bt120.1 bt128.1 true))))))))))) = some r:=by rw [if_neg (show ¬ (false = true) by decide)] at H;exact H
  clear H;have H:=H1;clear H1;replace H:=Option.bind_eq_some_iff.mp H;obtain ⟨⟨t102,t103⟩,A50,H⟩:=H;(try dsimp only at H);have A5:=Aside0.mk A50;clear A50;replace H:=Option.bind_eq_some_iff.mp H;obtain ⟨⟨t106,t107,t108⟩,A60,H⟩:=H;(try dsimp only at H);have A6:=Aside0.mk A60;clear A60;replace H:=Option.bind_eq_some_iff.mp H;obtain ⟨⟨t111,t112,t113⟩,A70,H⟩:=H;(try dsimp only at H);have A7:=Aside0.mk A70;clear A70;replace H:=Option.bind_eq_some_iff.mp H;obtain ⟨⟨t116,t117⟩,A80,H⟩:=H;(try dsimp only at H);have A8:=Aside0.mk A80;clear A80;replace H:=Option.bind_eq_some_iff.mp H;obtain ⟨⟨t120,t121⟩,A90,H⟩:=H;(try dsimp only at H);have A9:=Aside0.mk A90;clear A90;replace H:=Option.bind_eq_some_iff.mp H;obtain ⟨⟨t124,t125⟩,A100,H⟩:=H;(try dsimp only at H);have A10:=Aside0.mk A100;clear A100;replace H:=Option.bind_eq_some_iff.mp H;obtain ⟨⟨t128,t129⟩,A110,H⟩:=H;(try dsimp only at H);have A11:=Aside0.mk A110;clear A110;have HC12:=Aside0.mk H;clear H;go_enter Try.func8,Try.ntmps8
  go_upto_region 10 with (first | ((with_reducible refine gate_callee (f:=47) rfl ?_);refine goesL_ (some 50) rfl rfl Try.func47 (by kernel_rfl) rfl #[.slice A0 l0.length c0,.slice A1 l1.length c1] rfl (q22_) ?_;(with_reducible refine (laws_big.calls _ _ l0 _ _ l1 false _ ?side1 ?side2 ?side3 ?side4 A3.out).mono ?_);(case side1=>exact cX_ HR0.out);(case side2=>exact HC0.out);(case side3=>exact cX_ HR1.out);(case side4=>exact HC1.out);rintro e w' ⟨rfl,⟨nd,rfl⟩⟩;refine ⟨_,rfl,?_⟩) | ((with_reducible refine gate_callee (f:=48) rfl ?_);refine goesL_ (some 53) rfl rfl Try.func48 (by kernel_rfl) rfl #[.slice A0 l0.length c0] rfl (q22_) ?_;(with_reducible refine (spec_DrawSolveClashes.calls k _ _ l0 t102 t103 _ ?side1 ?side2 A5.out).mono ?_);(case side1=>exact cX_ HR0.out);(case side2=>exact HC0.out);rintro e w13 ⟨v104,rfl,ho0,hb⟩;refine ⟨_,rfl,?_⟩;have HO105:=Aside0.mk (Kd.R_lower ho0 (below_size (q21_)));replace HB:=bS_ HB hb;(try clear hb);(try clear ho0);obtain ⟨Ao14,co14,eo14⟩:=Kd.R_slice HO105.out;subst eo14) | ((with_reducible refine gate_callee (f:=49) rfl ?_);refine goesL_ (some 59) rfl rfl Try.func49 (by kernel_rfl) rfl #[.slice Ao14 t102.length co14,.int .i64 t103] rfl (q22_) ?_;(with_reducible refine (impl_SolveClashes.calls k _ _ t102 t103 t106 t107 t108 _ ?side1 ?side2 A6.out).mono ?_);(case side1=>exact cX_ (Kd.R_reads' HO105.out).2.2);(case side2=>exact (Kd.R_reads' HO105.out).2.1);rintro e w15 ⟨v109,rfl,ho0,hb⟩;refine ⟨_,rfl,?_⟩;have HO110:=Aside0.mk (Kd.R_lower (Kd.R_new' ho0 (Kd.R_lt (by (with_reducible repeat (first | apply Kd.R_alloc | apply Kd.R_drewN | apply Kd.R_drew));exact HO105.out))) (below_size (q21_)));replace HO105:=rE_ HO105 ho0 hb;replace HB:=bS_ HB hb;(try clear hb);(try clear ho0)) | ((with_reducible refine gate_callee (f:=50) rfl ?_);refine goesL_ (some 66) rfl rfl Try.func50 (by kernel_rfl) rfl #[.slice Ao14 t102.length co14,.int .i64 t103] rfl (q22_) ?_;(with_reducible refine (spec_SolveClashes.calls k _ _ t102 t103 t111 t112 t113 _ ?side1 ?side2 A7.out).mono ?_);(case side1=>exact cX_ (Kd.R_reads' HO105.out).2.2);(case side2=>exact (Kd.R_reads' HO105.out).2.1);rintro e w16 ⟨v114,rfl,ho0,hb⟩;refine ⟨_,rfl,?_⟩;have HO115:=Aside0.mk (Kd.R_lower (Kd.R_new' (Kd.R_new' ho0 (Kd.R_lt (by (with_reducible repeat (first | apply Kd.R_alloc | apply Kd.R_drewN | apply Kd.R_drew));exact HO105.out))) (Kd.R_lt (by (with_reducible repeat (first | apply Kd.R_alloc | apply Kd.R_drewN | apply Kd.R_drew));exact HO110.out))) (below_size (q21_)));replace HO105:=rE_ HO105 ho0 hb;replace HO110:=rE_ HO110 ho0 hb;replace HB:=bS_ HB hb;(try clear hb);(try clear ho0)) | ((with_reducible refine gate_callee (f:=51) rfl ?_);refine goesL_ (some 72) rfl rfl Try.func51 (by kernel_rfl) rfl #[.slice Ao14 t102.length co14] rfl (q22_) ?_;(with_reducible refine (impl_FewestChanges.calls k _ _ t102 t116 t117 _ ?side1 ?side2 A8.out).mono ?_);(case side1=>exact cX_ (Kd.R_reads' HO105.out).2.2);(case side2=>exact (Kd.R_reads' HO105.out).2.1);rintro e w17 ⟨v118,rfl,ho0,hb⟩;refine ⟨_,rfl,?_⟩;replace HO105:=rB_ HO105 hb;replace HO110:=rB_ HO110 hb;replace HO115:=rB_ HO115 hb;have HO119:=Aside0.mk (Kd.R_lower ho0 (below_size (q21_)));replace HB:=bS_ HB hb;(try clear hb);(try clear ho0)) | ((with_reducible refine gate_callee (f:=52) rfl ?_);refine goesL_ (some 77) rfl rfl Try.func52 (by kernel_rfl) rfl #[.slice Ao14 t102.length co14] rfl (q22_) ?_;(with_reducible refine (spec_FewestChanges.calls k _ _ t102 t120 t121 _ ?side1 ?side2 A9.out).mono ?_);(case side1=>exact cX_ (Kd.R_reads' HO105.out).2.2);(case side2=>exact (Kd.R_reads' HO105.out).2.1);rintro e w18 ⟨v122,rfl,ho0,hb⟩;refine ⟨_,rfl,?_⟩;replace HO105:=rB_ HO105 hb;replace HO110:=rB_ HO110 hb;replace HO115:=rB_ HO115 hb;have HO123:=Aside0.mk (Kd.R_lower (Kd.R_new' ho0 (Kd.R_lt (q14_))) (below_size (q21_)));replace HO119:=rE_ HO119 ho0 hb;replace HB:=bS_ HB hb;(try clear hb);(try clear ho0)) | ((with_reducible refine gate_callee (f:=53) rfl ?_);refine goesL_ (some 82) rfl rfl Try.func53 (by kernel_rfl) rfl #[.slice Ao14 t102.length co14] rfl (q22_) ?_;(with_reducible refine (impl_ClashesOf.calls k _ _ t102 t124 t125 _ ?side1 ?side2 A10.out).mono ?_);(case side1=>exact cX_ (Kd.R_reads' HO105.out).2.2);(case side2=>exact (Kd.R_reads' HO105.out).2.1);rintro e w19 ⟨v126,rfl,ho0,hb⟩;refine ⟨_,rfl,?_⟩;replace HO105:=rB_ HO105 hb;replace HO110:=rB_ HO110 hb;replace HO115:=rB_ HO115 hb;have HO127:=Aside0.mk (Kd.S_lower (Kd.S_new' (Kd.S_new' ho0 (Kd.R_lt (q14_))) (Kd.R_lt (by (with_reducible repeat (first | apply Kd.R_alloc | apply Kd.R_drewN | apply Kd.R_drew));exact HO123.out))) (below_size (q21_)));replace HO119:=rB_ HO119 hb;replace HO123:=rB_ HO123 hb;replace HB:=bS_ HB hb;(try clear hb);(try clear ho0)) | ((with_reducible refine gate_callee (f:=54) rfl ?_);refine goesL_ (some 87) rfl rfl Try.func54 (by kernel_rfl) rfl #[.slice Ao14 t102.length co14] rfl (q22_) ?_;(with_reducible refine (spec_ClashesOf.calls k _ _ t102 t128 t129 _ ?side1 ?side2 A11.out).mono ?_);(case side1=>exact cX_ (Kd.R_reads' HO105.out).2.2);(case side2=>exact (Kd.R_reads' HO105.out).2.1);rintro e w20 ⟨v130,rfl,ho0,hb⟩;refine ⟨_,rfl,?_⟩;replace HO105:=rB_ HO105 hb;replace HO110:=rB_ HO110 hb;replace HO115:=rB_ HO115 hb;have HO131:=Aside0.mk (Kd.S_lower (Kd.S_new' (Kd.S_new' (Kd.S_new' ho0 (Kd.R_lt (q14_))) (Kd.R_lt (by (with_reducible repeat (first | apply Kd.R_alloc | apply Kd.R_drewN | apply Kd.R_drew));exact HO123.out))) (Kd.S_lt (by (with_reducible repeat (first | apply Kd.S_alloc | apply Kd.S_drewN | apply Kd.S_drew));exact HO127.out))) (below_size (q21_)));replace HO119:=rB_ HO119 hb;replace HO123:=rB_ HO123 hb;replace HO127:=Aside0.mk (Kd.S_elder' (by (with_reducible repeat (first | apply Kd.S_alloc | apply Kd.S_drewN | apply Kd.S_drew));exact HO127.out) (Kd.S_base ho0) hb);replace HB:=bS_ HB hb;(try clear hb);(try clear ho0)))
  (try simp only [Act.put,List.setIfInBounds_toArray,List.set_cons_zero,List.set_cons_succ])
  go_cut [143] (fun v143 wc=>∃ (kq : Nat) (x143_11 : Bool),v143 = .bool x143_11 ∧ Aside0 (laws_FnNames.j0 kq l1 t102 t106 t108 t111 t112 t117 t120 t128 x143_11 = some r) ∧ Aside0 (kq ≤ k) ∧ Aside0 (Kd.R k77 77 wc w.heap.size (fun k_=>some k_ ≠ (v109 : Value).ownBlock ∧ some k_ ≠ (v114 : Value).ownBlock) (.slice Ao14 t102.length co14) t102) ∧ Aside0 (Kd.R k77 77 wc w.heap.size (fun k_=>some k_ ≠ ((.slice Ao14 t102.length co14) : Value).ownBlock ∧ some k_ ≠ (v114 : Value).ownBlock) v109 t106) ∧ Aside0 (Kd.R k77 77 wc w.heap.size (fun k_=>some k_ ≠ ((.slice Ao14 t102.length co14) : Value).ownBlock ∧ some k_ ≠ (v109 : Value).ownBlock) v114 t111) ∧ Aside0 (Kd.R (Kd.int .i64) 3 wc w.heap.size (fun _=>True) v122 t120) ∧ Aside0 (Kd.S (Kd.slice 3 (Kd.int .i64)) 65 wc w.heap.size (fun k_=>some k_ ≠ (v122 : Value).ownBlock) v130 t128) ∧ Aside0 (Below w.heap.size w wc))
  case first=>as_aux_lemma =>
   have H:=HC12.out;clear HC12;by_cases c21 : (t108 != t113) = true
   ·rw [if_pos c21] at H;have c21b0 : (t108 != t113) = true:=c21
    (try (have c21b1 : decide (t108 = t113) = false:=by simpa using c21))
    (try (have c21b2 : (t108 == t113) = false:=by simpa using c21))
    (try (have c21b3 : ¬ (t108 = t113):=by simpa using c21))
    clear c21
    (first | rw [c21b0] | (simp only [i64_w,i32_w];rw [c21b0]) | skip)
    first | with_reducible exact (laws_FnNames.j0_no H ht_.out).elim | with_reducible exact (laws_FnNames.j6_no H ht_.out).elim | with_reducible exact (laws_FnNames.j8_no H ht_.out).elim | with_reducible exact (laws_FnNames.j3_no H ht_.out).elim
   ·rw [if_neg c21] at H;have c21b0 : (t108 != t113) = false:=by simpa using c21
    (try (have c21b1 : decide (t108 = t113) = true:=by simpa using c21))
    (try (have c21b2 : (t108 == t113) = true:=by simpa using c21))
    clear c21
    (first | rw [c21b0] | (simp only [i64_w,i32_w];rw [c21b0]) | skip)
    replace H:=Option.bind_eq_some_iff.mp H;obtain ⟨t132,A220,H⟩:=H;(try dsimp only at H);have A22:=Aside0.mk A220;clear A220;by_cases c23 : t132 = true
    ·subst c23;have H1 : (if t107 = t112 then (if (t117 != t121) = true then (laws_FnNames.j0 k l1 t102 t106 t108 t111 t112 t117 t120 t128 true) else ((laws_sameInts.f k t116 t120).bind fun t133=>(if t133 = true then (if (t125 != t129) = true then (laws_FnNames.j0 k l1 t102 t106 t108 t111 t112 t117 t120 t128 true) else ((laws_sameLists.f k t124 t128).bind fun t134=>(if t134 = true then ((impl_ArePeople.f k t102).bind fun t135=>(if (t117 != t135) = true then (laws_FnNames.j0 k l1 t102 t106 t108 t111 t112 t117 t120 t128 true) else (if (t125 != t117) = true then (laws_FnNames.j0 k l1 t102 t106 t108 t111 t112 t117 t120 t128 true) else (if t108 = true then (laws_FnNames.j0 k l1 t102 t106 t108 t111 t112 t117 t120 t128 (!t117)) else (laws_FnNames.j0 k l1 t102 t106 t108 t111 t112 t117 t120 t128 false))))) else (laws_FnNames.j0 k l1 t102 t106 t108 t111 t112 t117 t120 t128 true)))) else (laws_FnNames.j0 k l1 t102 t106 t108 t111 t112 t117 t120 t128 true)))) else (laws_FnNames.j0 k l1 t102 t106 t108 t111 t112 t117 t120 t128 true)) = some r:=by rw [if_pos rfl] at H;exact H
     clear H;have H:=H1;clear H1;by_cases c24 : t107 = t112
     ·rw [if_pos c24] at H;have c24b0 : (t107 == t112) = true:=beq_iff_eq.mpr c24;have c24b1 : (t107 != t112) = false:=bne_eq_false_iff_eq.mpr c24;clear c24;by_cases c25 : (t117 != t121) = true
      ·rw [if_pos c25] at H;have c25b0 : (t117 != t121) = true:=c25
       (try (have c25b1 : decide (t117 = t121) = false:=by simpa using c25))
       (try (have c25b2 : (t117 == t121) = false:=by simpa using c25))
       (try (have c25b3 : ¬ (t117 = t121):=by simpa using c25))
       clear c25;first | with_reducible exact (laws_FnNames.j0_no H ht_.out).elim | with_reducible exact (laws_FnNames.j6_no H ht_.out).elim | with_reducible exact (laws_FnNames.j8_no H ht_.out).elim | with_reducible exact (laws_FnNames.j3_no H ht_.out).elim
      ·rw [if_neg c25] at H;have c25b0 : (t117 != t121) = false:=by simpa using c25
       (try (have c25b1 : decide (t117 = t121) = true:=by simpa using c25))
       (try (have c25b2 : (t117 == t121) = true:=by simpa using c25))
       clear c25;replace H:=Option.bind_eq_some_iff.mp H;obtain ⟨t133,A280,H⟩:=H;(try dsimp only at H);have A28:=Aside0.mk A280;clear A280;by_cases c29 : t133 = true
       ·subst c29;have H1 : (if (t125 != t129) = true then (laws_FnNames.j0 k l1 t102 t106 t108 t111 t112 t117 t120 t128 true) else ((laws_sameLists.f k t124 t128).bind fun t134=>(if t134 = true then ((impl_ArePeople.f k t102).bind fun t135=>(if (t117 != t135) = true then (laws_FnNames.j0 k l1 t102 t106 t108 t111 t112 t117 t120 t128 true) else (if (t125 != t117) = true then (laws_FnNames.j0 k l1 t102 t106 t108 t111 t112 t117 t120 t128 true) else (if t108 = true then (laws_FnNames.j0 k l1 t102 t106 t108 t111 t112 t117 t120 t128 (!t117)) else (laws_FnNames.j0 k l1 t102 t106 t108 t111 t112 t117 t120 t128 false))))) else (laws_FnNames.j0 k l1 t102 t106 t108 t111 t112 t117 t120 t128 true)))) = some r:=by rw [if_pos rfl] at H;exact H
        clear H;have H:=H1;clear H1;by_cases c30 : (t125 != t129) = true
        ·rw [if_pos c30] at H;have c30b0 : (t125 != t129) = true:=c30
         (try (have c30b1 : decide (t125 = t129) = false:=by simpa using c30))
         (try (have c30b2 : (t125 == t129) = false:=by simpa using c30))
         (try (have c30b3 : ¬ (t125 = t129):=by simpa using c30))
         clear c30;first | with_reducible exact (laws_FnNames.j0_no H ht_.out).elim | with_reducible exact (laws_FnNames.j6_no H ht_.out).elim | with_reducible exact (laws_FnNames.j8_no H ht_.out).elim | with_reducible exact (laws_FnNames.j3_no H ht_.out).elim
        ·rw [if_neg c30] at H;have c30b0 : (t125 != t129) = false:=by simpa using c30
         (try (have c30b1 : decide (t125 = t129) = true:=by simpa using c30))
         (try (have c30b2 : (t125 == t129) = true:=by simpa using c30))
         clear c30;replace H:=Option.bind_eq_some_iff.mp H;obtain ⟨t134,A350,H⟩:=H;(try dsimp only at H);have A35:=Aside0.mk A350;clear A350;by_cases c36 : t134 = true
         ·subst c36;have H1 : ((impl_ArePeople.f k t102).bind fun t135=>(if (t117 != t135) = true then (laws_FnNames.j0 k l1 t102 t106 t108 t111 t112 t117 t120 t128 true) else (if (t125 != t117) = true then (laws_FnNames.j0 k l1 t102 t106 t108 t111 t112 t117 t120 t128 true) else (if t108 = true then (laws_FnNames.j0 k l1 t102 t106 t108 t111 t112 t117 t120 t128 (!t117)) else (laws_FnNames.j0 k l1 t102 t106 t108 t111 t112 t117 t120 t128 false))))) = some r:=by rw [if_pos rfl] at H;exact H
          clear H;have H:=H1;clear H1;replace H:=Option.bind_eq_some_iff.mp H;obtain ⟨t135,A370,H⟩:=H;(try dsimp only at H);have A37:=Aside0.mk A370;clear A370;by_cases c38 : (t117 != t135) = true
          ·rw [if_pos c38] at H;have c38b0 : (t117 != t135) = true:=c38
           (try (have c38b1 : decide (t117 = t135) = false:=by simpa using c38))
           (try (have c38b2 : (t117 == t135) = false:=by simpa using c38))
           (try (have c38b3 : ¬ (t117 = t135):=by simpa using c38))
           clear c38;first | with_reducible exact (laws_FnNames.j0_no H ht_.out).elim | with_reducible exact (laws_FnNames.j6_no H ht_.out).elim | with_reducible exact (laws_FnNames.j8_no H ht_.out).elim | with_reducible exact (laws_FnNames.j3_no H ht_.out).elim
          ·rw [if_neg c38] at H;have c38b0 : (t117 != t135) = false:=by simpa using c38
           (try (have c38b1 : decide (t117 = t135) = true:=by simpa using c38))
           (try (have c38b2 : (t117 == t135) = true:=by simpa using c38))
           clear c38;by_cases c46 : (t125 != t117) = true
           ·rw [if_pos c46] at H;have c46b0 : (t125 != t117) = true:=c46
            (try (have c46b1 : decide (t125 = t117) = false:=by simpa using c46))
            (try (have c46b2 : (t125 == t117) = false:=by simpa using c46))
            (try (have c46b3 : ¬ (t125 = t117):=by simpa using c46))
            clear c46;first | with_reducible exact (laws_FnNames.j0_no H ht_.out).elim | with_reducible exact (laws_FnNames.j6_no H ht_.out).elim | with_reducible exact (laws_FnNames.j8_no H ht_.out).elim | with_reducible exact (laws_FnNames.j3_no H ht_.out).elim
           ·rw [if_neg c46] at H;have c46b0 : (t125 != t117) = false:=by simpa using c46
            (try (have c46b1 : decide (t125 = t117) = true:=by simpa using c46))
            (try (have c46b2 : (t125 == t117) = true:=by simpa using c46))
            clear c46;by_cases c54 : t108 = true
            ·subst c54;have H1 : (laws_FnNames.j0 k l1 t102 t106 true t111 t112 t117 t120 t128 (!t117)) = some r:=by rw [if_pos rfl] at H;exact H
             clear H;have H:=H1;clear H1;have H' := Aside0.mk H;clear H;obtain ⟨Ao55,co55,eo55⟩:=Kd.R_slice HO110.out;subst eo55;obtain ⟨Ao56,co56,eo56⟩:=Kd.R_slice HO115.out;subst eo56;go_wp2_with (first | (go_at_call 55;(with_reducible refine (laws_pSamePeople.calls k _ _ t106 _ _ t111 true _ ?side1 ?side2 ?side3 ?side4 A22.out).mono ?_);(case side1=>exact cX_ (Kd.R_reads' HO110.out).2.2);(case side2=>exact (Kd.R_reads' HO110.out).2.1);(case side3=>exact cX_ (Kd.R_reads' HO115.out).2.2);(case side4=>exact (Kd.R_reads' HO115.out).2.1);rintro e w' ⟨rfl,⟨nd,rfl⟩⟩;obtain ⟨Ao57,co57,eo57⟩:=Kd.R_slice HO119.out;subst eo57;obtain ⟨Ao58,co58,eo58⟩:=Kd.R_slice HO123.out;subst eo58) | (go_at_call 56;(with_reducible refine (laws_sameInts.calls k _ _ t116 _ _ t120 true _ ?side1 ?side2 ?side3 ?side4 A28.out).mono ?_);(case side1=>exact cX_ (Kd.R_reads' HO119.out).2.2);(case side2=>exact (Kd.R_reads' HO119.out).2.1);(case side3=>exact cX_ (Kd.R_reads' HO123.out).2.2);(case side4=>exact (Kd.R_reads' HO123.out).2.1);rintro e w' ⟨rfl,⟨nd,rfl⟩⟩;obtain ⟨Ao59,co59,eo59⟩:=Kd.S_slice HO127.out;subst eo59;obtain ⟨Ao60,co60,eo60⟩:=Kd.S_slice HO131.out;subst eo60) | (go_at_call 57;(with_reducible refine (laws_sameLists.calls k _ _ t124 _ _ t128 true _ ?side1 ?side2 ?side3 ?side4 A35.out).mono ?_);(case side1=>exact cX_ (Kd.S_reads' HO127.out).2.2);(case side2=>exact (Kd.S_reads' HO127.out).2.1);(case side3=>exact cX_ (Kd.S_reads' HO131.out).2.2);(case side4=>exact (Kd.S_reads' HO131.out).2.1);rintro e w' ⟨rfl,⟨nd,rfl⟩⟩) | (go_at_call 58;(with_reducible refine (impl_ArePeople.calls k _ _ t102 t135 _ ?side1 ?side2 A37.out).mono ?_);(case side1=>exact cX_ (Kd.R_reads' HO105.out).2.2);(case side2=>exact (Kd.R_reads' HO105.out).2.1);rintro e w61 ⟨rfl,hb⟩;replace HO105:=rB_ HO105 hb;replace HO110:=rB_ HO110 hb;replace HO115:=rB_ HO115 hb;replace HO119:=rB_ HO119 hb;replace HO123:=rB_ HO123 hb;replace HO127:=Aside0.mk (Kd.S_below (by (with_reducible repeat (first | apply Kd.S_alloc | apply Kd.S_drewN | apply Kd.S_drew));exact HO127.out) hb);replace HO131:=Aside0.mk (Kd.S_below (by (with_reducible repeat (first | apply Kd.S_alloc | apply Kd.S_drewN | apply Kd.S_drew));exact HO131.out) hb);replace HB:=bS_ HB hb;(try clear hb)))
             go_meet
             case rel=>exact ⟨_,(!t117),(q1_),H', ⟨by first | omega | exact Nat.le_refl _⟩,⟨by (with_reducible repeat (first | apply Kd.R_alloc | apply Kd.R_drewN | apply Kd.R_drew));exact Kd.R_mono HO105.out (fun _ hk=>⟨hk.1.2,hk.2⟩)⟩,⟨by (with_reducible repeat (first | apply Kd.R_alloc | apply Kd.R_drewN | apply Kd.R_drew));exact Kd.R_mono HO110.out (fun _ hk=>⟨hk.1.2,hk.2⟩)⟩,⟨by (with_reducible repeat (first | apply Kd.R_alloc | apply Kd.R_drewN | apply Kd.R_drew));exact Kd.R_mono HO115.out (fun _ hk=>⟨hk.1.2,hk.2⟩)⟩,⟨by (with_reducible repeat (first | apply Kd.R_alloc | apply Kd.R_drewN | apply Kd.R_drew));exact Kd.R_mono HO123.out (fun _ hk=>trivial)⟩,⟨by (with_reducible repeat (first | apply Kd.S_alloc | apply Kd.S_drewN | apply Kd.S_drew));exact Kd.S_mono HO131.out (fun _ hk=>hk.1.2)⟩,⟨q21_⟩⟩
            ·replace c54:=Bool.eq_false_iff.mpr c54;subst c54;have H1 : (laws_FnNames.j0 k l1 t102 t106 false t111 t112 t117 t120 t128 false) = some r:=by rw [if_neg (show ¬ (false = true) by decide)] at H;exact H
             clear H;have H:=H1;clear H1;have H' := Aside0.mk H;clear H;obtain ⟨Ao62,co62,eo62⟩:=Kd.R_slice HO110.out;subst eo62;obtain ⟨Ao63,co63,eo63⟩:=Kd.R_slice HO115.out;subst eo63;go_wp2_with (first | (go_at_call 55;(with_reducible refine (laws_pSamePeople.calls k _ _ t106 _ _ t111 true _ ?side1 ?side2 ?side3 ?side4 A22.out).mono ?_);(case side1=>exact cX_ (Kd.R_reads' HO110.out).2.2);(case side2=>exact (Kd.R_reads' HO110.out).2.1);(case side3=>exact cX_ (Kd.R_reads' HO115.out).2.2);(case side4=>exact (Kd.R_reads' HO115.out).2.1);rintro e w' ⟨rfl,⟨nd,rfl⟩⟩;obtain ⟨Ao64,co64,eo64⟩:=Kd.R_slice HO119.out;subst eo64;obtain ⟨Ao65,co65,eo65⟩:=Kd.R_slice HO123.out;subst eo65) | (go_at_call 56;(with_reducible refine (laws_sameInts.calls k _ _ t116 _ _ t120 true _ ?side1 ?side2 ?side3 ?side4 A28.out).mono ?_);(case side1=>exact cX_ (Kd.R_reads' HO119.out).2.2);(case side2=>exact (Kd.R_reads' HO119.out).2.1);(case side3=>exact cX_ (Kd.R_reads' HO123.out).2.2);(case side4=>exact (Kd.R_reads' HO123.out).2.1);rintro e w' ⟨rfl,⟨nd,rfl⟩⟩;obtain ⟨Ao66,co66,eo66⟩:=Kd.S_slice HO127.out;subst eo66;obtain ⟨Ao67,co67,eo67⟩:=Kd.S_slice HO131.out;subst eo67) | (go_at_call 57;(with_reducible refine (laws_sameLists.calls k _ _ t124 _ _ t128 true _ ?side1 ?side2 ?side3 ?side4 A35.out).mono ?_);(case side1=>exact cX_ (Kd.S_reads' HO127.out).2.2);(case side2=>exact (Kd.S_reads' HO127.out).2.1);(case side3=>exact cX_ (Kd.S_reads' HO131.out).2.2);(case side4=>exact (Kd.S_reads' HO131.out).2.1);rintro e w' ⟨rfl,⟨nd,rfl⟩⟩) | (go_at_call 58;(with_reducible refine (impl_ArePeople.calls k _ _ t102 t135 _ ?side1 ?side2 A37.out).mono ?_);(case side1=>exact cX_ (Kd.R_reads' HO105.out).2.2);(case side2=>exact (Kd.R_reads' HO105.out).2.1);rintro e w68 ⟨rfl,hb⟩;replace HO105:=rB_ HO105 hb;replace HO110:=rB_ HO110 hb;replace HO115:=rB_ HO115 hb;replace HO119:=rB_ HO119 hb;replace HO123:=rB_ HO123 hb;replace HO127:=Aside0.mk (Kd.S_below (by (with_reducible repeat (first | apply Kd.S_alloc | apply Kd.S_drewN | apply Kd.S_drew));exact HO127.out) hb);replace HO131:=Aside0.mk (Kd.S_below (by (with_reducible repeat (first | apply Kd.S_alloc | apply Kd.S_drewN | apply Kd.S_drew));exact HO131.out) hb);replace HB:=bS_ HB hb;(try clear hb)))
             go_meet
             case rel=>exact ⟨_,(false),(q1_),H', ⟨by first | omega | exact Nat.le_refl _⟩,⟨by (with_reducible repeat (first | apply Kd.R_alloc | apply Kd.R_drewN | apply Kd.R_drew));exact Kd.R_mono HO105.out (fun _ hk=>⟨hk.1.2,hk.2⟩)⟩,⟨by (with_reducible repeat (first | apply Kd.R_alloc | apply Kd.R_drewN | apply Kd.R_drew));exact Kd.R_mono HO110.out (fun _ hk=>⟨hk.1.2,hk.2⟩)⟩,⟨by (with_reducible repeat (first | apply Kd.R_alloc | apply Kd.R_drewN | apply Kd.R_drew));exact Kd.R_mono HO115.out (fun _ hk=>⟨hk.1.2,hk.2⟩)⟩,⟨by (with_reducible repeat (first | apply Kd.R_alloc | apply Kd.R_drewN | apply Kd.R_drew));exact Kd.R_mono HO123.out (fun _ hk=>trivial)⟩,⟨by (with_reducible repeat (first | apply Kd.S_alloc | apply Kd.S_drewN | apply Kd.S_drew));exact Kd.S_mono HO131.out (fun _ hk=>hk.1.2)⟩,⟨q21_⟩⟩
         ·replace c36:=Bool.eq_false_iff.mpr c36;subst c36;have H1 : (laws_FnNames.j0 k l1 t102 t106 t108 t111 t112 t117 t120 t128 true) = some r:=by rw [if_neg (show ¬ (false = true) by decide)] at H;exact H
          clear H;have H:=H1;clear H1;first | with_reducible exact (laws_FnNames.j0_no H ht_.out).elim | with_reducible exact (laws_FnNames.j6_no H ht_.out).elim | with_reducible exact (laws_FnNames.j8_no H ht_.out).elim | with_reducible exact (laws_FnNames.j3_no H ht_.out).elim
       ·replace c29:=Bool.eq_false_iff.mpr c29;subst c29;have H1 : (laws_FnNames.j0 k l1 t102 t106 t108 t111 t112 t117 t120 t128 true) = some r:=by rw [if_neg (show ¬ (false = true) by decide)] at H;exact H
        clear H;have H:=H1;clear H1;first | with_reducible exact (laws_FnNames.j0_no H ht_.out).elim | with_reducible exact (laws_FnNames.j6_no H ht_.out).elim | with_reducible exact (laws_FnNames.j8_no H ht_.out).elim | with_reducible exact (laws_FnNames.j3_no H ht_.out).elim
     ·rw [if_neg c24] at H;have c24b0 : (t107 == t112) = false:=beq_eq_false_iff_ne.mpr c24;have c24b1 : (t107 != t112) = true:=bne_iff_ne.mpr c24;first | with_reducible exact (laws_FnNames.j0_no H ht_.out).elim | with_reducible exact (laws_FnNames.j6_no H ht_.out).elim | with_reducible exact (laws_FnNames.j8_no H ht_.out).elim | with_reducible exact (laws_FnNames.j3_no H ht_.out).elim
    ·replace c23:=Bool.eq_false_iff.mpr c23;subst c23;have H1 : (laws_FnNames.j0 k l1 t102 t106 t108 t111 t112 t117 t120 t128 true) = some r:=by rw [if_neg (show ¬ (false = true) by decide)] at H;exact H
     clear H;have H:=H1;clear H1;first | with_reducible exact (laws_FnNames.j0_no H ht_.out).elim | with_reducible exact (laws_FnNames.j6_no H ht_.out).elim | with_reducible exact (laws_FnNames.j8_no H ht_.out).elim | with_reducible exact (laws_FnNames.j3_no H ht_.out).elim
  case rest=>as_aux_lemma =>
   clear HC12;try clear c1
   try clear c4
   try clear c21
   try clear c21b0
   try clear c21b1
   try clear c21b2
   try clear c23
   try clear c24
   try clear c24b0
   try clear c24b1
   try clear c25
   try clear c25b0
   try clear c25b1
   try clear c25b2
   try clear c29
   try clear c30
   try clear c30b0
   try clear c30b1
   try clear c30b2
   try clear c36
   try clear c38
   try clear c38b0
   try clear c38b1
   try clear c38b2
   try clear c46
   try clear c46b0
   try clear c46b1
   try clear c46b2
   try clear c54
   obtain ⟨kq,x143_11,rfl,HA,HJ11,HO_5,HO_7,HO_10,HO_15,HO_19,HB⟩:=hcut;cases kq with
   | zero=>exact absurd HA.out (by simp [laws_FnNames.j0])
   | succ kj11 =>
    have H:=HA.out;clear HA;simp only [laws_FnNames.j0] at H;by_cases c83 : x143_11 = true
    ·subst c83;have H1 : (some false) = some r:=by rw [if_pos rfl] at H;exact H
     clear H;have H:=H1;clear H1;exact absurd (Option.some.inj H) (by rw [ht_.out];decide)
    ·replace c83:=Bool.eq_false_iff.mpr c83;subst c83;have H1 : (if t117 = true then (if (((t120.length : Int) == 0) != ((t128.length : Int) == 0)) = true then (some false) else (laws_FnNames.l0 kj11 l1 t102 t106 t108 t111 t112 t120 t128 (t128.length : Int) 0)) else (laws_FnNames.j2 kj11 l1 t102 t106 t108 t111 t112 t120)) = some r:=by rw [if_neg (show ¬ (false = true) by decide)] at H;exact H
     clear H;have H:=H1;clear H1;have HC84:=Aside0.mk H;clear H;go_upto_if 144 with (fail)
     go_cut [] (fun wc=>∃ (kq : Nat),Aside0 (laws_FnNames.j2 kq l1 t102 t106 t108 t111 t112 t120 = some r) ∧ Aside0 (kq ≤ kj11) ∧ Aside0 (Kd.R k77 77 wc w.heap.size (fun k_=>some k_ ≠ (v109 : Value).ownBlock ∧ some k_ ≠ (v114 : Value).ownBlock) (.slice Ao14 t102.length co14) t102) ∧ Aside0 (Kd.R k77 77 wc w.heap.size (fun k_=>some k_ ≠ ((.slice Ao14 t102.length co14) : Value).ownBlock ∧ some k_ ≠ (v114 : Value).ownBlock) v109 t106) ∧ Aside0 (Kd.R k77 77 wc w.heap.size (fun k_=>some k_ ≠ ((.slice Ao14 t102.length co14) : Value).ownBlock ∧ some k_ ≠ (v109 : Value).ownBlock) v114 t111) ∧ Aside0 (Kd.R (Kd.int .i64) 3 wc w.heap.size (fun _=>True) v122 t120) ∧ Aside0 (Below w.heap.size w wc))
     case first=>as_aux_lemma =>
      have H:=HC84.out;clear HC84;by_cases c85 : t117 = true
      ·subst c85;have H1 : (if (((t120.length : Int) == 0) != ((t128.length : Int) == 0)) = true then (some false) else (laws_FnNames.l0 kj11 l1 t102 t106 t108 t111 t112 t120 t128 (t128.length : Int) 0)) = some r:=by rw [if_pos rfl] at H;exact H
       clear H;have H:=H1;clear H1;by_cases c86 : (((t120.length : Int) == 0) != ((t128.length : Int) == 0)) = true
       ·rw [if_pos c86] at H;have c86b0 : (((t120.length : Int) == 0) != ((t128.length : Int) == 0)) = true:=c86
        (try (have c86b1 : decide (((t120.length : Int) == 0) = ((t128.length : Int) == 0)) = false:=by simpa using c86))
        (try (have c86b2 : (((t120.length : Int) == 0) == ((t128.length : Int) == 0)) = false:=by simpa using c86))
        (try (have c86b3 : ¬ (((t120.length : Int) == 0) = ((t128.length : Int) == 0)):=by simpa using c86))
        clear c86
        (first | rw [c86b0] | (simp only [i64_w,i32_w];rw [c86b0]) | skip)
        exact absurd (Option.some.inj H) (by rw [ht_.out];decide)
       ·rw [if_neg c86] at H;have c86b0 : (((t120.length : Int) == 0) != ((t128.length : Int) == 0)) = false:=by simpa using c86
        (try (have c86b1 : decide (((t120.length : Int) == 0) = ((t128.length : Int) == 0)) = true:=by simpa using c86))
        (try (have c86b2 : (((t120.length : Int) == 0) == ((t128.length : Int) == 0)) = true:=by simpa using c86))
        clear c86
        (first | rw [c86b0] | (simp only [i64_w,i32_w];rw [c86b0]) | skip)
        have H' := Aside0.mk H;clear H;obtain ⟨Ao87,co87,eo87⟩:=Kd.R_slice HO_15.out;subst eo87;obtain ⟨Ao88,co88,eo88⟩:=Kd.S_slice HO_19.out;subst eo88;go_wp2;go_loopg [154] kj11 (fun kq v154 w' => ∃ (x154_2 : Int),v154 = .int .i64 x154_2 ∧ Aside0 (laws_FnNames.l0 kq l1 t102 t106 t108 t111 t112 t120 t128 (t128.length : Int) x154_2 = some r) ∧ Aside0 (kq ≤ kj11) ∧ Aside0 (Kd.R k77 77 w' w.heap.size (fun k_=>some k_ ≠ (v109 : Value).ownBlock ∧ some k_ ≠ (v114 : Value).ownBlock) (.slice Ao14 t102.length co14) t102) ∧ Aside0 (Kd.R k77 77 w' w.heap.size (fun k_=>some k_ ≠ ((.slice Ao14 t102.length co14) : Value).ownBlock ∧ some k_ ≠ (v114 : Value).ownBlock) v109 t106) ∧ Aside0 (Kd.R k77 77 w' w.heap.size (fun k_=>some k_ ≠ ((.slice Ao14 t102.length co14) : Value).ownBlock ∧ some k_ ≠ (v109 : Value).ownBlock) v114 t111) ∧ Aside0 (Kd.R (Kd.int .i64) 3 w' w.heap.size (fun _=>True) (.slice Ao87 t120.length co87) t120) ∧ Aside0 (Kd.S (Kd.slice 3 (Kd.int .i64)) 65 w' w.heap.size (fun k_=>some k_ ≠ ((.slice Ao87 t120.length co87) : Value).ownBlock) (.slice Ao88 t128.length co88) t128) ∧ Aside0 (Below w.heap.size w w'))
        case atStart=>exact ⟨(0),(q1_),H', ⟨Nat.le_refl _⟩,⟨q7_⟩,⟨q6_⟩,⟨by (with_reducible repeat (first | apply Kd.R_alloc | apply Kd.R_drewN | apply Kd.R_drew));exact HO_10.out⟩,⟨q15_⟩,⟨by (with_reducible repeat (first | apply Kd.S_alloc | apply Kd.S_drewN | apply Kd.S_drew));exact HO_19.out⟩,⟨q21_⟩⟩
        case round =>
         clear H';try clear c1
         try clear c4
         try clear c21
         try clear c21b0
         try clear c21b1
         try clear c21b2
         try clear c23
         try clear c24
         try clear c24b0
         try clear c24b1
         try clear c25
         try clear c25b0
         try clear c25b1
         try clear c25b2
         try clear c29
         try clear c30
         try clear c30b0
         try clear c30b1
         try clear c30b2
         try clear c36
         try clear c38
         try clear c38b0
         try clear c38b1
         try clear c38b2
         try clear c46
         try clear c46b0
         try clear c46b1
         try clear c46b2
         try clear c54
         try clear c83
         try clear c85
         try clear c86
         try clear c86b0
         try clear c86b1
         try clear c86b2
         obtain ⟨x154_2,rfl,HA,HK2,HO_5,HO_7,HO_10,HO_15,HO_152,HB⟩:=hrel;cases gk with
         | zero=>exact absurd HA.out (by simp [laws_FnNames.l0])
         | succ k2 =>
          have H:=HA.out;clear HA;simp only [laws_FnNames.l0] at H;by_cases c89 : x154_2 < (t128.length : Int)
          ·rw [if_pos c89] at H;have c89b0 : decide (x154_2 < (t128.length : Int)) = true:=decide_eq_true c89;clear c89;by_cases c90 : 0 ≤ x154_2
           ·rw [if_pos c90] at H;have c90b0 : decide (0 ≤ x154_2) = true:=decide_eq_true c90;clear c90;by_cases c91 : x154_2 < (t128.length : Int)
            ·rw [if_pos c91] at H;have c91b0 : decide (x154_2 < (t128.length : Int)) = true:=decide_eq_true c91;clear c91;by_cases c92 : 0 < ((rd_L15 t128 x154_2).length : Int)
             ·rw [if_pos c92] at H;have c92b0 : decide (0 < ((rd_L15 t128 x154_2).length : Int)) = true:=decide_eq_true c92;have c92b1 : decide (0 < (rd_L15 t128 x154_2).length) = true:=decide_eq_true (by omega);clear c92;replace H:=Option.bind_eq_some_iff.mp H;obtain ⟨t138,A930,H⟩:=H;(try dsimp only at H);have A93:=Aside0.mk A930;clear A930;by_cases c94 : t138 = true
              ·subst c94;have H1 : (laws_FnNames.l0 k2 l1 t102 t106 t108 t111 t112 t120 t128 (t128.length : Int) (wrap64 (x154_2 + 1))) = some r:=by rw [if_pos rfl] at H;exact H
               clear H;have H:=H1;clear H1;have H' := Aside0.mk H;clear H;have p136 : 0 ≤ (x154_2 : Int):=of_decide_eq_true (q2_);have q136 : x154_2 < (t128.length : Int):=of_decide_eq_true (q2_);obtain ⟨ad136,A136_0,c136_0,e136,hx136_0,hl136_0,hi136_0⟩:=at_L15 (Kd.S_reads' HO_152.out).2.2 x154_2 p136 q136;cases e136;obtain ⟨ce136,hce136,hMe136,hcc136⟩:=Kd.S_get HO_152.out [] x154_2 p136 (by first | exact q136 | exact of_decide_eq_true (q2_) | (have e_:=(Kd.S_reads' HO_152.out).1;omega));obtain ⟨ve136_0,rfl,ge136_0⟩:=hMe136;have hv136_0:=hcc136 0 _ rfl;rw [Nat.add_zero,show ((Kd.slice 3 (Kd.int .i64))).sz = 1 from rfl,Nat.mul_one] at hv136_0;replace hv136_0:=Option.some.inj (hv136_0.symm.trans hx136_0);rw [hv136_0] at ge136_0;have HL136_0:=Aside0.mk (show Kd.R (Kd.int .i64) 3 _ _ _ _ (rd_L15 t128 x154_2) from ge136_0);clear hv136_0 ge136_0 hcc136 hce136;have HR136_0:=Aside0.mk hi136_0;have HC136_0:=Aside0.mk hl136_0;clear hi136_0 hl136_0;replace p136:=eq_true p136;replace q136:=eq_true q136;have p137 : 0 ≤ (0 : Int):=(by omega);have q137 : 0 < ((rd_L15 t128 x154_2).length : Int):=of_decide_eq_true (q2_);obtain ⟨ad137,e137,hx137_0⟩:=Kd.at_int (by repeat (first | (with_reducible exact HR136_0.out) | (with_reducible refine Kd.C_alloc ?_ _) | (with_reducible refine Kd.C_drewN ?_ _) | (with_reducible refine Kd.C_drew ?_) | exact HR136_0.out)) 0 p137 q137;cases e137;have qi137 : (0 < (rd_L15 t128 x154_2).length) = True:=eq_true (by omega)
               (try rw [show ((0 : Int)).toNat = 0 from rfl] at hx137_0)
               (try rw [Addr.add_zero'] at hx137_0)
               replace p137:=eq_true p137;replace q137:=eq_true q137;go_wp2_with (first | ((with_reducible refine gate_callee (f:=59) rfl ?_);refine goesL_ (some 162) rfl rfl Try.func59 (by kernel_rfl) rfl #[.slice Ao87 t120.length co87,.int .i64 (rd (rd_L15 t128 x154_2) 0)] rfl (q22_) ?_;(with_reducible refine (laws_pIn.calls k2 _ _ t120 (rd (rd_L15 t128 x154_2) 0) true _ ?side1 ?side2 A93.out).mono ?_);(case side1=>exact cX_ (Kd.R_reads' HO_15.out).2.2);(case side2=>exact (Kd.R_reads' HO_15.out).2.1);rintro e w' ⟨rfl,⟨nd,rfl⟩⟩;refine ⟨_,rfl,?_⟩))
               go_roundg k2
               case measure=>have:=HJ11.out;have:=HK2.out;omega
               case rel=>exact ⟨(wrap64 (x154_2 + 1)),(q1_),H', ⟨by have:=HJ11.out;have:=HK2.out;omega⟩,⟨q7_⟩,⟨q6_⟩,⟨by (with_reducible repeat (first | apply Kd.R_alloc | apply Kd.R_drewN | apply Kd.R_drew));exact HO_10.out⟩,⟨q15_⟩,⟨by (with_reducible repeat (first | apply Kd.S_alloc | apply Kd.S_drewN | apply Kd.S_drew));exact HO_152.out⟩,⟨q21_⟩⟩
              ·replace c94:=Bool.eq_false_iff.mpr c94;subst c94;have H1 : (if 1 < ((rd_L15 t128 x154_2).length : Int) then ((laws_pIn.f k2 t120 (rd (rd_L15 t128 x154_2) 1)).bind fun t140=>(if t140 = true then (laws_FnNames.l0 k2 l1 t102 t106 t108 t111 t112 t120 t128 (t128.length : Int) (wrap64 (x154_2 + 1))) else (some false))) else (none)) = some r:=by rw [if_neg (show ¬ (false = true) by decide)] at H;exact H
               clear H;have H:=H1;clear H1;by_cases c95 : 1 < ((rd_L15 t128 x154_2).length : Int)
               ·rw [if_pos c95] at H;have c95b0 : decide (1 < ((rd_L15 t128 x154_2).length : Int)) = true:=decide_eq_true c95;have c95b1 : decide (1 < (rd_L15 t128 x154_2).length) = true:=decide_eq_true (by omega);clear c95;replace H:=Option.bind_eq_some_iff.mp H;obtain ⟨t140,A960,H⟩:=H;(try dsimp only at H);have A96:=Aside0.mk A960;clear A960;by_cases c97 : t140 = true
                ·subst c97;have H1 : (laws_FnNames.l0 k2 l1 t102 t106 t108 t111 t112 t120 t128 (t128.length : Int) (wrap64 (x154_2 + 1))) = some r:=by rw [if_pos rfl] at H;exact H
                 clear H;have H:=H1;clear H1;have H' := Aside0.mk H;clear H;have p136 : 0 ≤ (x154_2 : Int):=of_decide_eq_true (q2_);have q136 : x154_2 < (t128.length : Int):=of_decide_eq_true (q2_);obtain ⟨ad136,A136_0,c136_0,e136,hx136_0,hl136_0,hi136_0⟩:=at_L15 (Kd.S_reads' HO_152.out).2.2 x154_2 p136 q136;cases e136;obtain ⟨ce136,hce136,hMe136,hcc136⟩:=Kd.S_get HO_152.out [] x154_2 p136 (by first | exact q136 | exact of_decide_eq_true (q2_) | (have e_:=(Kd.S_reads' HO_152.out).1;omega));obtain ⟨ve136_0,rfl,ge136_0⟩:=hMe136;have hv136_0:=hcc136 0 _ rfl;rw [Nat.add_zero,show ((Kd.slice 3 (Kd.int .i64))).sz = 1 from rfl,Nat.mul_one] at hv136_0;replace hv136_0:=Option.some.inj (hv136_0.symm.trans hx136_0);rw [hv136_0] at ge136_0;have HL136_0:=Aside0.mk (show Kd.R (Kd.int .i64) 3 _ _ _ _ (rd_L15 t128 x154_2) from ge136_0);clear hv136_0 ge136_0 hcc136 hce136;have HR136_0:=Aside0.mk hi136_0;have HC136_0:=Aside0.mk hl136_0;clear hi136_0 hl136_0;replace p136:=eq_true p136;replace q136:=eq_true q136;have p137 : 0 ≤ (0 : Int):=(by omega);have q137 : 0 < ((rd_L15 t128 x154_2).length : Int):=of_decide_eq_true (q2_);obtain ⟨ad137,e137,hx137_0⟩:=Kd.at_int (by repeat (first | (with_reducible exact HR136_0.out) | (with_reducible refine Kd.C_alloc ?_ _) | (with_reducible refine Kd.C_drewN ?_ _) | (with_reducible refine Kd.C_drew ?_) | exact HR136_0.out)) 0 p137 q137;cases e137;have qi137 : (0 < (rd_L15 t128 x154_2).length) = True:=eq_true (by omega)
                 (try rw [show ((0 : Int)).toNat = 0 from rfl] at hx137_0)
                 (try rw [Addr.add_zero'] at hx137_0)
                 replace p137:=eq_true p137;replace q137:=eq_true q137;go_wp2_with (first | ((with_reducible refine gate_callee (f:=59) rfl ?_);refine goesL_ (some 162) rfl rfl Try.func59 (by kernel_rfl) rfl #[.slice Ao87 t120.length co87,.int .i64 (rd (rd_L15 t128 x154_2) 0)] rfl (q22_) ?_;(with_reducible refine (laws_pIn.calls k2 _ _ t120 (rd (rd_L15 t128 x154_2) 0) false _ ?side1 ?side2 A93.out).mono ?_);(case side1=>exact cX_ (Kd.R_reads' HO_15.out).2.2);(case side2=>exact (Kd.R_reads' HO_15.out).2.1);rintro e w' ⟨rfl,⟨nd,rfl⟩⟩;refine ⟨_,rfl,?_⟩;have p139 : 0 ≤ (1 : Int):=(by omega);have q139 : 1 < ((rd_L15 t128 x154_2).length : Int):=of_decide_eq_true (q2_);obtain ⟨ad139,e139,hx139_0⟩:=Kd.at_int (by repeat (first | (with_reducible exact HR136_0.out) | (with_reducible refine Kd.C_alloc ?_ _) | (with_reducible refine Kd.C_drewN ?_ _) | (with_reducible refine Kd.C_drew ?_) | exact HR136_0.out)) 1 p139 q139;obtain rfl : ad137 = ad139:=(by injection e139);(try simp only [show (1 : Int).toNat = 1 from rfl,Nat.reduceMul,Nat.reduceEqDiff,Go.Addr.add,↓reduceIte] at hx139_0);have qi139 : (1 < (rd_L15 t128 x154_2).length) = True:=eq_true (by omega);(try rw [show ((1 : Int)).toNat = 1 from rfl] at hx139_0);replace p139:=eq_true p139;replace q139:=eq_true q139) | (go_at_call 59;(with_reducible refine (laws_pIn.calls k2 _ _ t120 (rd (rd_L15 t128 x154_2) 1) true _ ?side1 ?side2 A96.out).mono ?_);(case side1=>exact cX_ (Kd.R_reads' HO_15.out).2.2);(case side2=>exact (Kd.R_reads' HO_15.out).2.1);rintro e w' ⟨rfl,⟨nd,rfl⟩⟩))
                 go_roundg k2
                 case measure=>have:=HJ11.out;have:=HK2.out;omega
                 case rel=>exact ⟨(wrap64 (x154_2 + 1)),(q1_),H', ⟨by have:=HJ11.out;have:=HK2.out;omega⟩,⟨q7_⟩,⟨q6_⟩,⟨by (with_reducible repeat (first | apply Kd.R_alloc | apply Kd.R_drewN | apply Kd.R_drew));exact HO_10.out⟩,⟨q15_⟩,⟨by (with_reducible repeat (first | apply Kd.S_alloc | apply Kd.S_drewN | apply Kd.S_drew));exact HO_152.out⟩,⟨q21_⟩⟩
                ·replace c97:=Bool.eq_false_iff.mpr c97;subst c97;have H1 : (some false) = some r:=by rw [if_neg (show ¬ (false = true) by decide)] at H;exact H
                 clear H;have H:=H1;clear H1;exact absurd (Option.some.inj H) (by rw [ht_.out];decide)
               ·rw [if_neg c95] at H;exact absurd H (by simp)
             ·rw [if_neg c92] at H;exact absurd H (by simp)
            ·rw [if_neg c91] at H;exact absurd H (by simp)
           ·rw [if_neg c90] at H;exact absurd H (by simp)
          ·rw [if_neg c89] at H;have c89b0 : decide (x154_2 < (t128.length : Int)) = false:=decide_eq_false c89;clear c89;have H' := Aside0.mk H;clear H;go_wp2;go_meet
           case rel=>exact ⟨_,H', ⟨by have:=HJ11.out;have:=HK2.out;first | omega | exact Nat.le_refl _⟩,⟨q7_⟩,⟨q6_⟩,⟨by (with_reducible repeat (first | apply Kd.R_alloc | apply Kd.R_drewN | apply Kd.R_drew));exact HO_10.out⟩,⟨q15_⟩,⟨q21_⟩⟩
      ·replace c85:=Bool.eq_false_iff.mpr c85;subst c85;have H1 : (laws_FnNames.j2 kj11 l1 t102 t106 t108 t111 t112 t120) = some r:=by rw [if_neg (show ¬ (false = true) by decide)] at H;exact H
       clear H;have H:=H1;clear H1;have H' := Aside0.mk H;clear H;go_wp2;go_meet
       case rel=>exact ⟨_,H', ⟨by have:=HJ11.out;first | omega | exact Nat.le_refl _⟩,⟨q7_⟩,⟨q6_⟩,⟨by (with_reducible repeat (first | apply Kd.R_alloc | apply Kd.R_drewN | apply Kd.R_drew));exact HO_10.out⟩,⟨q15_⟩,⟨q21_⟩⟩
     case rest=>as_aux_lemma =>
      clear HC84;try clear c1
      try clear c4
      try clear c21
      try clear c21b0
      try clear c21b1
      try clear c21b2
      try clear c23
      try clear c24
      try clear c24b0
      try clear c24b1
      try clear c25
      try clear c25b0
      try clear c25b1
      try clear c25b2
      try clear c29
      try clear c30
      try clear c30b0
      try clear c30b1
      try clear c30b2
      try clear c36
      try clear c38
      try clear c38b0
      try clear c38b1
      try clear c38b2
      try clear c46
      try clear c46b0
      try clear c46b1
      try clear c46b2
      try clear c54
      try clear c83
      try clear c85
      try clear c86
      try clear c86b0
      try clear c86b1
      try clear c86b2
      try clear c89
      try clear c89b0
      try clear c90
      try clear c90b0
      try clear c91
      try clear c91b0
      try clear c92
      try clear c92b0
      try clear c92b1
      try clear c94
      try clear c95
      try clear c95b0
      try clear c95b1
      try clear c97
      try clear hx136_0
      try clear hx137_0
      try clear hx139_0
      try clear p136
      try clear p137
      try clear p139
      try clear q136
      try clear q137
      try clear q139
      obtain ⟨kq,HA,HJ83,HO_5,HO_7,HO_10,HO_15,HB⟩:=hcut;cases kq with
      | zero=>exact absurd HA.out (by simp [laws_FnNames.j2])
      | succ kj83 =>
       have H:=HA.out;clear HA;simp only [laws_FnNames.j2] at H;have HC98:=Aside0.mk H;clear H;go_upto_if 173 with (fail)
       go_cut [] (fun wc=>∃ (kq : Nat),Aside0 (laws_FnNames.j5 kq l1 = some r) ∧ Aside0 (kq ≤ kj83) ∧ Aside0 (Below w.heap.size w wc))
       case first=>as_aux_lemma =>
        have H:=HC98.out;clear HC98;by_cases c99 : t108 = true
        ·subst c99;have H1 : ((impl_ClashesOf.f kj83 t106).bind fun bt141=>(if bt141.2 = true then (if (bt141.1.length : Int) > 0 then (laws_FnNames.j3 kj83 l1 t102 t111 t120 true) else (if t112 = (t120.length : Int) then (laws_FnNames.j3 kj83 l1 t102 t111 t120 ((t111.length : Int) != (t102.length : Int))) else (laws_FnNames.j3 kj83 l1 t102 t111 t120 true))) else (laws_FnNames.j3 kj83 l1 t102 t111 t120 true))) = some r:=by rw [if_pos rfl] at H;exact H
         clear H;have H:=H1;clear H1;replace H:=Option.bind_eq_some_iff.mp H;obtain ⟨⟨t141,t142⟩,A1000,H⟩:=H;(try dsimp only at H);have A100:=Aside0.mk A1000;clear A1000;have HC101:=Aside0.mk H;clear H;obtain ⟨Ao102,co102,eo102⟩:=Kd.R_slice HO_7.out;subst eo102;go_upto_region 23 with (first | ((with_reducible refine gate_callee (f:=53) rfl ?_);refine goesL_ (some 176) rfl rfl Try.func53 (by kernel_rfl) rfl #[.slice Ao102 t106.length co102] rfl (q22_) ?_;(with_reducible refine (impl_ClashesOf.calls kj83 _ _ t106 t141 t142 _ ?side1 ?side2 A100.out).mono ?_);(case side1=>exact cX_ (Kd.R_reads' HO_7.out).2.2);(case side2=>exact (Kd.R_reads' HO_7.out).2.1);rintro e w103 ⟨v143,rfl,ho0,hb⟩;refine ⟨_,rfl,?_⟩;replace HO_5:=rB_ HO_5 hb;replace HO_7:=rB_ HO_7 hb;replace HO_10:=rB_ HO_10 hb;have HO144:=Aside0.mk (Kd.S_lower (Kd.S_new' ho0 (Kd.R_lt (q15_))) (below_size (q21_)));replace HO_15:=rB_ HO_15 hb;replace HB:=bS_ HB hb;(try clear hb);(try clear ho0)))
         (try simp only [Act.put,List.setIfInBounds_toArray,List.set_cons_zero,List.set_cons_succ])
         go_cut [198] (fun v198 wc=>∃ (kq : Nat) (x198_100 : Bool),v198 = .bool x198_100 ∧ Aside0 (laws_FnNames.j3 kq l1 t102 t111 t120 x198_100 = some r) ∧ Aside0 (kq ≤ kj83) ∧ Aside0 (Kd.R k77 77 wc w.heap.size (fun k_=>some k_ ≠ (v114 : Value).ownBlock) (.slice Ao14 t102.length co14) t102) ∧ Aside0 (Kd.R k77 77 wc w.heap.size (fun k_=>some k_ ≠ ((.slice Ao14 t102.length co14) : Value).ownBlock) v114 t111) ∧ Aside0 (Kd.R (Kd.int .i64) 3 wc w.heap.size (fun _=>True) v122 t120) ∧ Aside0 (Below w.heap.size w wc))
         case first=>as_aux_lemma =>
          have H:=HC101.out;clear HC101;by_cases c104 : t142 = true
          ·subst c104;have H1 : (if (t141.length : Int) > 0 then (laws_FnNames.j3 kj83 l1 t102 t111 t120 true) else (if t112 = (t120.length : Int) then (laws_FnNames.j3 kj83 l1 t102 t111 t120 ((t111.length : Int) != (t102.length : Int))) else (laws_FnNames.j3 kj83 l1 t102 t111 t120 true))) = some r:=by rw [if_pos rfl] at H;exact H
           clear H;have H:=H1;clear H1;by_cases c105 : (t141.length : Int) > 0
           ·rw [if_pos c105] at H;have c105b0 : decide (0 < (t141.length : Int)) = true:=decide_eq_true c105;have c105b1 : decide (0 < t141.length) = true:=decide_eq_true (by omega);clear c105
            (first | rw [c105b0] | (simp only [i64_w,i32_w];rw [c105b0]) | skip)
            first | with_reducible exact (laws_FnNames.j0_no H ht_.out).elim | with_reducible exact (laws_FnNames.j6_no H ht_.out).elim | with_reducible exact (laws_FnNames.j8_no H ht_.out).elim | with_reducible exact (laws_FnNames.j3_no H ht_.out).elim
           ·rw [if_neg c105] at H;have c105b0 : decide (0 < (t141.length : Int)) = false:=decide_eq_false c105;have c105b1 : decide (0 < t141.length) = false:=decide_eq_false (by omega);clear c105
            (first | rw [c105b0] | (simp only [i64_w,i32_w];rw [c105b0]) | skip)
            by_cases c107 : t112 = (t120.length : Int)
            ·rw [if_pos c107] at H;have c107b0 : (t112 == (t120.length : Int)) = true:=beq_iff_eq.mpr c107;have c107b1 : (t112 != (t120.length : Int)) = false:=bne_eq_false_iff_eq.mpr c107;clear c107;have H' := Aside0.mk H;clear H;obtain ⟨Ao108,co108,eo108⟩:=Kd.S_slice HO144.out;subst eo108;obtain ⟨Ao109,co109,eo109⟩:=Kd.R_slice HO_15.out;subst eo109;obtain ⟨Ao110,co110,eo110⟩:=Kd.R_slice HO_10.out;subst eo110;go_wp2;go_meet
             case rel=>exact ⟨_,(((t111.length : Int) != (t102.length : Int))),(q1_),H', ⟨by have:=HJ11.out;have:=HJ83.out;first | omega | exact Nat.le_refl _⟩,⟨by (with_reducible repeat (first | apply Kd.R_alloc | apply Kd.R_drewN | apply Kd.R_drew));exact Kd.R_mono HO_5.out (fun _ hk=>hk.2)⟩,⟨by (with_reducible repeat (first | apply Kd.R_alloc | apply Kd.R_drewN | apply Kd.R_drew));exact Kd.R_mono HO_10.out (fun _ hk=>hk.1)⟩,⟨q15_⟩,⟨q21_⟩⟩
            ·rw [if_neg c107] at H;have c107b0 : (t112 == (t120.length : Int)) = false:=beq_eq_false_iff_ne.mpr c107;have c107b1 : (t112 != (t120.length : Int)) = true:=bne_iff_ne.mpr c107;first | with_reducible exact (laws_FnNames.j0_no H ht_.out).elim | with_reducible exact (laws_FnNames.j6_no H ht_.out).elim | with_reducible exact (laws_FnNames.j8_no H ht_.out).elim | with_reducible exact (laws_FnNames.j3_no H ht_.out).elim
          ·replace c104:=Bool.eq_false_iff.mpr c104;subst c104;have H1 : (laws_FnNames.j3 kj83 l1 t102 t111 t120 true) = some r:=by rw [if_neg (show ¬ (false = true) by decide)] at H;exact H
           clear H;have H:=H1;clear H1;first | with_reducible exact (laws_FnNames.j0_no H ht_.out).elim | with_reducible exact (laws_FnNames.j6_no H ht_.out).elim | with_reducible exact (laws_FnNames.j8_no H ht_.out).elim | with_reducible exact (laws_FnNames.j3_no H ht_.out).elim
         case rest=>as_aux_lemma =>
          clear HC101;try clear c1
          try clear c4
          try clear c21
          try clear c21b0
          try clear c21b1
          try clear c21b2
          try clear c23
          try clear c24
          try clear c24b0
          try clear c24b1
          try clear c25
          try clear c25b0
          try clear c25b1
          try clear c25b2
          try clear c29
          try clear c30
          try clear c30b0
          try clear c30b1
          try clear c30b2
          try clear c36
          try clear c38
          try clear c38b0
          try clear c38b1
          try clear c38b2
          try clear c46
          try clear c46b0
          try clear c46b1
          try clear c46b2
          try clear c54
          try clear c83
          try clear c85
          try clear c86
          try clear c86b0
          try clear c86b1
          try clear c86b2
          try clear c89
          try clear c89b0
          try clear c90
          try clear c90b0
          try clear c91
          try clear c91b0
          try clear c92
          try clear c92b0
          try clear c92b1
          try clear c94
          try clear c95
          try clear c95b0
          try clear c95b1
          try clear c97
          try clear c99
          try clear c104
          try clear c105
          try clear c105b0
          try clear c105b1
          try clear c107
          try clear c107b0
          try clear c107b1
          try clear hx136_0
          try clear hx137_0
          try clear hx139_0
          try clear p136
          try clear p137
          try clear p139
          try clear q136
          try clear q137
          try clear q139
          obtain ⟨kq,x198_100,rfl,HA,HJ100,HO_5,HO_10,HO_15,HB⟩:=hcut;cases kq with
          | zero=>exact absurd HA.out (by simp [laws_FnNames.j3])
          | succ kj100 =>
           have H:=HA.out;clear HA;simp only [laws_FnNames.j3] at H;by_cases c113 : x198_100 = true
           ·subst c113;have H1 : (some false) = some r:=by rw [if_pos rfl] at H;exact H
            clear H;have H:=H1;clear H1;exact absurd (Option.some.inj H) (by rw [ht_.out];decide)
           ·replace c113:=Bool.eq_false_iff.mpr c113;subst c113;have H1 : (laws_FnNames.l1 kj100 l1 t102 t120 t111 (t111.length : Int) 0) = some r:=by rw [if_neg (show ¬ (false = true) by decide)] at H;exact H
            clear H;have H:=H1;clear H1;have H' := Aside0.mk H;clear H;obtain ⟨Ao114,co114,eo114⟩:=Kd.R_slice HO_10.out;subst eo114;go_wp2;go_loopg [201] kj100 (fun kq v201 w' => ∃ (x201_4 : Int),v201 = .int .i64 x201_4 ∧ Aside0 (laws_FnNames.l1 kq l1 t102 t120 t111 (t111.length : Int) x201_4 = some r) ∧ Aside0 (kq ≤ kj100) ∧ Aside0 (Kd.R k77 77 w' w.heap.size (fun k_=>some k_ ≠ ((.slice Ao114 t111.length co114) : Value).ownBlock) (.slice Ao14 t102.length co14) t102) ∧ Aside0 (Kd.R (Kd.int .i64) 3 w' w.heap.size (fun _=>True) v122 t120) ∧ Aside0 (Kd.R k77 77 w' w.heap.size (fun k_=>some k_ ≠ ((.slice Ao14 t102.length co14) : Value).ownBlock) (.slice Ao114 t111.length co114) t111) ∧ Aside0 (Below w.heap.size w w'))
            case atStart=>exact ⟨(0),(q1_),H', ⟨Nat.le_refl _⟩,⟨q7_⟩,⟨q15_⟩,⟨by (with_reducible repeat (first | apply Kd.R_alloc | apply Kd.R_drewN | apply Kd.R_drew));exact HO_10.out⟩,⟨q21_⟩⟩
            case round =>
             clear H';try clear c1
             try clear c4
             try clear c21
             try clear c21b0
             try clear c21b1
             try clear c21b2
             try clear c23
             try clear c24
             try clear c24b0
             try clear c24b1
             try clear c25
             try clear c25b0
             try clear c25b1
             try clear c25b2
             try clear c29
             try clear c30
             try clear c30b0
             try clear c30b1
             try clear c30b2
             try clear c36
             try clear c38
             try clear c38b0
             try clear c38b1
             try clear c38b2
             try clear c46
             try clear c46b0
             try clear c46b1
             try clear c46b2
             try clear c54
             try clear c83
             try clear c85
             try clear c86
             try clear c86b0
             try clear c86b1
             try clear c86b2
             try clear c89
             try clear c89b0
             try clear c90
             try clear c90b0
             try clear c91
             try clear c91b0
             try clear c92
             try clear c92b0
             try clear c92b1
             try clear c94
             try clear c95
             try clear c95b0
             try clear c95b1
             try clear c97
             try clear c99
             try clear c104
             try clear c105
             try clear c105b0
             try clear c105b1
             try clear c107
             try clear c107b0
             try clear c107b1
             try clear c113
             try clear hx136_0
             try clear hx137_0
             try clear hx139_0
             try clear p136
             try clear p137
             try clear p139
             try clear q136
             try clear q137
             try clear q139
             obtain ⟨x201_4,rfl,HA,HK4,HO_5,HO_15,HO_199,HB⟩:=hrel;cases gk with
             | zero=>exact absurd HA.out (by simp [laws_FnNames.l1])
             | succ k4 =>
              have H:=HA.out;clear HA;simp only [laws_FnNames.l1] at H;by_cases c115 : x201_4 < (t111.length : Int)
              ·rw [if_pos c115] at H;have c115b0 : decide (x201_4 < (t111.length : Int)) = true:=decide_eq_true c115;clear c115;by_cases c116 : 0 ≤ x201_4
               ·rw [if_pos c116] at H;have c116b0 : decide (0 ≤ x201_4) = true:=decide_eq_true c116;clear c116;by_cases c117 : x201_4 < (t111.length : Int)
                ·rw [if_pos c117] at H;have c117b0 : decide (x201_4 < (t111.length : Int)) = true:=decide_eq_true c117;clear c117;replace H:=Option.bind_eq_some_iff.mp H;obtain ⟨t147,A1180,H⟩:=H;(try dsimp only at H);have A118:=Aside0.mk A1180;clear A1180;by_cases c119 : t147 = true
                 ·subst c119;have H1 : (if x201_4 < (t102.length : Int) then (if ((rd_T77 t111 x201_4).f0).toList = ((rd_T77 t102 x201_4).f0).toList then (if ((rd_T77 t111 x201_4).f1) = ((rd_T77 t102 x201_4).f1) then (laws_FnNames.l1 k4 l1 t102 t120 t111 (t111.length : Int) (wrap64 (x201_4 + 1))) else (some false)) else (some false)) else (none)) = some r:=by rw [if_pos rfl] at H;exact H
                  clear H;have H:=H1;clear H1;by_cases c120 : x201_4 < (t102.length : Int)
                  ·rw [if_pos c120] at H;have c120b0 : decide (x201_4 < (t102.length : Int)) = true:=decide_eq_true c120;clear c120;by_cases c121 : ((rd_T77 t111 x201_4).f0).toList = ((rd_T77 t102 x201_4).f0).toList
                   ·rw [if_pos c121] at H;have c121b0 : (((rd_T77 t111 x201_4).f0).toList == ((rd_T77 t102 x201_4).f0).toList) = true:=beq_iff_eq.mpr c121;have c121b1 : (((rd_T77 t111 x201_4).f0).toList != ((rd_T77 t102 x201_4).f0).toList) = false:=bne_eq_false_iff_eq.mpr c121;clear c121;by_cases c122 : ((rd_T77 t111 x201_4).f1) = ((rd_T77 t102 x201_4).f1)
                    ·rw [if_pos c122] at H;have c122b0 : (((rd_T77 t111 x201_4).f1) == ((rd_T77 t102 x201_4).f1)) = true:=beq_iff_eq.mpr c122;have c122b1 : (((rd_T77 t111 x201_4).f1) != ((rd_T77 t102 x201_4).f1)) = false:=bne_eq_false_iff_eq.mpr c122;clear c122;have H' := Aside0.mk H;clear H;have p145 : 0 ≤ (x201_4 : Int):=of_decide_eq_true (q2_);have q145 : x201_4 < (t111.length : Int):=of_decide_eq_true (q2_);obtain ⟨ad145,e145,hx145_0,hx145_1,hx145_2,hx145_3⟩:=at_T77 (Kd.R_reads' HO_199.out).2.2 x201_4 p145 q145;cases e145;replace p145:=eq_true p145;replace q145:=eq_true q145;try go_wp2_with (first | ((with_reducible refine gate_dst (N:=26) rfl ?_);(try (refine gate_guard (by rfl) ?_;dsimp only));refine box_event ?hg (N:=26) ?hd (cs:=#[.string (⟨#[]⟩ : ByteArray),.int .i64 0,.int .i64 0,.int .i64 0]) (t:=77) ?hr ?_;(case hd=>rfl);(case hg=>rfl);(case hr=>first | (go_simp;done) | (go_simp;rfl));intro gb146 hg w123 hbox hb;replace HO_5:=Aside0.mk (Kd.R_below (Kd.R_elderB (q7_) gb146 (Nat.le_of_eq hg.symm)) hb);replace HO_15:=rB_ HO_15 hb;replace HO_199:=Aside0.mk (Kd.R_below (Kd.R_elderB (by (with_reducible repeat (first | apply Kd.R_alloc | apply Kd.R_drewN | apply Kd.R_drew));exact HO_199.out) gb146 (Nat.le_of_eq hg.symm)) hb);have BK146:=Aside0.mk (hbox);have GW146:=Aside0.mk ((q49_ : w.heap.size ≤ gb146));have GE146:=Aside0.mk ((q49_ : w.heap.size ≤ gb146));replace HB:=bS_ HB hb;clear hb hbox hg;have hcz124_0 : w123.cell? ⟨gb146,0,none⟩ = some (.string (⟨#[]⟩ : ByteArray)):=(blk_cell BK146.out 0).trans rfl;have hcz124_1 : w123.cell? ⟨gb146,1,none⟩ = some (.int .i64 0):=(blk_cell BK146.out 1).trans rfl;have hcz124_2 : w123.cell? ⟨gb146,2,none⟩ = some (.int .i64 0):=(blk_cell BK146.out 2).trans rfl;have hcz124_3 : w123.cell? ⟨gb146,3,none⟩ = some (.int .i64 0):=(blk_cell BK146.out 3).trans rfl;have hfz124_0:=blk_frozen BK146.out 0;have hal124_0:=MAlive.alive_of hcz124_0;have hfz124_1:=blk_frozen BK146.out 1;have hal124_1:=MAlive.alive_of hcz124_1;have hfz124_2:=blk_frozen BK146.out 2;have hal124_2:=MAlive.alive_of hcz124_2;have hfz124_3:=blk_frozen BK146.out 3;have hal124_3:=MAlive.alive_of hcz124_3))
                     have n0_ : Aside0 (Kd.R k77 77 ((((w123.setCell ⟨gb146,0,none⟩ (.string ((rd_T77 t111 x201_4).f0))).setCell ⟨gb146,1,none⟩ (.int .i64 ((rd_T77 t111 x201_4).f1))).setCell ⟨gb146,2,none⟩ (.int .i64 ((rd_T77 t111 x201_4).f2))).setCell ⟨gb146,3,none⟩ (.int .i64 ((rd_T77 t111 x201_4).f3))) w.heap.size (fun k_=>some k_ ≠ (.slice (some ad145) t111.length co114 : Value).ownBlock ∧ k_ ≠ gb146) (.slice Ao14 t102.length co14) t102):=⟨by (with_reducible repeat (first | apply Kd.R_alloc | apply Kd.R_drewN | apply Kd.R_drew));exact Kd.R_mono (Kd.R_far (p:=⟨gb146,3,none⟩) (Kd.R_far (p:=⟨gb146,2,none⟩) (Kd.R_far (p:=⟨gb146,1,none⟩) (Kd.R_far (p:=⟨gb146,0,none⟩) (Kd.R_mono HO_5.out (fun k_ hk=>(⟨hk,hk.2⟩ : _ ∧ k_ ≠ gb146))) (fun _ hk=>hk.2) (.string ((rd_T77 t111 x201_4).f0))) (fun _ hk=>hk.2) (.int .i64 ((rd_T77 t111 x201_4).f1))) (fun _ hk=>hk.2) (.int .i64 ((rd_T77 t111 x201_4).f2))) (fun _ hk=>hk.2) (.int .i64 ((rd_T77 t111 x201_4).f3))) (fun _ hk=>⟨hk.1.1,hk.1.2⟩)⟩;have n1_ : Aside0 (Kd.R (Kd.int .i64) 3 ((((w123.setCell ⟨gb146,0,none⟩ (.string ((rd_T77 t111 x201_4).f0))).setCell ⟨gb146,1,none⟩ (.int .i64 ((rd_T77 t111 x201_4).f1))).setCell ⟨gb146,2,none⟩ (.int .i64 ((rd_T77 t111 x201_4).f2))).setCell ⟨gb146,3,none⟩ (.int .i64 ((rd_T77 t111 x201_4).f3))) w.heap.size (fun _=>True) v122 t120):=⟨by (with_reducible repeat (first | apply Kd.R_alloc | apply Kd.R_drewN | apply Kd.R_drew));exact Kd.R_mono (Kd.R_far (p:=⟨gb146,3,none⟩) (Kd.R_far (p:=⟨gb146,2,none⟩) (Kd.R_far (p:=⟨gb146,1,none⟩) (Kd.R_far (p:=⟨gb146,0,none⟩) (Kd.R_types HO_15.out BK146.out (by decide)) (fun _ hk=>hk.2) (.string ((rd_T77 t111 x201_4).f0))) (fun _ hk=>hk.2) (.int .i64 ((rd_T77 t111 x201_4).f1))) (fun _ hk=>hk.2) (.int .i64 ((rd_T77 t111 x201_4).f2))) (fun _ hk=>hk.2) (.int .i64 ((rd_T77 t111 x201_4).f3))) (fun _ hk=>trivial)⟩;have n2_ : Aside0 (Kd.R k77 77 ((((w123.setCell ⟨gb146,0,none⟩ (.string ((rd_T77 t111 x201_4).f0))).setCell ⟨gb146,1,none⟩ (.int .i64 ((rd_T77 t111 x201_4).f1))).setCell ⟨gb146,2,none⟩ (.int .i64 ((rd_T77 t111 x201_4).f2))).setCell ⟨gb146,3,none⟩ (.int .i64 ((rd_T77 t111 x201_4).f3))) w.heap.size (fun k_=>some k_ ≠ (.slice Ao14 t102.length co14 : Value).ownBlock ∧ k_ ≠ gb146) (.slice (some ad145) t111.length co114) t111):=⟨by (with_reducible repeat (first | apply Kd.R_alloc | apply Kd.R_drewN | apply Kd.R_drew));exact Kd.R_mono (Kd.R_far (p:=⟨gb146,3,none⟩) (Kd.R_far (p:=⟨gb146,2,none⟩) (Kd.R_far (p:=⟨gb146,1,none⟩) (Kd.R_far (p:=⟨gb146,0,none⟩) (Kd.R_mono HO_199.out (fun k_ hk=>(⟨hk,hk.2⟩ : _ ∧ k_ ≠ gb146))) (fun _ hk=>hk.2) (.string ((rd_T77 t111 x201_4).f0))) (fun _ hk=>hk.2) (.int .i64 ((rd_T77 t111 x201_4).f1))) (fun _ hk=>hk.2) (.int .i64 ((rd_T77 t111 x201_4).f2))) (fun _ hk=>hk.2) (.int .i64 ((rd_T77 t111 x201_4).f3))) (fun _ hk=>⟨hk.1.1,hk.1.2⟩)⟩;have n3_ : Aside0 (((((w123.setCell ⟨gb146,0,none⟩ (.string ((rd_T77 t111 x201_4).f0))).setCell ⟨gb146,1,none⟩ (.int .i64 ((rd_T77 t111 x201_4).f1))).setCell ⟨gb146,2,none⟩ (.int .i64 ((rd_T77 t111 x201_4).f2))).setCell ⟨gb146,3,none⟩ (.int .i64 ((rd_T77 t111 x201_4).f3))).heap[gb146]? = some (.cells #[.string ((rd_T77 t111 x201_4).f0),.int .i64 ((rd_T77 t111 x201_4).f1),.int .i64 ((rd_T77 t111 x201_4).f2),.int .i64 ((rd_T77 t111 x201_4).f3)] 77 (0,0))):=⟨by (with_reducible repeat (first | refine blk_drewN ?_ _ | refine blk_drew ?_ | refine blk_alloc ?_ _));refine blk_put (cs:=#[.string ((rd_T77 t111 x201_4).f0),.int .i64 ((rd_T77 t111 x201_4).f1),.int .i64 ((rd_T77 t111 x201_4).f2),.int .i64 0]) ?_ 3 _ rfl;(with_reducible repeat (first | refine blk_drewN ?_ _ | refine blk_drew ?_ | refine blk_alloc ?_ _));refine blk_put (cs:=#[.string ((rd_T77 t111 x201_4).f0),.int .i64 ((rd_T77 t111 x201_4).f1),.int .i64 0,.int .i64 0]) ?_ 2 _ rfl;(with_reducible repeat (first | refine blk_drewN ?_ _ | refine blk_drew ?_ | refine blk_alloc ?_ _));refine blk_put (cs:=#[.string ((rd_T77 t111 x201_4).f0),.int .i64 0,.int .i64 0,.int .i64 0]) ?_ 1 _ rfl;(with_reducible repeat (first | refine blk_drewN ?_ _ | refine blk_drew ?_ | refine blk_alloc ?_ _));refine blk_put (cs:=#[.string (⟨#[]⟩ : ByteArray),.int .i64 0,.int .i64 0,.int .i64 0]) ?_ 0 _ rfl;(with_reducible repeat (first | refine blk_drewN ?_ _ | refine blk_drew ?_ | refine blk_alloc ?_ _));exact BK146.out⟩;have n4_ : Aside0 (Below w.heap.size w ((((w123.setCell ⟨gb146,0,none⟩ (.string ((rd_T77 t111 x201_4).f0))).setCell ⟨gb146,1,none⟩ (.int .i64 ((rd_T77 t111 x201_4).f1))).setCell ⟨gb146,2,none⟩ (.int .i64 ((rd_T77 t111 x201_4).f2))).setCell ⟨gb146,3,none⟩ (.int .i64 ((rd_T77 t111 x201_4).f3)))):=⟨by repeat (first | (with_reducible first | exact HB.out | apply below_alloc | apply pw_below_drewN | apply below_drew1 | refine below_set ?_ GE146.out) | exact HB.out)⟩
                     (try clear HO_5)
                     (try clear HO_15)
                     (try clear HO_199)
                     (try clear BK146)
                     (try clear HB)
                     generalize ((((w123.setCell ⟨gb146,0,none⟩ (.string ((rd_T77 t111 x201_4).f0))).setCell ⟨gb146,1,none⟩ (.int .i64 ((rd_T77 t111 x201_4).f1))).setCell ⟨gb146,2,none⟩ (.int .i64 ((rd_T77 t111 x201_4).f2))).setCell ⟨gb146,3,none⟩ (.int .i64 ((rd_T77 t111 x201_4).f3))) = w125 at n0_ n1_ n2_ n3_ n4_ ⊢;have HO_5:=n0_;have HO_15:=n1_;have HO_199:=n2_;have BK146:=n3_;have HB:=n4_;clear n0_ n1_ n2_ n3_ n4_;replace HO_5:=Aside0.mk (Kd.R_drew HO_5.out);replace HO_15:=Aside0.mk (Kd.R_drew HO_15.out);replace HO_199:=Aside0.mk (Kd.R_drew HO_199.out);replace BK146:=Aside0.mk (blk_drew BK146.out);replace HB:=Aside0.mk (below_drew1 HB.out);obtain ⟨Ao127,co127,eo127⟩:=Kd.R_slice HO_15.out
                     (first | subst eo127 | (injection eo127 with f1_ f2_ f3_;have f4_:=f1_.symm;have f5_:=f3_.symm;clear f1_ f2_ f3_;subst f4_;subst f5_))
                     have p148 : 0 ≤ (x201_4 : Int):=of_decide_eq_true (q2_);have q148 : x201_4 < (t102.length : Int):=of_decide_eq_true (q2_);obtain ⟨ad148,e148,hx148_0,hx148_1,hx148_2,hx148_3⟩:=at_T77 (Kd.R_reads' HO_5.out).2.2 x201_4 p148 q148;cases e148;replace p148:=eq_true p148;replace q148:=eq_true q148;have p149 : 0 ≤ (x201_4 : Int):=of_decide_eq_true (q2_);have q149 : x201_4 < (t102.length : Int):=of_decide_eq_true (q2_);obtain ⟨ad149,e149,hx149_0,hx149_1,hx149_2,hx149_3⟩:=at_T77 (Kd.R_reads' HO_5.out).2.2 x201_4 p149 q149;obtain rfl : ad148 = ad149:=(by injection e149);replace p149:=eq_true p149;replace q149:=eq_true q149;refine start_ (n:=32) (S:=fun w' => w'.cell? ⟨gb146,0,none⟩ = some (.string ((rd_T77 t111 x201_4).f0)) ∧ w'.cell? ⟨gb146,1,none⟩ = some (.int .i64 ((rd_T77 t111 x201_4).f1)) ∧ w'.cell? ⟨gb146,2,none⟩ = some (.int .i64 ((rd_T77 t111 x201_4).f2)) ∧ w'.cell? ⟨gb146,3,none⟩ = some (.int .i64 ((rd_T77 t111 x201_4).f3)) ∧ w'.cell? (ad148.add ((x201_4).toNat * 4)) = some (.string ((rd_T77 t102 x201_4).f0)) ∧ w'.cell? ⟨(ad148.add ((x201_4).toNat * 4)).block,(ad148.add ((x201_4).toNat * 4)).off + 1,none⟩ = some (.int .i64 ((rd_T77 t102 x201_4).f1)) ∧ w'.cell? ⟨(ad148.add ((x201_4).toNat * 4)).block,(ad148.add ((x201_4).toNat * 4)).off + 2,none⟩ = some (.int .i64 ((rd_T77 t102 x201_4).f2)) ∧ w'.cell? ⟨(ad148.add ((x201_4).toNat * 4)).block,(ad148.add ((x201_4).toNat * 4)).off + 3,none⟩ = some (.int .i64 ((rd_T77 t102 x201_4).f3)) ∧ w'.cell? (ad148.add ((x201_4).toNat * 4)) = some (.string ((rd_T77 t102 x201_4).f0)) ∧ w'.cell? ⟨(ad148.add ((x201_4).toNat * 4)).block,(ad148.add ((x201_4).toNat * 4)).off + 1,none⟩ = some (.int .i64 ((rd_T77 t102 x201_4).f1)) ∧ w'.cell? ⟨(ad148.add ((x201_4).toNat * 4)).block,(ad148.add ((x201_4).toNat * 4)).off + 2,none⟩ = some (.int .i64 ((rd_T77 t102 x201_4).f2)) ∧ w'.cell? ⟨(ad148.add ((x201_4).toNat * 4)).block,(ad148.add ((x201_4).toNat * 4)).off + 3,none⟩ = some (.int .i64 ((rd_T77 t102 x201_4).f3))) (ds:=[]) f25_ (by kernel_rfl) rfl rfl ⟨(blk_cell BK146.out 0).trans rfl,(blk_cell BK146.out 1).trans rfl,(blk_cell BK146.out 2).trans rfl,(blk_cell BK146.out 3).trans rfl,hx148_0,hx148_1,hx148_2,hx148_3,hx149_0,hx149_1,hx149_2,hx149_3⟩ (fun hHeld=>?_);refine with_tabW laws_FnNames.tab28 laws_FnNames.bits28 (fun HT_ HW_=>?_);generalize w125.drew = w126 at HO_5 HO_15 HO_199 BK146 HB hx148_0 hx148_1 hx148_2 hx148_3 hx149_0 hx149_1 hx149_2 hx149_3 hHeld ⊢;refine pure_ (i:=0) (N:=some 206) (v:=?_) (a' := ?_) f26_ rfl rfl (any_of HT_.out (by kernel_rfl)) (fun _ _ _ h=>h) (Or.inl ⟨by rfl,?_⟩) ?_ ?_;rotate_left
                     ·intro w';go_simp;with_reducible rfl
                     rotate_left
                     ·exact q56_
                     refine pa_ 1 207 f27_ ?_
                     refine one_ (i:=2) (N:=some 208) f28_ rfl rfl (one_of HT_.out (by kernel_rfl)) (by decide) (fun K hK=>?_);refine goes_ Try.func59 (by kernel_rfl) rfl #[.slice Ao127 t120.length co127,.int .i64 x201_4] (by rfl) rfl rfl (q22_) ?_
                     with_reducible refine (laws_pIn.calls k4 _ _ t120 x201_4 true _ ?side1 ?side2 A118.out).mono ?_
                     (case side1=>exact cX_ (Kd.R_reads' HO_15.out).2.2)
                     (case side2=>exact (Kd.R_reads' HO_15.out).2.1)
                     rintro e w' ⟨rfl,⟨nd,rfl⟩⟩;refine ⟨_,rfl,?_⟩;refine hK.out _ _ ⟨(blk_cell BK146.out 0).trans rfl,(blk_cell BK146.out 1).trans rfl,(blk_cell BK146.out 2).trans rfl,(blk_cell BK146.out 3).trans rfl,hHeld.2.2.2.2.1,hHeld.2.2.2.2.2.1,hHeld.2.2.2.2.2.2.1,hHeld.2.2.2.2.2.2.2.1,hHeld.2.2.2.2.2.2.2.2.1,hHeld.2.2.2.2.2.2.2.2.2.1,hHeld.2.2.2.2.2.2.2.2.2.2.1,hHeld.2.2.2.2.2.2.2.2.2.2.2⟩ (fun hHeld=>?_);clear hK K;refine norm_ (a' := ?_) ?_ ?_;rotate_left
                     ·show Act.put _ (some 208) _ = _;simp only [Act.put,List.setIfInBounds_toArray,List.set_cons_zero,List.set_cons_succ,i64_w,i32_w];rfl
                     refine pa_ 3 209 f29_ ?_
                     refine pa_ 4 210 f30_ ?_
                     refine pu_ 5 211 f31_ ?_
                     refine pu_ 6 212 f32_ ?_
                     refine pu_ 7 213 f33_ ?_
                     refine pu_ 8 214 f34_ ?_
                     refine pu_ 9 215 f35_ ?_
                     refine pu_ 10 216 f36_ ?_
                     refine pa_ 11 217 f37_ ?_
                     refine pa_ 12 218 f38_ ?_
                     refine pa_ 13 219 f39_ ?_
                     refine pa_ 15 221 f40_ ?_
                     refine pa_ 16 222 f41_ ?_
                     refine pa_ 17 223 f42_ ?_
                     refine pa_ 18 224 f43_ ?_
                     refine take_ (i:=14) (N:=some 220) (v:=?_) (a' := ?_) f44_ rfl rfl (take_ofW HT_.out HW_.out (by kernel_rfl)) (fun _ _ _ h=>h) (Or.inl ⟨by rfl,?_⟩) hHeld ?_ ?_;rotate_left
                     ·rintro w' ⟨s0,s1,s2,s3,s4,s5,s6,s7,s8,s9,s10,s11⟩;go_simp;with_reducible rfl
                     rotate_left
                     ·exact q56_
                     refine take_ (i:=19) (N:=some 225) (v:=?_) (a' := ?_) f45_ rfl rfl (take_ofW HT_.out HW_.out (by kernel_rfl)) (fun _ _ _ h=>h) (Or.inl ⟨by rfl,?_⟩) hHeld ?_ ?_;rotate_left
                     ·rintro w' ⟨s0,s1,s2,s3,s4,s5,s6,s7,s8,s9,s10,s11⟩;go_simp;with_reducible rfl
                     rotate_left
                     ·exact q56_
                     refine pa_ 20 226 f46_ ?_
                     refine pa_ 21 227 f47_ ?_
                     refine pa_ 22 228 f48_ ?_
                     refine pa_ 23 229 f49_ ?_
                     refine pa_ 25 231 f50_ ?_
                     refine pa_ 26 232 f51_ ?_
                     refine pa_ 27 233 f52_ ?_
                     refine pa_ 28 234 f53_ ?_
                     refine take_ (i:=24) (N:=some 230) (v:=?_) (a' := ?_) f54_ rfl rfl (take_ofW HT_.out HW_.out (by kernel_rfl)) (fun _ _ _ h=>h) (Or.inl ⟨by rfl,?_⟩) hHeld ?_ ?_;rotate_left
                     ·rintro w' ⟨s0,s1,s2,s3,s4,s5,s6,s7,s8,s9,s10,s11⟩;go_simp;with_reducible rfl
                     rotate_left
                     ·exact q56_
                     refine take_ (i:=29) (N:=some 235) (v:=?_) (a' := ?_) f55_ rfl rfl (take_ofW HT_.out HW_.out (by kernel_rfl)) (fun _ _ _ h=>h) (Or.inl ⟨by rfl,?_⟩) hHeld ?_ ?_;rotate_left
                     ·rintro w' ⟨s0,s1,s2,s3,s4,s5,s6,s7,s8,s9,s10,s11⟩;go_simp;with_reducible rfl
                     rotate_left
                     ·exact q56_
                     refine pa_ 30 236 f56_ ?_
                     refine pa_ 31 237 f57_ ?_
                     refine done_ (done_of HT_.out (by kernel_rfl)) ?_;try go_wp2
                     go_roundg k4
                     case measure=>have:=HJ11.out;have:=HJ83.out;have:=HJ100.out;have:=HK4.out;omega
                     case rel=>exact ⟨(wrap64 (x201_4 + 1)),(q1_),H', ⟨by have:=HJ11.out;have:=HJ83.out;have:=HJ100.out;have:=HK4.out;omega⟩,⟨by (with_reducible repeat (first | apply Kd.R_alloc | apply Kd.R_drewN | apply Kd.R_drew));exact Kd.R_mono HO_5.out (fun _ hk=>hk.1)⟩,⟨q15_⟩,⟨by (with_reducible repeat (first | apply Kd.R_alloc | apply Kd.R_drewN | apply Kd.R_drew));exact Kd.R_mono HO_199.out (fun _ hk=>hk.1)⟩,⟨by repeat (first | (with_reducible first | exact HB.out | apply below_alloc | apply pw_below_drewN | apply below_drew1 | refine below_set ?_ GE146.out) | exact HB.out)⟩⟩
                    ·rw [if_neg c122] at H;have c122b0 : (((rd_T77 t111 x201_4).f1) == ((rd_T77 t102 x201_4).f1)) = false:=beq_eq_false_iff_ne.mpr c122;have c122b1 : (((rd_T77 t111 x201_4).f1) != ((rd_T77 t102 x201_4).f1)) = true:=bne_iff_ne.mpr c122;exact absurd (Option.some.inj H) (by rw [ht_.out];decide)
                   ·rw [if_neg c121] at H;have c121b0 : (((rd_T77 t111 x201_4).f0).toList == ((rd_T77 t102 x201_4).f0).toList) = false:=beq_eq_false_iff_ne.mpr c121;have c121b1 : (((rd_T77 t111 x201_4).f0).toList != ((rd_T77 t102 x201_4).f0).toList) = true:=bne_iff_ne.mpr c121;exact absurd (Option.some.inj H) (by rw [ht_.out];decide)
                  ·rw [if_neg c120] at H;exact absurd H (by simp)
                 ·replace c119:=Bool.eq_false_iff.mpr c119;subst c119;have H1 : (if x201_4 < (t102.length : Int) then (if (!((((rd_T77 t111 x201_4).f0).toList) == (((rd_T77 t102 x201_4).f0).toList)) || (!(((rd_T77 t111 x201_4).f1) == ((rd_T77 t102 x201_4).f1)) || (!(((rd_T77 t111 x201_4).f2) == ((rd_T77 t102 x201_4).f2)) || (!(((rd_T77 t111 x201_4).f3) == ((rd_T77 t102 x201_4).f3)))))) = true then (some false) else (if ((rd_T77 t111 x201_4).f0).toList = ((rd_T77 t102 x201_4).f0).toList then (if ((rd_T77 t111 x201_4).f1) = ((rd_T77 t102 x201_4).f1) then (laws_FnNames.l1 k4 l1 t102 t120 t111 (t111.length : Int) (wrap64 (x201_4 + 1))) else (some false)) else (some false))) else (none)) = some r:=by rw [if_neg (show ¬ (false = true) by decide)] at H;exact H
                  clear H;have H:=H1;clear H1;by_cases c128 : x201_4 < (t102.length : Int)
                  ·rw [if_pos c128] at H;have c128b0 : decide (x201_4 < (t102.length : Int)) = true:=decide_eq_true c128;clear c128;by_cases c129 : (!((((rd_T77 t111 x201_4).f0).toList) == (((rd_T77 t102 x201_4).f0).toList)) || (!(((rd_T77 t111 x201_4).f1) == ((rd_T77 t102 x201_4).f1)) || (!(((rd_T77 t111 x201_4).f2) == ((rd_T77 t102 x201_4).f2)) || (!(((rd_T77 t111 x201_4).f3) == ((rd_T77 t102 x201_4).f3)))))) = true
                   ·rw [if_pos c129] at H;have c129b0 : (!((((rd_T77 t111 x201_4).f0).toList) == (((rd_T77 t102 x201_4).f0).toList)) || (!(((rd_T77 t111 x201_4).f1) == ((rd_T77 t102 x201_4).f1)) || (!(((rd_T77 t111 x201_4).f2) == ((rd_T77 t102 x201_4).f2)) || (!(((rd_T77 t111 x201_4).f3) == ((rd_T77 t102 x201_4).f3)))))) = true:=c129;clear c129;exact absurd (Option.some.inj H) (by rw [ht_.out];decide)
                   ·rw [if_neg c129] at H;have c129b0 : (!((((rd_T77 t111 x201_4).f0).toList) == (((rd_T77 t102 x201_4).f0).toList)) || (!(((rd_T77 t111 x201_4).f1) == ((rd_T77 t102 x201_4).f1)) || (!(((rd_T77 t111 x201_4).f2) == ((rd_T77 t102 x201_4).f2)) || (!(((rd_T77 t111 x201_4).f3) == ((rd_T77 t102 x201_4).f3)))))) = false:=by simpa using c129
                    clear c129;by_cases c130 : ((rd_T77 t111 x201_4).f0).toList = ((rd_T77 t102 x201_4).f0).toList
                    ·rw [if_pos c130] at H;have c130b0 : (((rd_T77 t111 x201_4).f0).toList == ((rd_T77 t102 x201_4).f0).toList) = true:=beq_iff_eq.mpr c130;have c130b1 : (((rd_T77 t111 x201_4).f0).toList != ((rd_T77 t102 x201_4).f0).toList) = false:=bne_eq_false_iff_eq.mpr c130;clear c130;by_cases c131 : ((rd_T77 t111 x201_4).f1) = ((rd_T77 t102 x201_4).f1)
                     ·rw [if_pos c131] at H;have c131b0 : (((rd_T77 t111 x201_4).f1) == ((rd_T77 t102 x201_4).f1)) = true:=beq_iff_eq.mpr c131;have c131b1 : (((rd_T77 t111 x201_4).f1) != ((rd_T77 t102 x201_4).f1)) = false:=bne_eq_false_iff_eq.mpr c131;have c129x:=c129b0;rw [c130b0,c131b0] at c129x;simp only [Bool.not_true,Bool.false_or,Bool.or_eq_false_iff,Bool.not_eq_false'] at c129x;obtain ⟨c129y,c129z⟩:=c129x;clear c131;have H' := Aside0.mk H;clear H;have p145 : 0 ≤ (x201_4 : Int):=of_decide_eq_true (q2_);have q145 : x201_4 < (t111.length : Int):=of_decide_eq_true (q2_);obtain ⟨ad145,e145,hx145_0,hx145_1,hx145_2,hx145_3⟩:=at_T77 (Kd.R_reads' HO_199.out).2.2 x201_4 p145 q145;cases e145;replace p145:=eq_true p145;replace q145:=eq_true q145;try go_wp2_with (first | ((with_reducible refine gate_dst (N:=26) rfl ?_);(try (refine gate_guard (by rfl) ?_;dsimp only));refine box_event ?hg (N:=26) ?hd (cs:=#[.string (⟨#[]⟩ : ByteArray),.int .i64 0,.int .i64 0,.int .i64 0]) (t:=77) ?hr ?_;(case hd=>rfl);(case hg=>rfl);(case hr=>first | (go_simp;done) | (go_simp;rfl));intro gb146 hg w132 hbox hb;replace HO_5:=Aside0.mk (Kd.R_below (Kd.R_elderB (q7_) gb146 (Nat.le_of_eq hg.symm)) hb);replace HO_15:=rB_ HO_15 hb;replace HO_199:=Aside0.mk (Kd.R_below (Kd.R_elderB (by (with_reducible repeat (first | apply Kd.R_alloc | apply Kd.R_drewN | apply Kd.R_drew));exact HO_199.out) gb146 (Nat.le_of_eq hg.symm)) hb);have BK146:=Aside0.mk (hbox);have GW146:=Aside0.mk ((q49_ : w.heap.size ≤ gb146));have GE146:=Aside0.mk ((q49_ : w.heap.size ≤ gb146));replace HB:=bS_ HB hb;clear hb hbox hg;have hcz133_0 : w132.cell? ⟨gb146,0,none⟩ = some (.string (⟨#[]⟩ : ByteArray)):=(blk_cell BK146.out 0).trans rfl;have hcz133_1 : w132.cell? ⟨gb146,1,none⟩ = some (.int .i64 0):=(blk_cell BK146.out 1).trans rfl;have hcz133_2 : w132.cell? ⟨gb146,2,none⟩ = some (.int .i64 0):=(blk_cell BK146.out 2).trans rfl;have hcz133_3 : w132.cell? ⟨gb146,3,none⟩ = some (.int .i64 0):=(blk_cell BK146.out 3).trans rfl;have hfz133_0:=blk_frozen BK146.out 0;have hal133_0:=MAlive.alive_of hcz133_0;have hfz133_1:=blk_frozen BK146.out 1;have hal133_1:=MAlive.alive_of hcz133_1;have hfz133_2:=blk_frozen BK146.out 2;have hal133_2:=MAlive.alive_of hcz133_2;have hfz133_3:=blk_frozen BK146.out 3;have hal133_3:=MAlive.alive_of hcz133_3))
                      have n0_ : Aside0 (Kd.R k77 77 ((((w132.setCell ⟨gb146,0,none⟩ (.string ((rd_T77 t111 x201_4).f0))).setCell ⟨gb146,1,none⟩ (.int .i64 ((rd_T77 t111 x201_4).f1))).setCell ⟨gb146,2,none⟩ (.int .i64 ((rd_T77 t111 x201_4).f2))).setCell ⟨gb146,3,none⟩ (.int .i64 ((rd_T77 t111 x201_4).f3))) w.heap.size (fun k_=>some k_ ≠ (.slice (some ad145) t111.length co114 : Value).ownBlock ∧ k_ ≠ gb146) (.slice Ao14 t102.length co14) t102):=⟨by (with_reducible repeat (first | apply Kd.R_alloc | apply Kd.R_drewN | apply Kd.R_drew));exact Kd.R_mono (Kd.R_far (p:=⟨gb146,3,none⟩) (Kd.R_far (p:=⟨gb146,2,none⟩) (Kd.R_far (p:=⟨gb146,1,none⟩) (Kd.R_far (p:=⟨gb146,0,none⟩) (Kd.R_mono HO_5.out (fun k_ hk=>(⟨hk,hk.2⟩ : _ ∧ k_ ≠ gb146))) (fun _ hk=>hk.2) (.string ((rd_T77 t111 x201_4).f0))) (fun _ hk=>hk.2) (.int .i64 ((rd_T77 t111 x201_4).f1))) (fun _ hk=>hk.2) (.int .i64 ((rd_T77 t111 x201_4).f2))) (fun _ hk=>hk.2) (.int .i64 ((rd_T77 t111 x201_4).f3))) (fun _ hk=>⟨hk.1.1,hk.1.2⟩)⟩;have n1_ : Aside0 (Kd.R (Kd.int .i64) 3 ((((w132.setCell ⟨gb146,0,none⟩ (.string ((rd_T77 t111 x201_4).f0))).setCell ⟨gb146,1,none⟩ (.int .i64 ((rd_T77 t111 x201_4).f1))).setCell ⟨gb146,2,none⟩ (.int .i64 ((rd_T77 t111 x201_4).f2))).setCell ⟨gb146,3,none⟩ (.int .i64 ((rd_T77 t111 x201_4).f3))) w.heap.size (fun _=>True) v122 t120):=⟨by (with_reducible repeat (first | apply Kd.R_alloc | apply Kd.R_drewN | apply Kd.R_drew));exact Kd.R_mono (Kd.R_far (p:=⟨gb146,3,none⟩) (Kd.R_far (p:=⟨gb146,2,none⟩) (Kd.R_far (p:=⟨gb146,1,none⟩) (Kd.R_far (p:=⟨gb146,0,none⟩) (Kd.R_types HO_15.out BK146.out (by decide)) (fun _ hk=>hk.2) (.string ((rd_T77 t111 x201_4).f0))) (fun _ hk=>hk.2) (.int .i64 ((rd_T77 t111 x201_4).f1))) (fun _ hk=>hk.2) (.int .i64 ((rd_T77 t111 x201_4).f2))) (fun _ hk=>hk.2) (.int .i64 ((rd_T77 t111 x201_4).f3))) (fun _ hk=>trivial)⟩;have n2_ : Aside0 (Kd.R k77 77 ((((w132.setCell ⟨gb146,0,none⟩ (.string ((rd_T77 t111 x201_4).f0))).setCell ⟨gb146,1,none⟩ (.int .i64 ((rd_T77 t111 x201_4).f1))).setCell ⟨gb146,2,none⟩ (.int .i64 ((rd_T77 t111 x201_4).f2))).setCell ⟨gb146,3,none⟩ (.int .i64 ((rd_T77 t111 x201_4).f3))) w.heap.size (fun k_=>some k_ ≠ (.slice Ao14 t102.length co14 : Value).ownBlock ∧ k_ ≠ gb146) (.slice (some ad145) t111.length co114) t111):=⟨by (with_reducible repeat (first | apply Kd.R_alloc | apply Kd.R_drewN | apply Kd.R_drew));exact Kd.R_mono (Kd.R_far (p:=⟨gb146,3,none⟩) (Kd.R_far (p:=⟨gb146,2,none⟩) (Kd.R_far (p:=⟨gb146,1,none⟩) (Kd.R_far (p:=⟨gb146,0,none⟩) (Kd.R_mono HO_199.out (fun k_ hk=>(⟨hk,hk.2⟩ : _ ∧ k_ ≠ gb146))) (fun _ hk=>hk.2) (.string ((rd_T77 t111 x201_4).f0))) (fun _ hk=>hk.2) (.int .i64 ((rd_T77 t111 x201_4).f1))) (fun _ hk=>hk.2) (.int .i64 ((rd_T77 t111 x201_4).f2))) (fun _ hk=>hk.2) (.int .i64 ((rd_T77 t111 x201_4).f3))) (fun _ hk=>⟨hk.1.1,hk.1.2⟩)⟩;have n3_ : Aside0 (((((w132.setCell ⟨gb146,0,none⟩ (.string ((rd_T77 t111 x201_4).f0))).setCell ⟨gb146,1,none⟩ (.int .i64 ((rd_T77 t111 x201_4).f1))).setCell ⟨gb146,2,none⟩ (.int .i64 ((rd_T77 t111 x201_4).f2))).setCell ⟨gb146,3,none⟩ (.int .i64 ((rd_T77 t111 x201_4).f3))).heap[gb146]? = some (.cells #[.string ((rd_T77 t111 x201_4).f0),.int .i64 ((rd_T77 t111 x201_4).f1),.int .i64 ((rd_T77 t111 x201_4).f2),.int .i64 ((rd_T77 t111 x201_4).f3)] 77 (0,0))):=⟨by (with_reducible repeat (first | refine blk_drewN ?_ _ | refine blk_drew ?_ | refine blk_alloc ?_ _));refine blk_put (cs:=#[.string ((rd_T77 t111 x201_4).f0),.int .i64 ((rd_T77 t111 x201_4).f1),.int .i64 ((rd_T77 t111 x201_4).f2),.int .i64 0]) ?_ 3 _ rfl;(with_reducible repeat (first | refine blk_drewN ?_ _ | refine blk_drew ?_ | refine blk_alloc ?_ _));refine blk_put (cs:=#[.string ((rd_T77 t111 x201_4).f0),.int .i64 ((rd_T77 t111 x201_4).f1),.int .i64 0,.int .i64 0]) ?_ 2 _ rfl;(with_reducible repeat (first | refine blk_drewN ?_ _ | refine blk_drew ?_ | refine blk_alloc ?_ _));refine blk_put (cs:=#[.string ((rd_T77 t111 x201_4).f0),.int .i64 0,.int .i64 0,.int .i64 0]) ?_ 1 _ rfl;(with_reducible repeat (first | refine blk_drewN ?_ _ | refine blk_drew ?_ | refine blk_alloc ?_ _));refine blk_put (cs:=#[.string (⟨#[]⟩ : ByteArray),.int .i64 0,.int .i64 0,.int .i64 0]) ?_ 0 _ rfl;(with_reducible repeat (first | refine blk_drewN ?_ _ | refine blk_drew ?_ | refine blk_alloc ?_ _));exact BK146.out⟩;have n4_ : Aside0 (Below w.heap.size w ((((w132.setCell ⟨gb146,0,none⟩ (.string ((rd_T77 t111 x201_4).f0))).setCell ⟨gb146,1,none⟩ (.int .i64 ((rd_T77 t111 x201_4).f1))).setCell ⟨gb146,2,none⟩ (.int .i64 ((rd_T77 t111 x201_4).f2))).setCell ⟨gb146,3,none⟩ (.int .i64 ((rd_T77 t111 x201_4).f3)))):=⟨by repeat (first | (with_reducible first | exact HB.out | apply below_alloc | apply pw_below_drewN | apply below_drew1 | refine below_set ?_ GE146.out) | exact HB.out)⟩
                      (try clear HO_5)
                      (try clear HO_15)
                      (try clear HO_199)
                      (try clear BK146)
                      (try clear HB)
                      generalize ((((w132.setCell ⟨gb146,0,none⟩ (.string ((rd_T77 t111 x201_4).f0))).setCell ⟨gb146,1,none⟩ (.int .i64 ((rd_T77 t111 x201_4).f1))).setCell ⟨gb146,2,none⟩ (.int .i64 ((rd_T77 t111 x201_4).f2))).setCell ⟨gb146,3,none⟩ (.int .i64 ((rd_T77 t111 x201_4).f3))) = w134 at n0_ n1_ n2_ n3_ n4_ ⊢;have HO_5:=n0_;have HO_15:=n1_;have HO_199:=n2_;have BK146:=n3_;have HB:=n4_;clear n0_ n1_ n2_ n3_ n4_;replace HO_5:=Aside0.mk (Kd.R_drew HO_5.out);replace HO_15:=Aside0.mk (Kd.R_drew HO_15.out);replace HO_199:=Aside0.mk (Kd.R_drew HO_199.out);replace BK146:=Aside0.mk (blk_drew BK146.out);replace HB:=Aside0.mk (below_drew1 HB.out);obtain ⟨Ao136,co136,eo136⟩:=Kd.R_slice HO_15.out
                      (first | subst eo136 | (injection eo136 with f1_ f2_ f3_;have f4_:=f1_.symm;have f5_:=f3_.symm;clear f1_ f2_ f3_;subst f4_;subst f5_))
                      have p150 : 0 ≤ (x201_4 : Int):=of_decide_eq_true (q2_);have q150 : x201_4 < (t102.length : Int):=of_decide_eq_true (q2_);obtain ⟨ad150,e150,hx150_0,hx150_1,hx150_2,hx150_3⟩:=at_T77 (Kd.R_reads' HO_5.out).2.2 x201_4 p150 q150;cases e150;replace p150:=eq_true p150;replace q150:=eq_true q150;have p151 : 0 ≤ (x201_4 : Int):=of_decide_eq_true (q2_);have q151 : x201_4 < (t102.length : Int):=of_decide_eq_true (q2_);obtain ⟨ad151,e151,hx151_0,hx151_1,hx151_2,hx151_3⟩:=at_T77 (Kd.R_reads' HO_5.out).2.2 x201_4 p151 q151;obtain rfl : ad150 = ad151:=(by injection e151);replace p151:=eq_true p151;replace q151:=eq_true q151;have p152 : 0 ≤ (x201_4 : Int):=of_decide_eq_true (q2_);have q152 : x201_4 < (t102.length : Int):=of_decide_eq_true (q2_);obtain ⟨ad152,e152,hx152_0,hx152_1,hx152_2,hx152_3⟩:=at_T77 (Kd.R_reads' HO_5.out).2.2 x201_4 p152 q152;obtain rfl : ad150 = ad152:=(by injection e152);replace p152:=eq_true p152;replace q152:=eq_true q152;refine start_ (n:=32) (S:=fun w' => w'.cell? ⟨gb146,0,none⟩ = some (.string ((rd_T77 t111 x201_4).f0)) ∧ w'.cell? ⟨gb146,1,none⟩ = some (.int .i64 ((rd_T77 t111 x201_4).f1)) ∧ w'.cell? ⟨gb146,2,none⟩ = some (.int .i64 ((rd_T77 t111 x201_4).f2)) ∧ w'.cell? ⟨gb146,3,none⟩ = some (.int .i64 ((rd_T77 t111 x201_4).f3)) ∧ w'.cell? (ad150.add ((x201_4).toNat * 4)) = some (.string ((rd_T77 t102 x201_4).f0)) ∧ w'.cell? ⟨(ad150.add ((x201_4).toNat * 4)).block,(ad150.add ((x201_4).toNat * 4)).off + 1,none⟩ = some (.int .i64 ((rd_T77 t102 x201_4).f1)) ∧ w'.cell? ⟨(ad150.add ((x201_4).toNat * 4)).block,(ad150.add ((x201_4).toNat * 4)).off + 2,none⟩ = some (.int .i64 ((rd_T77 t102 x201_4).f2)) ∧ w'.cell? ⟨(ad150.add ((x201_4).toNat * 4)).block,(ad150.add ((x201_4).toNat * 4)).off + 3,none⟩ = some (.int .i64 ((rd_T77 t102 x201_4).f3)) ∧ w'.cell? (ad150.add ((x201_4).toNat * 4)) = some (.string ((rd_T77 t102 x201_4).f0)) ∧ w'.cell? ⟨(ad150.add ((x201_4).toNat * 4)).block,(ad150.add ((x201_4).toNat * 4)).off + 1,none⟩ = some (.int .i64 ((rd_T77 t102 x201_4).f1)) ∧ w'.cell? ⟨(ad150.add ((x201_4).toNat * 4)).block,(ad150.add ((x201_4).toNat * 4)).off + 2,none⟩ = some (.int .i64 ((rd_T77 t102 x201_4).f2)) ∧ w'.cell? ⟨(ad150.add ((x201_4).toNat * 4)).block,(ad150.add ((x201_4).toNat * 4)).off + 3,none⟩ = some (.int .i64 ((rd_T77 t102 x201_4).f3)) ∧ w'.cell? (ad150.add ((x201_4).toNat * 4)) = some (.string ((rd_T77 t102 x201_4).f0)) ∧ w'.cell? ⟨(ad150.add ((x201_4).toNat * 4)).block,(ad150.add ((x201_4).toNat * 4)).off + 1,none⟩ = some (.int .i64 ((rd_T77 t102 x201_4).f1)) ∧ w'.cell? ⟨(ad150.add ((x201_4).toNat * 4)).block,(ad150.add ((x201_4).toNat * 4)).off + 2,none⟩ = some (.int .i64 ((rd_T77 t102 x201_4).f2)) ∧ w'.cell? ⟨(ad150.add ((x201_4).toNat * 4)).block,(ad150.add ((x201_4).toNat * 4)).off + 3,none⟩ = some (.int .i64 ((rd_T77 t102 x201_4).f3))) (ds:=[]) f25_ (by kernel_rfl) rfl rfl ⟨(blk_cell BK146.out 0).trans rfl,(blk_cell BK146.out 1).trans rfl,(blk_cell BK146.out 2).trans rfl,(blk_cell BK146.out 3).trans rfl,hx150_0,hx150_1,hx150_2,hx150_3,hx151_0,hx151_1,hx151_2,hx151_3,hx152_0,hx152_1,hx152_2,hx152_3⟩ (fun hHeld=>?_);refine with_tabW laws_FnNames.tab28 laws_FnNames.bits28 (fun HT_ HW_=>?_);generalize w134.drew = w135 at HO_5 HO_15 HO_199 BK146 HB hx150_0 hx150_1 hx150_2 hx150_3 hx151_0 hx151_1 hx151_2 hx151_3 hx152_0 hx152_1 hx152_2 hx152_3 hHeld ⊢;refine pure_ (i:=0) (N:=some 206) (v:=?_) (a' := ?_) f26_ rfl rfl (any_of HT_.out (by kernel_rfl)) (fun _ _ _ h=>h) (Or.inl ⟨by rfl,?_⟩) ?_ ?_;rotate_left
                      ·intro w';go_simp;with_reducible rfl
                      rotate_left
                      ·exact q56_
                      refine pa_ 1 207 f27_ ?_
                      refine one_ (i:=2) (N:=some 208) f28_ rfl rfl (one_of HT_.out (by kernel_rfl)) (by decide) (fun K hK=>?_);refine goes_ Try.func59 (by kernel_rfl) rfl #[.slice Ao136 t120.length co136,.int .i64 x201_4] (by rfl) rfl rfl (q22_) ?_
                      with_reducible refine (laws_pIn.calls k4 _ _ t120 x201_4 false _ ?side1 ?side2 A118.out).mono ?_
                      (case side1=>exact cX_ (Kd.R_reads' HO_15.out).2.2)
                      (case side2=>exact (Kd.R_reads' HO_15.out).2.1)
                      rintro e w' ⟨rfl,⟨nd,rfl⟩⟩;refine ⟨_,rfl,?_⟩;refine hK.out _ _ ⟨(blk_cell BK146.out 0).trans rfl,(blk_cell BK146.out 1).trans rfl,(blk_cell BK146.out 2).trans rfl,(blk_cell BK146.out 3).trans rfl,hHeld.2.2.2.2.1,hHeld.2.2.2.2.2.1,hHeld.2.2.2.2.2.2.1,hHeld.2.2.2.2.2.2.2.1,hHeld.2.2.2.2.2.2.2.2.1,hHeld.2.2.2.2.2.2.2.2.2.1,hHeld.2.2.2.2.2.2.2.2.2.2.1,hHeld.2.2.2.2.2.2.2.2.2.2.2.1,hHeld.2.2.2.2.2.2.2.2.2.2.2.2.1,hHeld.2.2.2.2.2.2.2.2.2.2.2.2.2.1,hHeld.2.2.2.2.2.2.2.2.2.2.2.2.2.2.1,hHeld.2.2.2.2.2.2.2.2.2.2.2.2.2.2.2⟩ (fun hHeld=>?_);clear hK K;refine norm_ (a' := ?_) ?_ ?_;rotate_left
                      ·show Act.put _ (some 208) _ = _;simp only [Act.put,List.setIfInBounds_toArray,List.set_cons_zero,List.set_cons_succ,i64_w,i32_w];rfl
                      refine pa_ 3 209 f29_ ?_
                      refine pa_ 4 210 f30_ ?_
                      refine pa_ 6 212 f58_ ?_
                      refine pa_ 7 213 f59_ ?_
                      refine pa_ 8 214 f60_ ?_
                      refine take_ (i:=5) (N:=some 211) (v:=?_) (a' := ?_) f34_ rfl rfl (take_ofW HT_.out HW_.out (by kernel_rfl)) (fun _ _ _ h=>h) (Or.inl ⟨by rfl,?_⟩) hHeld ?_ ?_;rotate_left
                      ·rintro w' ⟨s0,s1,s2,s3,s4,s5,s6,s7,s8,s9,s10,s11,s12,s13,s14,s15⟩;go_simp;with_reducible rfl
                      rotate_left
                      ·exact q56_
                      refine take_ (i:=9) (N:=some 215) (v:=?_) (a' := ?_) f35_ rfl rfl (take_ofW HT_.out HW_.out (by kernel_rfl)) (fun _ _ _ h=>h) (Or.inl ⟨by rfl,?_⟩) hHeld ?_ ?_;rotate_left
                      ·rintro w' ⟨s0,s1,s2,s3,s4,s5,s6,s7,s8,s9,s10,s11,s12,s13,s14,s15⟩;go_simp;with_reducible rfl
                      rotate_left
                      ·exact q56_
                      refine pa_ 10 216 f36_ ?_
                      refine pa_ 11 217 f37_ ?_
                      refine pa_ 12 218 f38_ ?_
                      refine pa_ 13 219 f39_ ?_
                      refine pa_ 15 221 f40_ ?_
                      refine pa_ 16 222 f41_ ?_
                      refine pa_ 17 223 f42_ ?_
                      refine pa_ 18 224 f43_ ?_
                      refine take_ (i:=14) (N:=some 220) (v:=?_) (a' := ?_) f44_ rfl rfl (take_ofW HT_.out HW_.out (by kernel_rfl)) (fun _ _ _ h=>h) (Or.inl ⟨by rfl,?_⟩) hHeld ?_ ?_;rotate_left
                      ·rintro w' ⟨s0,s1,s2,s3,s4,s5,s6,s7,s8,s9,s10,s11,s12,s13,s14,s15⟩;go_simp;with_reducible rfl
                      rotate_left
                      ·exact q56_
                      refine take_ (i:=19) (N:=some 225) (v:=?_) (a' := ?_) f45_ rfl rfl (take_ofW HT_.out HW_.out (by kernel_rfl)) (fun _ _ _ h=>h) (Or.inl ⟨by rfl,?_⟩) hHeld ?_ ?_;rotate_left
                      ·rintro w' ⟨s0,s1,s2,s3,s4,s5,s6,s7,s8,s9,s10,s11,s12,s13,s14,s15⟩;go_simp;with_reducible rfl
                      rotate_left
                      ·exact q56_
                      refine pa_ 20 226 f46_ ?_
                      refine pa_ 21 227 f47_ ?_
                      refine pa_ 22 228 f48_ ?_
                      refine pa_ 23 229 f49_ ?_
                      refine pa_ 25 231 f50_ ?_
                      refine pa_ 26 232 f51_ ?_
                      refine pa_ 27 233 f52_ ?_
                      refine pa_ 28 234 f53_ ?_
                      refine take_ (i:=24) (N:=some 230) (v:=?_) (a' := ?_) f54_ rfl rfl (take_ofW HT_.out HW_.out (by kernel_rfl)) (fun _ _ _ h=>h) (Or.inl ⟨by rfl,?_⟩) hHeld ?_ ?_;rotate_left
                      ·rintro w' ⟨s0,s1,s2,s3,s4,s5,s6,s7,s8,s9,s10,s11,s12,s13,s14,s15⟩;go_simp;with_reducible rfl
                      rotate_left
                      ·exact q56_
                      refine take_ (i:=29) (N:=some 235) (v:=?_) (a' := ?_) f55_ rfl rfl (take_ofW HT_.out HW_.out (by kernel_rfl)) (fun _ _ _ h=>h) (Or.inl ⟨by rfl,?_⟩) hHeld ?_ ?_;rotate_left
                      ·rintro w' ⟨s0,s1,s2,s3,s4,s5,s6,s7,s8,s9,s10,s11,s12,s13,s14,s15⟩;go_simp;with_reducible rfl
                      rotate_left
                      ·exact q56_
                      refine pa_ 30 236 f56_ ?_
                      refine pa_ 31 237 f57_ ?_
                      refine done_ (done_of HT_.out (by kernel_rfl)) ?_;try go_wp2
                      go_roundg k4
                      case measure=>have:=HJ11.out;have:=HJ83.out;have:=HJ100.out;have:=HK4.out;omega
                      case rel=>exact ⟨(wrap64 (x201_4 + 1)),(q1_),H', ⟨by have:=HJ11.out;have:=HJ83.out;have:=HJ100.out;have:=HK4.out;omega⟩,⟨by (with_reducible repeat (first | apply Kd.R_alloc | apply Kd.R_drewN | apply Kd.R_drew));exact Kd.R_mono HO_5.out (fun _ hk=>hk.1)⟩,⟨q15_⟩,⟨by (with_reducible repeat (first | apply Kd.R_alloc | apply Kd.R_drewN | apply Kd.R_drew));exact Kd.R_mono HO_199.out (fun _ hk=>hk.1)⟩,⟨by repeat (first | (with_reducible first | exact HB.out | apply below_alloc | apply pw_below_drewN | apply below_drew1 | refine below_set ?_ GE146.out) | exact HB.out)⟩⟩
                     ·rw [if_neg c131] at H;have c131b0 : (((rd_T77 t111 x201_4).f1) == ((rd_T77 t102 x201_4).f1)) = false:=beq_eq_false_iff_ne.mpr c131;have c131b1 : (((rd_T77 t111 x201_4).f1) != ((rd_T77 t102 x201_4).f1)) = true:=bne_iff_ne.mpr c131;exact absurd (Option.some.inj H) (by rw [ht_.out];decide)
                    ·rw [if_neg c130] at H;have c130b0 : (((rd_T77 t111 x201_4).f0).toList == ((rd_T77 t102 x201_4).f0).toList) = false:=beq_eq_false_iff_ne.mpr c130;have c130b1 : (((rd_T77 t111 x201_4).f0).toList != ((rd_T77 t102 x201_4).f0).toList) = true:=bne_iff_ne.mpr c130;exact absurd (Option.some.inj H) (by rw [ht_.out];decide)
                  ·rw [if_neg c128] at H;exact absurd H (by simp)
                ·rw [if_neg c117] at H;exact absurd H (by simp)
               ·rw [if_neg c116] at H;exact absurd H (by simp)
              ·rw [if_neg c115] at H;have c115b0 : decide (x201_4 < (t111.length : Int)) = false:=decide_eq_false c115;clear c115;have H' := Aside0.mk H;clear H;go_wp2;go_meet
               case rel=>exact ⟨_,H', ⟨by have:=HJ11.out;have:=HJ83.out;have:=HJ100.out;have:=HK4.out;first | omega | exact Nat.le_refl _⟩,⟨q21_⟩⟩
        ·replace c99:=Bool.eq_false_iff.mpr c99;subst c99;have H1 : (laws_FnNames.j5 kj83 l1) = some r:=by rw [if_neg (show ¬ (false = true) by decide)] at H;exact H
         clear H;have H:=H1;clear H1;have H' := Aside0.mk H;clear H;go_wp2;go_meet
         case rel=>exact ⟨_,H', ⟨by have:=HJ11.out;have:=HJ83.out;first | omega | exact Nat.le_refl _⟩,⟨q21_⟩⟩
       case rest=>as_aux_lemma =>
        clear HC98;try clear c1
        try clear c99
        try clear c115
        try clear c115b0
        try clear c116
        try clear c117
        try clear c119
        try clear c120
        try clear c121
        try clear c121b0
        try clear c121b1
        try clear c122
        try clear c122b0
        try clear c122b1
        try clear c128
        try clear c128b0
        try clear c129
        try clear c129b0
        try clear c130
        try clear c130b0
        try clear c130b1
        try clear c131
        try clear c131b0
        try clear c131b1
        try clear hcz133_0
        try clear hcz133_1
        try clear hcz133_2
        try clear hcz133_3
        try clear hfz133_0
        try clear hfz133_1
        try clear hfz133_2
        try clear hfz133_3
        try clear hx145_0
        try clear hx145_1
        try clear hx145_2
        try clear hx145_3
        try clear hx150_0
        try clear hx150_1
        try clear hx150_2
        try clear hx150_3
        try clear hx151_0
        try clear hx151_1
        try clear hx151_2
        try clear hx151_3
        try clear hx152_0
        try clear hx152_1
        try clear hx152_2
        try clear hx152_3
        try clear p145
        try clear p150
        try clear p151
        try clear p152
        try clear q145
        try clear q150
        try clear q151
        try clear q152
        obtain ⟨kq,HA,HJ97,HB⟩:=hcut;cases kq with
        | zero=>exact absurd HA.out (by simp [laws_FnNames.j5])
        | succ kj97 =>
         have H:=HA.out;clear HA;simp only [laws_FnNames.j5] at H;replace H:=Option.bind_eq_some_iff.mp H;obtain ⟨⟨t153,t154,t155,t156⟩,A1370,H⟩:=H;(try dsimp only at H);have A137:=Aside0.mk A1370;clear A1370;replace H:=Option.bind_eq_some_iff.mp H;obtain ⟨⟨t159,t160,t161,t162,t163⟩,A1380,H⟩:=H;(try dsimp only at H);have A138:=Aside0.mk A1380;clear A1380;replace H:=Option.bind_eq_some_iff.mp H;obtain ⟨⟨t165,t166,t167,t168,t169⟩,A1390,H⟩:=H;(try dsimp only at H);have A139:=Aside0.mk A1390;clear A1390;have HC140:=Aside0.mk H;clear H;go_upto_region 34 with (first | ((with_reducible refine gate_callee (f:=60) rfl ?_);refine goesL_ (some 241) rfl rfl Try.func60 (by kernel_rfl) rfl #[.slice A1 l1.length c1] rfl (q22_) ?_;(with_reducible refine (spec_DrawNewName.calls kj97 _ _ l1 t153 t154 t155 t156 _ ?side1 ?side2 A137.out).mono ?_);(case side1=>exact cX_ (Kd.C_below HR1.out HB.out));(case side2=>exact HC1.out);rintro e w141 ⟨v157,rfl,ho0,hb⟩;refine ⟨_,rfl,?_⟩;have HO158:=Aside0.mk (Kd.R_lower ho0 (below_size (q21_)));replace HB:=bS_ HB hb;(try clear hb);(try clear ho0);obtain ⟨Ao142,co142,eo142⟩:=Kd.R_slice HO158.out;subst eo142) | ((with_reducible refine gate_callee (f:=61) rfl ?_);refine goesL_ (some 251) rfl rfl Try.func61 (by kernel_rfl) rfl #[.slice Ao142 t153.length co142,.string t154,.int .i64 t155,.int .i64 t156] rfl (q22_) ?_;(with_reducible refine (impl_NewName.calls kj97 _ _ t153 t154 t155 t156 t159 t160 t161 t162 t163 _ ?side1 ?side2 A138.out).mono ?_);(case side1=>exact cX_ (Kd.R_reads' HO158.out).2.2);(case side2=>exact (Kd.R_reads' HO158.out).2.1);rintro e w143 ⟨rfl,hb⟩;refine ⟨_,rfl,?_⟩;replace HO158:=rB_ HO158 hb;replace HB:=bS_ HB hb;(try clear hb);(try clear hk)) | ((with_reducible refine gate_dst (N:=31) rfl ?_);(try (refine gate_guard (by rfl) ?_;dsimp only));refine box_event ?hg (N:=31) ?hd (cs:=#[.string (⟨#[]⟩ : ByteArray),.int .i64 0,.int .i64 0,.int .i64 0]) (t:=77) ?hr ?_;(case hd=>rfl);(case hg=>rfl);(case hr=>first | (go_simp;done) | (go_simp;rfl));intro gb164 hg w144 hbox hb;replace HO158:=Aside0.mk (Kd.R_below (Kd.R_elderB (by (with_reducible repeat (first | apply Kd.R_alloc | apply Kd.R_drewN | apply Kd.R_drew));exact HO158.out) gb164 (Nat.le_of_eq hg.symm)) hb);have BK164:=Aside0.mk (hbox);have GW164:=Aside0.mk ((q49_ : w.heap.size ≤ gb164));have GE164:=Aside0.mk ((q49_ : w.heap.size ≤ gb164));replace HB:=bS_ HB hb;clear hb hbox hg;have hcz145_0 : w144.cell? ⟨gb164,0,none⟩ = some (.string (⟨#[]⟩ : ByteArray)):=(blk_cell BK164.out 0).trans rfl;have hcz145_1 : w144.cell? ⟨gb164,1,none⟩ = some (.int .i64 0):=(blk_cell BK164.out 1).trans rfl;have hcz145_2 : w144.cell? ⟨gb164,2,none⟩ = some (.int .i64 0):=(blk_cell BK164.out 2).trans rfl;have hcz145_3 : w144.cell? ⟨gb164,3,none⟩ = some (.int .i64 0):=(blk_cell BK164.out 3).trans rfl;have hfz145_0:=blk_frozen BK164.out 0;have hal145_0:=MAlive.alive_of hcz145_0;have hfz145_1:=blk_frozen BK164.out 1;have hal145_1:=MAlive.alive_of hcz145_1;have hfz145_2:=blk_frozen BK164.out 2;have hal145_2:=MAlive.alive_of hcz145_2;have hfz145_3:=blk_frozen BK164.out 3;have hal145_3:=MAlive.alive_of hcz145_3) | ((with_reducible refine gate_callee (f:=62) rfl ?_);refine goesL_ (some 259) rfl rfl Try.func62 (by kernel_rfl) rfl #[.slice Ao142 t153.length co142,.string t154,.int .i64 t155,.int .i64 t156] rfl (q22_) ?_;(with_reducible refine (spec_NewName.calls kj97 _ _ t153 t154 t155 t156 t165 t166 t167 t168 t169 _ ?side1 ?side2 A139.out).mono ?_);(case side1=>refine (Kd.R_reads' (e:=77) (base:=w.heap.size) (ok:=fun k_=>(True ∧ k_ ≠ gb164)) (n:=t153.length) (c:=co142) ?_).2.2;exact (by (with_reducible repeat (first | apply Kd.R_alloc | apply Kd.R_drewN | apply Kd.R_drew));exact (Kd.R_mono (Kd.R_far (p:=⟨gb164,3,none⟩) (Kd.R_far (p:=⟨gb164,2,none⟩) (Kd.R_far (p:=⟨gb164,1,none⟩) (Kd.R_far (p:=⟨gb164,0,none⟩) (Kd.R_mono HO158.out (fun k_ hk=>(⟨hk,hk.2⟩ : _ ∧ k_ ≠ gb164))) (fun _ hk=>hk.2) (.string t159)) (fun _ hk=>hk.2) (.int .i64 t160)) (fun _ hk=>hk.2) (.int .i64 t161)) (fun _ hk=>hk.2) (.int .i64 t162)) (fun _ h_=>h_.1))));(case side2=>exact (Kd.R_reads' HO158.out).2.1);rintro e w146 ⟨rfl,hb⟩;refine ⟨_,rfl,?_⟩;replace HO158:=Aside0.mk (Kd.R_below (by (with_reducible repeat (first | apply Kd.R_alloc | apply Kd.R_drewN | apply Kd.R_drew));exact (Kd.R_mono (Kd.R_far (p:=⟨gb164,3,none⟩) (Kd.R_far (p:=⟨gb164,2,none⟩) (Kd.R_far (p:=⟨gb164,1,none⟩) (Kd.R_far (p:=⟨gb164,0,none⟩) (Kd.R_mono HO158.out (fun k_ hk=>(⟨hk,hk.2⟩ : _ ∧ k_ ≠ gb164))) (fun _ hk=>hk.2) (.string t159)) (fun _ hk=>hk.2) (.int .i64 t160)) (fun _ hk=>hk.2) (.int .i64 t161)) (fun _ hk=>hk.2) (.int .i64 t162)) (fun _ h_=>h_.1))) hb);replace BK164:=Aside0.mk (blk_below (g:=gb164) (o:=.cells #[.string t159,.int .i64 t160,.int .i64 t161,.int .i64 t162] 77 (0,0)) (by (with_reducible repeat (first | refine blk_drewN ?_ _ | refine blk_drew ?_ | refine blk_alloc ?_ _));refine blk_put (cs:=#[.string t159,.int .i64 t160,.int .i64 t161,.int .i64 0]) ?_ 3 _ rfl;(with_reducible repeat (first | refine blk_drewN ?_ _ | refine blk_drew ?_ | refine blk_alloc ?_ _));refine blk_put (cs:=#[.string t159,.int .i64 t160,.int .i64 0,.int .i64 0]) ?_ 2 _ rfl;(with_reducible repeat (first | refine blk_drewN ?_ _ | refine blk_drew ?_ | refine blk_alloc ?_ _));refine blk_put (cs:=#[.string t159,.int .i64 0,.int .i64 0,.int .i64 0]) ?_ 1 _ rfl;(with_reducible repeat (first | refine blk_drewN ?_ _ | refine blk_drew ?_ | refine blk_alloc ?_ _));refine blk_put (cs:=#[.string (⟨#[]⟩ : ByteArray),.int .i64 0,.int .i64 0,.int .i64 0]) ?_ 0 _ rfl;(with_reducible repeat (first | refine blk_drewN ?_ _ | refine blk_drew ?_ | refine blk_alloc ?_ _));exact BK164.out) hb);replace HB:=Aside0.mk (below_step (by repeat (first | (with_reducible first | exact HB.out | apply below_alloc | apply pw_below_drewN | apply below_drew1 | refine below_set ?_ GE164.out) | exact HB.out)) hb);(try clear hb);(try clear hk)) | ((with_reducible refine gate_dst (N:=33) rfl ?_);(try (refine gate_guard (by rfl) ?_;dsimp only));refine box_event ?hg (N:=33) ?hd (cs:=#[.string (⟨#[]⟩ : ByteArray),.int .i64 0,.int .i64 0,.int .i64 0]) (t:=77) ?hr ?_;(case hd=>rfl);(case hg=>rfl);(case hr=>first | (go_simp;done) | (go_simp;rfl));intro gb170 hg w147 hbox hb;replace HO158:=Aside0.mk (Kd.R_below (Kd.R_elderB (by (with_reducible repeat (first | apply Kd.R_alloc | apply Kd.R_drewN | apply Kd.R_drew));exact HO158.out) gb170 (Nat.le_of_eq hg.symm)) hb);have BK170:=Aside0.mk (hbox);have GW170:=Aside0.mk ((by rw [hg];exact (below_size (by repeat (first | (with_reducible first | exact HB.out | apply below_alloc | apply pw_below_drewN | apply below_drew1 | refine below_set ?_ GE164.out) | exact HB.out))) : w.heap.size ≤ gb170));have GE170:=Aside0.mk ((by rw [hg];exact (below_size (by repeat (first | (with_reducible first | exact HB.out | apply below_alloc | apply pw_below_drewN | apply below_drew1 | refine below_set ?_ GE164.out) | exact HB.out))) : w.heap.size ≤ gb170));replace HB:=Aside0.mk (below_step (by repeat (first | (with_reducible first | exact HB.out | apply below_alloc | apply pw_below_drewN | apply below_drew1 | refine below_set ?_ GE164.out) | exact HB.out)) hb);have NB164_170:=Aside0.mk ((by rw [hg];exact Nat.ne_of_lt (blk_lt (g:=gb164) (o:=.cells #[.string t159,.int .i64 t160,.int .i64 t161,.int .i64 t162] 77 (0,0)) (q18_)) : gb164 ≠ gb170));have NB170_164:=Aside0.mk ((by rw [hg];exact Nat.ne_of_gt (blk_lt (g:=gb164) (o:=.cells #[.string t159,.int .i64 t160,.int .i64 t161,.int .i64 t162] 77 (0,0)) (q18_)) : gb170 ≠ gb164));replace BK164:=bkB_ BK164 hb;clear hb hbox hg;have hnb148:=NB170_164.out;have hnc148:=NB164_170.out;have hcz149_0 : w147.cell? ⟨gb170,0,none⟩ = some (.string (⟨#[]⟩ : ByteArray)):=(blk_cell BK170.out 0).trans rfl;have hcz149_1 : w147.cell? ⟨gb170,1,none⟩ = some (.int .i64 0):=(blk_cell BK170.out 1).trans rfl;have hcz149_2 : w147.cell? ⟨gb170,2,none⟩ = some (.int .i64 0):=(blk_cell BK170.out 2).trans rfl;have hcz149_3 : w147.cell? ⟨gb170,3,none⟩ = some (.int .i64 0):=(blk_cell BK170.out 3).trans rfl;have hfz149_0:=blk_frozen BK170.out 0;have hal149_0:=MAlive.alive_of hcz149_0;have hfz149_1:=blk_frozen BK170.out 1;have hal149_1:=MAlive.alive_of hcz149_1;have hfz149_2:=blk_frozen BK170.out 2;have hal149_2:=MAlive.alive_of hcz149_2;have hfz149_3:=blk_frozen BK170.out 3;have hal149_3:=MAlive.alive_of hcz149_3))
         (try simp only [Act.put,List.setIfInBounds_toArray,List.set_cons_zero,List.set_cons_succ])
         go_cut [269] (fun v269 wc=>∃ (kq : Nat) (x269_139 : Bool),v269 = .bool x269_139 ∧ Aside0 (laws_FnNames.j6 kq l1 t153 t155 t163 x269_139 t159 t160 t161 t162 t165 t166 t167 t168 = some r) ∧ Aside0 (kq ≤ kj97) ∧ Aside0 (Kd.R k77 77 wc w.heap.size (fun k_=>k_ ≠ gb164 ∧ k_ ≠ gb170) (.slice Ao142 t153.length co142) t153) ∧ Aside0 (wc.heap[gb164]? = some (.cells #[.string t159,.int .i64 t160,.int .i64 t161,.int .i64 t162] 77 (0,0))) ∧ Aside0 (wc.heap[gb170]? = some (.cells #[.string t165,.int .i64 t166,.int .i64 t167,.int .i64 t168] 77 (0,0))) ∧ Aside0 (Below w.heap.size w wc))
         case first=>as_aux_lemma =>
          have H:=HC140.out;clear HC140;by_cases c150 : (t163 != t169) = true
          ·rw [if_pos c150] at H;have c150b0 : (t163 != t169) = true:=c150
           (try (have c150b1 : decide (t163 = t169) = false:=by simpa using c150))
           (try (have c150b2 : (t163 == t169) = false:=by simpa using c150))
           (try (have c150b3 : ¬ (t163 = t169):=by simpa using c150))
           clear c150
           (first | rw [c150b0] | (simp only [i64_w,i32_w];rw [c150b0]) | skip)
           first | with_reducible exact (laws_FnNames.j0_no H ht_.out).elim | with_reducible exact (laws_FnNames.j6_no H ht_.out).elim | with_reducible exact (laws_FnNames.j8_no H ht_.out).elim | with_reducible exact (laws_FnNames.j3_no H ht_.out).elim
          ·rw [if_neg c150] at H;have c150b0 : (t163 != t169) = false:=by simpa using c150
           (try (have c150b1 : decide (t163 = t169) = true:=by simpa using c150))
           (try (have c150b2 : (t163 == t169) = true:=by simpa using c150))
           clear c150
           (first | rw [c150b0] | (simp only [i64_w,i32_w];rw [c150b0]) | skip)
           have H' := Aside0.mk H;clear H;have hnb151:=NB164_170.out;have hnc151:=NB170_164.out;have hcz152_0 : w147.cell? ⟨gb164,0,none⟩ = some (.string t159):=(blk_cell BK164.out 0).trans rfl;have hcz152_1 : w147.cell? ⟨gb164,1,none⟩ = some (.int .i64 t160):=(blk_cell BK164.out 1).trans rfl;have hcz152_2 : w147.cell? ⟨gb164,2,none⟩ = some (.int .i64 t161):=(blk_cell BK164.out 2).trans rfl;have hcz152_3 : w147.cell? ⟨gb164,3,none⟩ = some (.int .i64 t162):=(blk_cell BK164.out 3).trans rfl;have hfz152_0:=blk_frozen BK164.out 0;have hal152_0:=MAlive.alive_of hcz152_0;have hfz152_1:=blk_frozen BK164.out 1;have hal152_1:=MAlive.alive_of hcz152_1;have hfz152_2:=blk_frozen BK164.out 2;have hal152_2:=MAlive.alive_of hcz152_2;have hfz152_3:=blk_frozen BK164.out 3;have hal152_3:=MAlive.alive_of hcz152_3;have hcz153_0 : w147.cell? ⟨gb170,0,none⟩ = some (.string (⟨#[]⟩ : ByteArray)):=(blk_cell BK170.out 0).trans rfl;have hcz153_1 : w147.cell? ⟨gb170,1,none⟩ = some (.int .i64 0):=(blk_cell BK170.out 1).trans rfl;have hcz153_2 : w147.cell? ⟨gb170,2,none⟩ = some (.int .i64 0):=(blk_cell BK170.out 2).trans rfl;have hcz153_3 : w147.cell? ⟨gb170,3,none⟩ = some (.int .i64 0):=(blk_cell BK170.out 3).trans rfl;have hfz153_0:=blk_frozen BK170.out 0;have hal153_0:=MAlive.alive_of hcz153_0;have hfz153_1:=blk_frozen BK170.out 1;have hal153_1:=MAlive.alive_of hcz153_1;have hfz153_2:=blk_frozen BK170.out 2;have hal153_2:=MAlive.alive_of hcz153_2;have hfz153_3:=blk_frozen BK170.out 3;have hal153_3:=MAlive.alive_of hcz153_3;go_wp2;go_meet
           case rel=>exact ⟨_,((!(t159.toList == t165.toList) || (!(t160 == t166) || (!(t161 == t167) || (!(t162 == t168)))))),(q1_),H', ⟨by have:=HJ11.out;have:=HJ83.out;have:=HJ97.out;first | omega | exact Nat.le_refl _⟩,⟨by (with_reducible repeat (first | apply Kd.R_alloc | apply Kd.R_drewN | apply Kd.R_drew));exact Kd.R_mono (Kd.R_far (p:=⟨gb170,3,none⟩) (Kd.R_far (p:=⟨gb170,2,none⟩) (Kd.R_far (p:=⟨gb170,1,none⟩) (Kd.R_far (p:=⟨gb170,0,none⟩) (Kd.R_mono HO158.out (fun k_ hk=>(⟨hk,hk.2⟩ : _ ∧ k_ ≠ gb170))) (fun _ hk=>hk.2) (.string t165)) (fun _ hk=>hk.2) (.int .i64 t166)) (fun _ hk=>hk.2) (.int .i64 t167)) (fun _ hk=>hk.2) (.int .i64 t168)) (fun _ hk=>⟨hk.1.1.2,hk.1.2⟩)⟩,⟨by (with_reducible repeat (first | refine blk_drewN ?_ _ | refine blk_drew ?_ | refine blk_alloc ?_ _));refine blk_far ?_ NB164_170.out _;(with_reducible repeat (first | refine blk_drewN ?_ _ | refine blk_drew ?_ | refine blk_alloc ?_ _));refine blk_far ?_ NB164_170.out _;(with_reducible repeat (first | refine blk_drewN ?_ _ | refine blk_drew ?_ | refine blk_alloc ?_ _));refine blk_far ?_ NB164_170.out _;(with_reducible repeat (first | refine blk_drewN ?_ _ | refine blk_drew ?_ | refine blk_alloc ?_ _));refine blk_far ?_ NB164_170.out _;(with_reducible repeat (first | refine blk_drewN ?_ _ | refine blk_drew ?_ | refine blk_alloc ?_ _));exact BK164.out⟩,⟨by (with_reducible repeat (first | refine blk_drewN ?_ _ | refine blk_drew ?_ | refine blk_alloc ?_ _));refine blk_put (cs:=#[.string t165,.int .i64 t166,.int .i64 t167,.int .i64 0]) ?_ 3 _ rfl;(with_reducible repeat (first | refine blk_drewN ?_ _ | refine blk_drew ?_ | refine blk_alloc ?_ _));refine blk_put (cs:=#[.string t165,.int .i64 t166,.int .i64 0,.int .i64 0]) ?_ 2 _ rfl;(with_reducible repeat (first | refine blk_drewN ?_ _ | refine blk_drew ?_ | refine blk_alloc ?_ _));refine blk_put (cs:=#[.string t165,.int .i64 0,.int .i64 0,.int .i64 0]) ?_ 1 _ rfl;(with_reducible repeat (first | refine blk_drewN ?_ _ | refine blk_drew ?_ | refine blk_alloc ?_ _));refine blk_put (cs:=#[.string (⟨#[]⟩ : ByteArray),.int .i64 0,.int .i64 0,.int .i64 0]) ?_ 0 _ rfl;(with_reducible repeat (first | refine blk_drewN ?_ _ | refine blk_drew ?_ | refine blk_alloc ?_ _));exact BK170.out⟩,⟨q33_⟩⟩
         case rest=>as_aux_lemma =>
          clear HC140;try clear c1
          try clear c99
          try clear c115
          try clear c115b0
          try clear c116
          try clear c117
          try clear c119
          try clear c120
          try clear c121
          try clear c121b0
          try clear c121b1
          try clear c122
          try clear c122b0
          try clear c122b1
          try clear c128
          try clear c128b0
          try clear c129
          try clear c129b0
          try clear c130
          try clear c130b0
          try clear c130b1
          try clear c131
          try clear c131b0
          try clear c131b1
          try clear p145
          try clear q145
          try clear c150
          try clear c150b0
          try clear c150b1
          try clear c150b2
          try clear p150
          try clear q150
          try clear p151
          try clear q151
          try clear p152
          try clear q152
          try clear hcz133_0
          try clear hcz133_1
          try clear hcz133_2
          try clear hcz133_3
          try clear hcz145_0
          try clear hcz145_1
          try clear hcz145_2
          try clear hcz145_3
          try clear hcz149_0
          try clear hcz149_1
          try clear hcz149_2
          try clear hcz149_3
          try clear hcz152_0
          try clear hcz152_1
          try clear hcz152_2
          try clear hcz152_3
          try clear hcz153_0
          try clear hcz153_1
          try clear hcz153_2
          try clear hcz153_3
          try clear hfz133_0
          try clear hfz133_1
          try clear hfz133_2
          try clear hfz133_3
          try clear hfz145_0
          try clear hfz145_1
          try clear hfz145_2
          try clear hfz145_3
          try clear hfz149_0
          try clear hfz149_1
          try clear hfz149_2
          try clear hfz149_3
          try clear hfz152_0
          try clear hfz152_1
          try clear hfz152_2
          try clear hfz152_3
          try clear hfz153_0
          try clear hfz153_1
          try clear hfz153_2
          try clear hfz153_3
          try clear hx145_0
          try clear hx145_1
          try clear hx145_2
          try clear hx145_3
          try clear hx150_0
          try clear hx150_1
          try clear hx150_2
          try clear hx150_3
          try clear hx151_0
          try clear hx151_1
          try clear hx151_2
          try clear hx151_3
          try clear hx152_0
          try clear hx152_1
          try clear hx152_2
          try clear hx152_3
          try clear p145
          try clear p150
          try clear p151
          try clear p152
          try clear q145
          try clear q150
          try clear q151
          try clear q152
          obtain ⟨kq,x269_139,rfl,HA,HJ139,HO_27,BK164,BK170,HB⟩:=hcut;cases kq with
          | zero=>exact absurd HA.out (by simp [laws_FnNames.j6])
          | succ kj139 =>
           have H:=HA.out;clear HA;simp only [laws_FnNames.j6] at H;by_cases c154 : x269_139 = true
           ·subst c154;have H1 : (some false) = some r:=by rw [if_pos rfl] at H;exact H
            clear H;have H:=H1;clear H1;exact absurd (Option.some.inj H) (by rw [ht_.out];decide)
           ·replace c154:=Bool.eq_false_iff.mpr c154;subst c154;have H1 : (if t163 = true then ((impl_WhoIs.f kj139 t153 t155 t167).bind fun bt171=>(if bt171.2 = true then (if (bt171.1.length : Int) > 0 then (some false) else ((impl_IsPerson.f kj139 t159 t160 t161 t162).bind fun t175=>(if t175 = true then (laws_FnNames.j7 kj139 l1) else (some false)))) else (some false))) else (laws_FnNames.j7 kj139 l1)) = some r:=by rw [if_neg (show ¬ (false = true) by decide)] at H;exact H
            clear H;have H:=H1;clear H1;have HC155:=Aside0.mk H;clear H;go_upto_if 270 with (fail)
            go_cut [] (fun wc=>∃ (kq : Nat),Aside0 (laws_FnNames.j7 kq l1 = some r) ∧ Aside0 (kq ≤ kj139) ∧ Aside0 (wc.heap[gb164]? = some (.cells #[.string t159,.int .i64 t160,.int .i64 t161,.int .i64 t162] 77 (0,0))) ∧ Aside0 (wc.heap[gb170]? = some (.cells #[.string t165,.int .i64 t166,.int .i64 t167,.int .i64 t168] 77 (0,0))) ∧ Aside0 (Below w.heap.size w wc))
            case first=>as_aux_lemma =>
             have H:=HC155.out;clear HC155;by_cases c156 : t163 = true
             ·subst c156;have H1 : ((impl_WhoIs.f kj139 t153 t155 t167).bind fun bt171=>(if bt171.2 = true then (if (bt171.1.length : Int) > 0 then (some false) else ((impl_IsPerson.f kj139 t159 t160 t161 t162).bind fun t175=>(if t175 = true then (laws_FnNames.j7 kj139 l1) else (some false)))) else (some false))) = some r:=by rw [if_pos rfl] at H;exact H
              clear H;have H:=H1;clear H1;replace H:=Option.bind_eq_some_iff.mp H;obtain ⟨⟨t171,t172⟩,A1570,H⟩:=H;(try dsimp only at H);have A157:=Aside0.mk A1570;clear A1570;by_cases c158 : t172 = true
              ·subst c158;have H1 : (if (t171.length : Int) > 0 then (some false) else ((impl_IsPerson.f kj139 t159 t160 t161 t162).bind fun t175=>(if t175 = true then (laws_FnNames.j7 kj139 l1) else (some false)))) = some r:=by rw [if_pos rfl] at H;exact H
               clear H;have H:=H1;clear H1;by_cases c159 : (t171.length : Int) > 0
               ·rw [if_pos c159] at H;have c159b0 : decide (0 < (t171.length : Int)) = true:=decide_eq_true c159;have c159b1 : decide (0 < t171.length) = true:=decide_eq_true (by omega);clear c159
                (first | rw [c159b0] | (simp only [i64_w,i32_w];rw [c159b0]) | skip)
                exact absurd (Option.some.inj H) (by rw [ht_.out];decide)
               ·rw [if_neg c159] at H;have c159b0 : decide (0 < (t171.length : Int)) = false:=decide_eq_false c159;have c159b1 : decide (0 < t171.length) = false:=decide_eq_false (by omega);clear c159
                (first | rw [c159b0] | (simp only [i64_w,i32_w];rw [c159b0]) | skip)
                replace H:=Option.bind_eq_some_iff.mp H;obtain ⟨t175,A1600,H⟩:=H;(try dsimp only at H);have A160:=Aside0.mk A1600;clear A1600;by_cases c161 : t175 = true
                ·subst c161;have H1 : (laws_FnNames.j7 kj139 l1) = some r:=by rw [if_pos rfl] at H;exact H
                 clear H;have H:=H1;clear H1;have H' := Aside0.mk H;clear H;have hnb162:=NB170_164.out;have hnc162:=NB164_170.out;have hcz163_0 : wc.cell? ⟨gb170,0,none⟩ = some (.string t165):=(blk_cell BK170.out 0).trans rfl;have hcz163_1 : wc.cell? ⟨gb170,1,none⟩ = some (.int .i64 t166):=(blk_cell BK170.out 1).trans rfl;have hcz163_2 : wc.cell? ⟨gb170,2,none⟩ = some (.int .i64 t167):=(blk_cell BK170.out 2).trans rfl;have hcz163_3 : wc.cell? ⟨gb170,3,none⟩ = some (.int .i64 t168):=(blk_cell BK170.out 3).trans rfl;have hfz163_0:=blk_frozen BK170.out 0;have hal163_0:=MAlive.alive_of hcz163_0;have hfz163_1:=blk_frozen BK170.out 1;have hal163_1:=MAlive.alive_of hcz163_1;have hfz163_2:=blk_frozen BK170.out 2;have hal163_2:=MAlive.alive_of hcz163_2;have hfz163_3:=blk_frozen BK170.out 3;have hal163_3:=MAlive.alive_of hcz163_3;go_wp2_with (first | ((with_reducible refine gate_callee (f:=63) rfl ?_);refine goesL_ (some 276) rfl rfl Try.func63 (by kernel_rfl) rfl #[.slice Ao142 t153.length co142,.int .i64 t155,.int .i64 t167] rfl (q22_) ?_;(with_reducible refine (impl_WhoIs.calls kj139 _ _ t153 t155 t167 t171 true _ ?side1 ?side2 A157.out).mono ?_);(case side1=>exact cX_ (Kd.R_reads' HO_27.out).2.2);(case side2=>exact (Kd.R_reads' HO_27.out).2.1);rintro e w164 ⟨v173,rfl,ho0,hb⟩;refine ⟨_,rfl,?_⟩;replace HO_27:=rB_ HO_27 hb;have HO174:=Aside0.mk (Kd.R_lower ho0 (below_size (q33_)));replace BK164:=bkB_ BK164 hb;replace BK170:=bkB_ BK170 hb;replace HB:=Aside0.mk (below_step (q33_) hb);(try clear hb);(try clear ho0);obtain ⟨Ao165,co165,eo165⟩:=Kd.R_slice HO174.out;subst eo165;have hcz166_0 : w164.cell? ⟨gb164,0,none⟩ = some (.string t159):=(blk_cell BK164.out 0).trans rfl;have hcz166_1 : w164.cell? ⟨gb164,1,none⟩ = some (.int .i64 t160):=(blk_cell BK164.out 1).trans rfl;have hcz166_2 : w164.cell? ⟨gb164,2,none⟩ = some (.int .i64 t161):=(blk_cell BK164.out 2).trans rfl;have hcz166_3 : w164.cell? ⟨gb164,3,none⟩ = some (.int .i64 t162):=(blk_cell BK164.out 3).trans rfl;have hfz166_0:=blk_frozen BK164.out 0;have hal166_0:=MAlive.alive_of hcz166_0;have hfz166_1:=blk_frozen BK164.out 1;have hal166_1:=MAlive.alive_of hcz166_1;have hfz166_2:=blk_frozen BK164.out 2;have hal166_2:=MAlive.alive_of hcz166_2;have hfz166_3:=blk_frozen BK164.out 3;have hal166_3:=MAlive.alive_of hcz166_3) | (go_at_call 64;(with_reducible refine (impl_IsPerson.calls kj139 t159 t160 t161 t162 true _ A160.out).mono ?_);rintro e w167 ⟨rfl,hb⟩;replace HO_27:=rB_ HO_27 hb;replace HO174:=rB_ HO174 hb;replace BK164:=bkB_ BK164 hb;replace BK170:=bkB_ BK170 hb;replace HB:=Aside0.mk (below_step (q33_) hb);(try clear hb)))
                 go_meet
                 case rel=>exact ⟨_,H', ⟨by have:=HJ11.out;have:=HJ83.out;have:=HJ97.out;have:=HJ139.out;first | omega | exact Nat.le_refl _⟩,⟨q18_⟩,⟨by (with_reducible repeat (first | refine blk_drewN ?_ _ | refine blk_drew ?_ | refine blk_alloc ?_ _));exact BK170.out⟩,⟨q33_⟩⟩
                ·replace c161:=Bool.eq_false_iff.mpr c161;subst c161;have H1 : (some false) = some r:=by rw [if_neg (show ¬ (false = true) by decide)] at H;exact H
                 clear H;have H:=H1;clear H1;exact absurd (Option.some.inj H) (by rw [ht_.out];decide)
              ·replace c158:=Bool.eq_false_iff.mpr c158;subst c158;have H1 : (some false) = some r:=by rw [if_neg (show ¬ (false = true) by decide)] at H;exact H
               clear H;have H:=H1;clear H1;exact absurd (Option.some.inj H) (by rw [ht_.out];decide)
             ·replace c156:=Bool.eq_false_iff.mpr c156;subst c156;have H1 : (laws_FnNames.j7 kj139 l1) = some r:=by rw [if_neg (show ¬ (false = true) by decide)] at H;exact H
              clear H;have H:=H1;clear H1;have H' := Aside0.mk H;clear H;go_wp2;go_meet
              case rel=>exact ⟨_,H', ⟨by have:=HJ11.out;have:=HJ83.out;have:=HJ97.out;have:=HJ139.out;first | omega | exact Nat.le_refl _⟩,⟨q18_⟩,⟨by (with_reducible repeat (first | refine blk_drewN ?_ _ | refine blk_drew ?_ | refine blk_alloc ?_ _));exact BK170.out⟩,⟨q33_⟩⟩
            case rest=>as_aux_lemma =>
             clear HC155;try clear c1
             try clear c99
             try clear c115
             try clear c115b0
             try clear c116
             try clear c117
             try clear c119
             try clear c120
             try clear c121
             try clear c121b0
             try clear c121b1
             try clear c122
             try clear c122b0
             try clear c122b1
             try clear c128
             try clear c128b0
             try clear c129
             try clear c129b0
             try clear c130
             try clear c130b0
             try clear c130b1
             try clear c131
             try clear c131b0
             try clear c131b1
             try clear p145
             try clear q145
             try clear c150
             try clear c150b0
             try clear c150b1
             try clear c150b2
             try clear p150
             try clear q150
             try clear p151
             try clear q151
             try clear p152
             try clear q152
             try clear c154
             try clear c156
             try clear c158
             try clear c159
             try clear c159b0
             try clear c159b1
             try clear c161
             try clear hcz133_0
             try clear hcz133_1
             try clear hcz133_2
             try clear hcz133_3
             try clear hcz145_0
             try clear hcz145_1
             try clear hcz145_2
             try clear hcz145_3
             try clear hcz149_0
             try clear hcz149_1
             try clear hcz149_2
             try clear hcz149_3
             try clear hcz152_0
             try clear hcz152_1
             try clear hcz152_2
             try clear hcz152_3
             try clear hcz153_0
             try clear hcz153_1
             try clear hcz153_2
             try clear hcz153_3
             try clear hcz163_0
             try clear hcz163_1
             try clear hcz163_2
             try clear hcz163_3
             try clear hcz166_0
             try clear hcz166_1
             try clear hcz166_2
             try clear hcz166_3
             try clear hfz133_0
             try clear hfz133_1
             try clear hfz133_2
             try clear hfz133_3
             try clear hfz145_0
             try clear hfz145_1
             try clear hfz145_2
             try clear hfz145_3
             try clear hfz149_0
             try clear hfz149_1
             try clear hfz149_2
             try clear hfz149_3
             try clear hfz152_0
             try clear hfz152_1
             try clear hfz152_2
             try clear hfz152_3
             try clear hfz153_0
             try clear hfz153_1
             try clear hfz153_2
             try clear hfz153_3
             try clear hfz163_0
             try clear hfz163_1
             try clear hfz163_2
             try clear hfz163_3
             try clear hfz166_0
             try clear hfz166_1
             try clear hfz166_2
             try clear hfz166_3
             try clear hx145_0
             try clear hx145_1
             try clear hx145_2
             try clear hx145_3
             try clear hx150_0
             try clear hx150_1
             try clear hx150_2
             try clear hx150_3
             try clear hx151_0
             try clear hx151_1
             try clear hx151_2
             try clear hx151_3
             try clear hx152_0
             try clear hx152_1
             try clear hx152_2
             try clear hx152_3
             try clear p145
             try clear p150
             try clear p151
             try clear p152
             try clear q145
             try clear q150
             try clear q151
             try clear q152
             obtain ⟨kq,HA,HJ154,BK164,BK170,HB⟩:=hcut;cases kq with
             | zero=>exact absurd HA.out (by simp [laws_FnNames.j7])
             | succ kj154 =>
              have H:=HA.out;clear HA;simp only [laws_FnNames.j7] at H;replace H:=Option.bind_eq_some_iff.mp H;obtain ⟨⟨t176,t177,t178,t179,t180⟩,A1680,H⟩:=H;(try dsimp only at H);have A168:=Aside0.mk A1680;clear A1680;replace H:=Option.bind_eq_some_iff.mp H;obtain ⟨⟨t183,t184⟩,A1690,H⟩:=H;(try dsimp only at H);have A169:=Aside0.mk A1690;clear A1690;replace H:=Option.bind_eq_some_iff.mp H;obtain ⟨⟨t187,t188⟩,A1700,H⟩:=H;(try dsimp only at H);have A170:=Aside0.mk A1700;clear A1700;have HC171:=Aside0.mk H;clear H;go_upto_region 43 with (first | ((with_reducible refine gate_callee (f:=65) rfl ?_);refine goesL_ (some 293) rfl rfl Try.func65 (by kernel_rfl) rfl #[.slice A1 l1.length c1] rfl (q22_) ?_;(with_reducible refine (spec_DrawRenamePerson.calls kj154 _ _ l1 t176 t177 t178 t179 t180 _ ?side1 ?side2 A168.out).mono ?_);(case side1=>exact cX_ (Kd.C_below HR1.out HB.out));(case side2=>exact HC1.out);rintro e w172 ⟨v181,rfl,ho0,hb⟩;refine ⟨_,rfl,?_⟩;have HO182:=Aside0.mk (Kd.R_lower (Kd.R_newB (Kd.R_newB ho0 (g:=gb164) (o:=.cells #[.string t159,.int .i64 t160,.int .i64 t161,.int .i64 t162] 77 (0,0)) (q18_)) (g:=gb170) (o:=.cells #[.string t165,.int .i64 t166,.int .i64 t167,.int .i64 t168] 77 (0,0)) (by (with_reducible repeat (first | refine blk_drewN ?_ _ | refine blk_drew ?_ | refine blk_alloc ?_ _));exact BK170.out)) (below_size (q33_)));replace BK164:=bkB_ BK164 hb;replace BK170:=bkB_ BK170 hb;replace HB:=Aside0.mk (below_step (q33_) hb);(try clear hb);(try clear ho0);obtain ⟨Ao173,co173,eo173⟩:=Kd.R_slice HO182.out;subst eo173) | ((with_reducible refine gate_callee (f:=66) rfl ?_);refine goesL_ (some 305) rfl rfl Try.func66 (by kernel_rfl) rfl #[.slice Ao173 t176.length co173,.int .i64 t177,.int .i64 t178,.int .i64 t179,.int .i64 t180] rfl (q22_) ?_;(with_reducible refine (impl_RenamePerson.calls kj154 _ _ t176 t177 t178 t179 t180 t183 t184 _ ?side1 ?side2 A169.out).mono ?_);(case side1=>exact cX_ (Kd.R_reads' HO182.out).2.2);(case side2=>exact (Kd.R_reads' HO182.out).2.1);rintro e w174 ⟨v185,rfl,ho0,hb⟩;refine ⟨_,rfl,?_⟩;have HO186:=Aside0.mk (Kd.R_lower (Kd.R_newB (Kd.R_newB (Kd.R_new' ho0 (Kd.R_lt (by (with_reducible repeat (first | apply Kd.R_alloc | apply Kd.R_drewN | apply Kd.R_drew));exact HO182.out))) (g:=gb164) (o:=.cells #[.string t159,.int .i64 t160,.int .i64 t161,.int .i64 t162] 77 (0,0)) (q18_)) (g:=gb170) (o:=.cells #[.string t165,.int .i64 t166,.int .i64 t167,.int .i64 t168] 77 (0,0)) (by (with_reducible repeat (first | refine blk_drewN ?_ _ | refine blk_drew ?_ | refine blk_alloc ?_ _));exact BK170.out)) (below_size (q33_)));replace HO182:=rE_ HO182 ho0 hb;replace BK164:=bkB_ BK164 hb;replace BK170:=bkB_ BK170 hb;replace HB:=Aside0.mk (below_step (q33_) hb);(try clear hb);(try clear ho0)) | ((with_reducible refine gate_callee (f:=67) rfl ?_);refine goesL_ (some 314) rfl rfl Try.func67 (by kernel_rfl) rfl #[.slice Ao173 t176.length co173,.int .i64 t177,.int .i64 t178,.int .i64 t179,.int .i64 t180] rfl (q22_) ?_;(with_reducible refine (spec_RenamePerson.calls kj154 _ _ t176 t177 t178 t179 t180 t187 t188 _ ?side1 ?side2 A170.out).mono ?_);(case side1=>exact cX_ (Kd.R_reads' HO182.out).2.2);(case side2=>exact (Kd.R_reads' HO182.out).2.1);rintro e w175 ⟨v189,rfl,ho0,hb⟩;refine ⟨_,rfl,?_⟩;have HO190:=Aside0.mk (Kd.R_lower (Kd.R_newB (Kd.R_newB (Kd.R_new' (Kd.R_new' ho0 (Kd.R_lt (by (with_reducible repeat (first | apply Kd.R_alloc | apply Kd.R_drewN | apply Kd.R_drew));exact HO182.out))) (Kd.R_lt (by (with_reducible repeat (first | apply Kd.R_alloc | apply Kd.R_drewN | apply Kd.R_drew));exact HO186.out))) (g:=gb164) (o:=.cells #[.string t159,.int .i64 t160,.int .i64 t161,.int .i64 t162] 77 (0,0)) (q18_)) (g:=gb170) (o:=.cells #[.string t165,.int .i64 t166,.int .i64 t167,.int .i64 t168] 77 (0,0)) (by (with_reducible repeat (first | refine blk_drewN ?_ _ | refine blk_drew ?_ | refine blk_alloc ?_ _));exact BK170.out)) (below_size (q33_)));replace HO182:=rE_ HO182 ho0 hb;replace HO186:=rE_ HO186 ho0 hb;replace BK164:=bkB_ BK164 hb;replace BK170:=bkB_ BK170 hb;replace HB:=Aside0.mk (below_step (q33_) hb);(try clear hb);(try clear ho0)))
              (try simp only [Act.put,List.setIfInBounds_toArray,List.set_cons_zero,List.set_cons_succ])
              go_cut [325] (fun v325 wc=>∃ (kq : Nat) (x325_170 : Bool),v325 = .bool x325_170 ∧ Aside0 (laws_FnNames.j8 kq t177 t178 t179 t183 t184 x325_170 = some r) ∧ Aside0 (kq ≤ kj154) ∧ Aside0 (Kd.R k77 77 wc w.heap.size (fun k_=>k_ ≠ gb164 ∧ k_ ≠ gb170) v185 t183) ∧ Aside0 (wc.heap[gb164]? = some (.cells #[.string t159,.int .i64 t160,.int .i64 t161,.int .i64 t162] 77 (0,0))) ∧ Aside0 (wc.heap[gb170]? = some (.cells #[.string t165,.int .i64 t166,.int .i64 t167,.int .i64 t168] 77 (0,0))) ∧ Aside0 (Below w.heap.size w wc))
              case first=>as_aux_lemma =>
               have H:=HC171.out;clear HC171;by_cases c176 : (t184 != t188) = true
               ·rw [if_pos c176] at H;have c176b0 : (t184 != t188) = true:=c176
                (try (have c176b1 : decide (t184 = t188) = false:=by simpa using c176))
                (try (have c176b2 : (t184 == t188) = false:=by simpa using c176))
                (try (have c176b3 : ¬ (t184 = t188):=by simpa using c176))
                clear c176
                (first | rw [c176b0] | (simp only [i64_w,i32_w];rw [c176b0]) | skip)
                first | with_reducible exact (laws_FnNames.j0_no H ht_.out).elim | with_reducible exact (laws_FnNames.j6_no H ht_.out).elim | with_reducible exact (laws_FnNames.j8_no H ht_.out).elim | with_reducible exact (laws_FnNames.j3_no H ht_.out).elim
               ·rw [if_neg c176] at H;have c176b0 : (t184 != t188) = false:=by simpa using c176
                (try (have c176b1 : decide (t184 = t188) = true:=by simpa using c176))
                (try (have c176b2 : (t184 == t188) = true:=by simpa using c176))
                clear c176
                (first | rw [c176b0] | (simp only [i64_w,i32_w];rw [c176b0]) | skip)
                replace H:=Option.bind_eq_some_iff.mp H;obtain ⟨t191,A1770,H⟩:=H;(try dsimp only at H);have A177:=Aside0.mk A1770;clear A1770;have H' := Aside0.mk H;clear H;obtain ⟨Ao178,co178,eo178⟩:=Kd.R_slice HO186.out;subst eo178;obtain ⟨Ao179,co179,eo179⟩:=Kd.R_slice HO190.out;subst eo179;go_wp2_with (first | (go_at_call 55;(with_reducible refine (laws_pSamePeople.calls kj154 _ _ t183 _ _ t187 t191 _ ?side1 ?side2 ?side3 ?side4 A177.out).mono ?_);(case side1=>exact cX_ (Kd.R_reads' HO186.out).2.2);(case side2=>exact (Kd.R_reads' HO186.out).2.1);(case side3=>exact cX_ (Kd.R_reads' HO190.out).2.2);(case side4=>exact (Kd.R_reads' HO190.out).2.1);rintro e w' ⟨rfl,⟨nd,rfl⟩⟩))
                go_meet
                case rel=>exact ⟨_,(!t191),(q1_),H', ⟨by have:=HJ11.out;have:=HJ83.out;have:=HJ97.out;have:=HJ139.out;have:=HJ154.out;first | omega | exact Nat.le_refl _⟩,⟨by (with_reducible repeat (first | apply Kd.R_alloc | apply Kd.R_drewN | apply Kd.R_drew));exact Kd.R_mono HO186.out (fun _ hk=>⟨hk.1.1.2,hk.1.2⟩)⟩,⟨q18_⟩,⟨by (with_reducible repeat (first | refine blk_drewN ?_ _ | refine blk_drew ?_ | refine blk_alloc ?_ _));exact BK170.out⟩,⟨q33_⟩⟩
              case rest=>as_aux_lemma =>
               clear HC171;try clear c1
               try clear c99
               try clear c115
               try clear c115b0
               try clear c116
               try clear c117
               try clear c119
               try clear c120
               try clear c121
               try clear c121b0
               try clear c121b1
               try clear c122
               try clear c122b0
               try clear c122b1
               try clear c128
               try clear c128b0
               try clear c129
               try clear c129b0
               try clear c130
               try clear c130b0
               try clear c130b1
               try clear c131
               try clear c131b0
               try clear c131b1
               try clear p145
               try clear q145
               try clear c150
               try clear c150b0
               try clear c150b1
               try clear c150b2
               try clear p150
               try clear q150
               try clear p151
               try clear q151
               try clear p152
               try clear q152
               try clear c154
               try clear c156
               try clear c158
               try clear c159
               try clear c159b0
               try clear c159b1
               try clear c161
               try clear c176
               try clear c176b0
               try clear c176b1
               try clear c176b2
               try clear hcz133_0
               try clear hcz133_1
               try clear hcz133_2
               try clear hcz133_3
               try clear hcz145_0
               try clear hcz145_1
               try clear hcz145_2
               try clear hcz145_3
               try clear hcz149_0
               try clear hcz149_1
               try clear hcz149_2
               try clear hcz149_3
               try clear hcz152_0
               try clear hcz152_1
               try clear hcz152_2
               try clear hcz152_3
               try clear hcz153_0
               try clear hcz153_1
               try clear hcz153_2
               try clear hcz153_3
               try clear hcz163_0
               try clear hcz163_1
               try clear hcz163_2
               try clear hcz163_3
               try clear hcz166_0
               try clear hcz166_1
               try clear hcz166_2
               try clear hcz166_3
               try clear hfz133_0
               try clear hfz133_1
               try clear hfz133_2
               try clear hfz133_3
               try clear hfz145_0
               try clear hfz145_1
               try clear hfz145_2
               try clear hfz145_3
               try clear hfz149_0
               try clear hfz149_1
               try clear hfz149_2
               try clear hfz149_3
               try clear hfz152_0
               try clear hfz152_1
               try clear hfz152_2
               try clear hfz152_3
               try clear hfz153_0
               try clear hfz153_1
               try clear hfz153_2
               try clear hfz153_3
               try clear hfz163_0
               try clear hfz163_1
               try clear hfz163_2
               try clear hfz163_3
               try clear hfz166_0
               try clear hfz166_1
               try clear hfz166_2
               try clear hfz166_3
               try clear hx145_0
               try clear hx145_1
               try clear hx145_2
               try clear hx145_3
               try clear hx150_0
               try clear hx150_1
               try clear hx150_2
               try clear hx150_3
               try clear hx151_0
               try clear hx151_1
               try clear hx151_2
               try clear hx151_3
               try clear hx152_0
               try clear hx152_1
               try clear hx152_2
               try clear hx152_3
               try clear p145
               try clear p150
               try clear p151
               try clear p152
               try clear q145
               try clear q150
               try clear q151
               try clear q152
               obtain ⟨kq,x325_170,rfl,HA,HJ170,HO_42,BK164,BK170,HB⟩:=hcut;cases kq with
               | zero=>exact absurd HA.out (by simp [laws_FnNames.j8])
               | succ kj170 =>
                have H:=HA.out;clear HA;simp only [laws_FnNames.j8] at H;by_cases c180 : x325_170 = true
                ·subst c180;have H1 : (some false) = some r:=by rw [if_pos rfl] at H;exact H
                 clear H;have H:=H1;clear H1;exact absurd (Option.some.inj H) (by rw [ht_.out];decide)
                ·replace c180:=Bool.eq_false_iff.mpr c180;subst c180;have H1 : (if t184 = true then ((impl_WhoIs.f kj170 t183 t178 t179).bind fun bt192=>(if bt192.2 = true then ((laws_sameInts.f kj170 bt192.1 (([t177] : List Int))).bind fun t199=>(if t199 = true then ((impl_ArePeople.f kj170 t183).bind fun t200=>(some t200)) else (some false))) else (some false))) else (some true)) = some r:=by rw [if_neg (show ¬ (false = true) by decide)] at H;exact H
                 clear H;have H:=H1;clear H1;by_cases c181 : t184 = true
                 ·subst c181;have H1 : ((impl_WhoIs.f kj170 t183 t178 t179).bind fun bt192=>(if bt192.2 = true then ((laws_sameInts.f kj170 bt192.1 (([t177] : List Int))).bind fun t199=>(if t199 = true then ((impl_ArePeople.f kj170 t183).bind fun t200=>(some t200)) else (some false))) else (some false))) = some r:=by rw [if_pos rfl] at H;exact H
                  clear H;have H:=H1;clear H1;replace H:=Option.bind_eq_some_iff.mp H;obtain ⟨⟨t192,t193⟩,A1820,H⟩:=H;(try dsimp only at H);have A182:=Aside0.mk A1820;clear A1820;by_cases c183 : t193 = true
                  ·subst c183;have H1 : ((laws_sameInts.f kj170 t192 (([t177] : List Int))).bind fun t199=>(if t199 = true then ((impl_ArePeople.f kj170 t183).bind fun t200=>(some t200)) else (some false))) = some r:=by rw [if_pos rfl] at H;exact H
                   clear H;have H:=H1;clear H1;obtain ⟨y196,hy196⟩ : ∃ y_ : List Int,y_ = (([t177] : List Int)):=⟨_,rfl⟩;replace H : ((laws_sameInts.f kj170 t192 y196).bind fun t199=>(if t199 = true then ((impl_ArePeople.f kj170 t183).bind fun t200=>(some t200)) else (some false))) = some r:=by first | (rw [hy196];with_reducible exact H) | (have H2_:=(Option.bind_some _ _).symm.trans H;rw [hy196];with_reducible exact H2_) | (have H2_:=(Option.bind_some _ _).symm.trans H;with_reducible exact H2_) | with_reducible exact H | (rw [hy196];exact H) | exact H
                   have Ny196:=Aside0.mk hy196;clear hy196;replace H:=Option.bind_eq_some_iff.mp H;obtain ⟨t199,A1840,H⟩:=H;(try dsimp only at H);have A184:=Aside0.mk A1840;clear A1840;by_cases c185 : t199 = true
                   ·subst c185;have H1 : ((impl_ArePeople.f kj170 t183).bind fun t200=>(some t200)) = some r:=by rw [if_pos rfl] at H;exact H
                    clear H;have H:=H1;clear H1;replace H:=Option.bind_eq_some_iff.mp H;obtain ⟨t200,A1860,H⟩:=H;(try dsimp only at H);have A186:=Aside0.mk A1860;clear A1860;obtain rfl:=Option.some.inj H;obtain ⟨Ao187,co187,eo187⟩:=Kd.R_slice HO_42.out;subst eo187;go_wp2_with (first | ((with_reducible refine gate_callee (f:=63) rfl ?_);refine goesL_ (some 331) rfl rfl Try.func63 (by kernel_rfl) rfl #[.slice Ao187 t183.length co187,.int .i64 t178,.int .i64 t179] rfl (q22_) ?_;(with_reducible refine (impl_WhoIs.calls kj170 _ _ t183 t178 t179 t192 true _ ?side1 ?side2 A182.out).mono ?_);(case side1=>exact cX_ (Kd.R_reads' HO_42.out).2.2);(case side2=>exact (Kd.R_reads' HO_42.out).2.1);rintro e w188 ⟨v194,rfl,ho0,hb⟩;refine ⟨_,rfl,?_⟩;replace HO_42:=rB_ HO_42 hb;have HO195:=Aside0.mk (Kd.R_lower ho0 (below_size (q33_)));replace BK164:=bkB_ BK164 hb;replace BK170:=bkB_ BK170 hb;replace HB:=Aside0.mk (below_step (q33_) hb);(try clear hb);(try clear hk);(try clear ho0)) | ((with_reducible refine gate_dst (N:=338) rfl ?_);(try (refine gate_guard (by rfl) ?_;dsimp only));refine Kd.R_lit (Kd.int .i64) _ 3 ?hg (N:=338) ?hd (xs:=([t177] : List Int)) (inner:=[.int .i64 t177]) (ok:=fun _=>True) (okp:=fun _=>True) ?hr ?hp (fun _ hk=>hk) trivial (Below.refl _ _) (Nat.le_refl _) (by simp) ?_;(case hd=>rfl);(case hg=>rfl);(case hr=>first | (go_simp;done) | (go_simp;rfl));(case hp=>exact (Reps.one (show Kd.M (Kd.int .i64) _ _ _ t177 [.int .i64 t177] from rfl) (Reps.none _ _)));intro v197 w189 ho190 hb hg_ hnew_;clear hg_ hnew_;(first | rw [← Ny196.out] at ho190 | (simp only [Int.reduceToNat] at ho190;rw [← Ny196.out] at ho190));replace HO_42:=rB_ HO_42 hb;have HO198:=Aside0.mk (Kd.R_lower (Kd.R_new' ho190 (Kd.R_lt (by (with_reducible repeat (first | apply Kd.R_alloc | apply Kd.R_drewN | apply Kd.R_drew));exact HO195.out))) (below_size (q33_)));replace HO195:=rE_ HO195 ho190 hb;replace BK164:=bkB_ BK164 hb;replace BK170:=bkB_ BK170 hb;replace HB:=Aside0.mk (below_step (q33_) hb);clear hb ho190;obtain ⟨Ao191,co191,eo191⟩:=Kd.R_slice HO195.out;subst eo191;obtain ⟨Ao192,co192,eo192⟩:=Kd.R_slice HO198.out;subst eo192) | (go_at_call 56;(with_reducible refine (laws_sameInts.calls kj170 _ _ t192 _ _ y196 true _ ?side1 ?side2 ?side3 ?side4 A184.out).mono ?_);(case side1=>exact cX_ (Kd.R_reads' HO195.out).2.2);(case side2=>exact (Kd.R_reads' HO195.out).2.1);(case side3=>exact cX_ (Kd.R_reads' HO198.out).2.2);(case side4=>exact (Kd.R_reads' HO198.out).2.1);rintro e w' ⟨rfl,⟨nd,rfl⟩⟩) | (go_at_call 58;(with_reducible refine (impl_ArePeople.calls kj170 _ _ t183 t200 _ ?side1 ?side2 A186.out).mono ?_);(case side1=>exact cX_ (Kd.R_reads' HO_42.out).2.2);(case side2=>exact (Kd.R_reads' HO_42.out).2.1);rintro e w193 ⟨rfl,hb⟩;replace HO_42:=rB_ HO_42 hb;replace HO195:=rB_ HO195 hb;replace HO198:=rB_ HO198 hb;replace BK164:=bkB_ BK164 hb;replace BK170:=bkB_ BK170 hb;replace HB:=Aside0.mk (below_step (q33_) hb);(try clear hb)))
                    go_ret;exact ⟨q4_,q33_⟩
                   ·replace c185:=Bool.eq_false_iff.mpr c185;subst c185;have H1 : (some false) = some r:=by rw [if_neg (show ¬ (false = true) by decide)] at H;exact H
                    clear H;have H:=H1;clear H1;exact absurd (Option.some.inj H) (by rw [ht_.out];decide)
                  ·replace c183:=Bool.eq_false_iff.mpr c183;subst c183;have H1 : (some false) = some r:=by rw [if_neg (show ¬ (false = true) by decide)] at H;exact H
                   clear H;have H:=H1;clear H1;exact absurd (Option.some.inj H) (by rw [ht_.out];decide)
                 ·replace c181:=Bool.eq_false_iff.mpr c181;subst c181;have H1 : (some true) = some r:=by rw [if_neg (show ¬ (false = true) by decide)] at H;exact H
                  clear H;have H:=H1;clear H1;obtain rfl:=Option.some.inj H;go_wp2;go_ret;exact ⟨q4_,q33_⟩
def laws_FnNames.Pure : Prop:=∀ (l0 : List Int) (l1 : List Int),((∀ a_,a_ ∈ l0 → (Lit.int .u8 a_).wf = true) ∧ l0.length * 1 ≤ 140737488351232) → ((∀ a_,a_ ∈ l1 → (Lit.int .u8 a_).wf = true) ∧ l1.length * 1 ≤ 140737488351232) → ∃ k,laws_FnNames.f k l0 l1 = some true
theorem laws_FnNames.walk (P : laws_FnNames.Pure) (A0 : Option Addr) (c0 : Nat) (l0 : List Int) (A1 : Option Addr) (c1 : Nat) (l1 : List Int) (w : World) (hr0 : Kd.C (Kd.int .u8) w A0 l0.length l0) (hc0 : l0.length ≤ c0) (hr1 : Kd.C (Kd.int .u8) w A1 l1.length l1) (hc1 : l1.length ≤ c1) (b0 : ((∀ a_,a_ ∈ l0 → (Lit.int .u8 a_).wf = true) ∧ l0.length * 1 ≤ 140737488351232)) (b1 : ((∀ a_,a_ ∈ l1 → (Lit.int .u8 a_).wf = true) ∧ l1.length * 1 ≤ 140737488351232)) :
  Calls Try.prog 8 #[.slice A0 l0.length c0,.slice A1 l1.length c1] w fun e w' => e = .returned (.bool true) ∧ Below w.heap.size w w' := by
 obtain ⟨k,h⟩:=P l0 l1 b0 b1;refine (laws_FnNames.calls k A0 c0 l0 A1 c1 l1 true w hr0 hc0 hr1 hc1 ⟨rfl⟩ h).mono ?_;rintro e w' ⟨rfl,hd⟩;exact ⟨rfl,hd⟩
end
end Go.Proofs.Ytgapcmmhbegdeaa.G
