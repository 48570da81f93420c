-- Written by this session's own program over the kit's print (wip/tools/myprint.py); Lean checks it.
import Derived.Test.YtglcpghappepaaaGreatDoorMBase
import Derived.Test.YtglcpghappepaaaGreatDoorG0
import Derived.Test.YtglcpghappepaaaGreatDoorG4
import Derived.Test.YtglcpghappepaaaGreatDoorG5
import Derived.Test.YtglcpghappepaaaGreatDoorG6
import Derived.Test.YtglcpghappepaaaGreatDoorG12
import Derived.Test.YtglcpghappepaaaGreatDoorG14
import Derived.Test.YtglcpghappepaaaGreatDoorG15
import Derived.Test.YtglcpghappepaaaGreatDoorG16
import Derived.Test.YtglcpghappepaaaGreatDoorG17
import Derived.Test.YtglcpghappepaaaGreatDoorG19
import Derived.Test.YtglcpghappepaaaGreatDoorG20
import Derived.Test.YtglcpghappepaaaGreatDoorG22
import Derived.Test.YtglcpghappepaaaGreatDoorG23
import Derived.Test.YtglcpghappepaaaGreatDoorG24
import Derived.Test.YtglcpghappepaaaGreatDoorG25
import Derived.Test.YtglcpghappepaaaGreatDoorMTabA
namespace Go.Proofs.YtglcpghappepaaaGreatDoor.G
open Go.RowKit Go.Proofs.YtglcpghappepaaaGreatDoorW.PrintWords Go.Proofs.YtglcpghappepaaaGreatDoorW.PrintLast Go.Proofs.YtglcpghappepaaaGreatDoorW.PrintMore
attribute [local go_sem] max2_int min2_int max_two min_two max_three min_three max_four min_four str_geq str_gtr str_leq   -- for this text's walks alone
set_option linter.unusedVariables false
set_option linter.unusedSimpArgs false
attribute [local go_sem high] eqA25
/-! ### laws_FnTiers: function 3 -/
mutual
def laws_FnTiers.j0 : Nat → List (S25) → List (S25) → Bool → List (S25) → List (S25) → Int → Int → Bool → Int → List (List Int) → List (S25) → List (S25) → ByteArray → Bool → Bool → Int → Int → ByteArray → Option (Bool)
 | 0,_,_,_,_,_,_,_,_,_,_,_,_,_,_,_,_,_,_=>none
 | k + 1,x5,x7,x8,x9,x11,x12,x13,x15,x16,x20,x22,x26,x27,x28,x226,x108000,x108001,x108002=>if x226 = true then (some false) else (if x8 = true then ((yAp.f k x7 x108000).bind fun bt164=>((yBI.f k x9 x108000).bind fun bt166=>(if bt164.2 = true then (if bt166.2 = true then (if bt164.1 = bt166.1 then (if 0 ≤ bt166.1 then (if bt166.1 < (x9.length : Int) then (if (!(((rd_T25 x9 bt166.1).f0) == x108000) || (!(((rd_T25 x9 bt166.1).f1) == x108001) || (!((((rd_T25 x9 bt166.1).f2).toList) == x108002.toList)))) = true then (some false) else (if (x9.length : Int) = (wrap64 ((x5.length : Int) + 1)) then ((yAH.f k x7).bind fun t169=>(if t169 = true then (laws_FnTiers.j1 k x11 x12 x13 x15 x16 x20 x22 x26 x27 x28) else (some false))) else (some false))) else (none)) else (none)) else (some false)) else (some false)) else (some false)))) else (laws_FnTiers.j1 k x11 x12 x13 x15 x16 x20 x22 x26 x27 x28))
def laws_FnTiers.j1 : Nat → List (S25) → Int → Int → Bool → Int → List (List Int) → List (S25) → List (S25) → ByteArray → Bool → Option (Bool)
 | 0,_,_,_,_,_,_,_,_,_,_=>none
 | k + 1,x11,x12,x13,x15,x16,x20,x22,x26,x27,x28=>if x15 = true then (laws_FnTiers.l0 k x11 x12 x13 x16 x22 x26 x27 x28 0 x20 (x20.length : Int) 0) else (laws_FnTiers.j3 k x26 x27 x28)
def laws_FnTiers.j3 : Nat → List (S25) → ByteArray → Bool → Option (Bool)
 | 0,_,_,_=>none
 | k + 1,x26,x27,x28=>if x28 = true then ((yAC.f k x27).bind fun bt179=>(if bt179.2 = true then ((yAd.f k bt179.1 x26).bind fun t183=>(some t183)) else (some false))) else (some true)
def laws_FnTiers.l0 : Nat → List (S25) → Int → Int → Int → List (S25) → List (S25) → ByteArray → Bool → Int → List (List Int) → Int → Int → Option (Bool)
 | 0,_,_,_,_,_,_,_,_,_,_,_,_=>none
 | k + 1,x11,x12,x13,x16,x22,x26,x27,x28,x40,x275,x276,x277=>if x277 < x276 then (if 0 ≤ x277 then (if x277 < (x275.length : Int) then (if 1 < ((rd_L13 x275 x277).length : Int) then (if 0 < ((rd_L13 x275 x277).length : Int) then ((yAp.f k x11 (rd (rd_L13 x275 x277) 0)).bind fun bt174=>(if bt174.2 = true then (some false) else (if (rd (rd_L13 x275 x277) 0) ≥ (rd (rd_L13 x275 x277) 1) then (some false) else (laws_FnTiers.l0 k x11 x12 x13 x16 x22 x26 x27 x28 (wrap64 (x40 + (wrap64 ((rd (rd_L13 x275 x277) 1) - (rd (rd_L13 x275 x277) 0))))) x275 x276 (wrap64 (x277 + 1)))))) else (none)) else (none)) else (none)) else (none)) else (if (wrap64 (x16 + x40)) = (wrap64 (x13 - x12)) then ((yAH.f k x22).bind fun t178=>(if t178 = true then (laws_FnTiers.j3 k x26 x27 x28) else (some false))) else (some false))
end
def laws_FnTiers.f (k : Nat) (l0 : List Int) (l1 : List Int) : Option (Bool):=if (wrap64 ((l0.length : Int) + (l1.length : Int))) > 1048576 then (some true) else ((yAP.f k l0).bind fun bt101=>((yAZ.f k bt101.1 bt101.2.1 bt101.2.2.1 bt101.2.2.2).bind fun bt108=>((yAn.f k bt101.1 bt101.2.1 bt101.2.2.1 bt101.2.2.2).bind fun bt112=>((yA5.f k l1).bind fun bt116=>((yAM.f k bt116.1 bt116.2.1 bt116.2.2).bind fun bt121=>((yAU.f k bt116.1 bt116.2.1 bt116.2.2).bind fun bt123=>((yAS.f k bt116.1 bt116.2.1 bt116.2.2).bind fun bt125=>((yAg.f k bt116.1 bt116.2.1 bt116.2.2).bind fun bt129=>((yBF.f k bt116.1 bt116.2.1 bt116.2.2).bind fun bt133=>((yBG.f k bt116.1 bt116.2.1 bt116.2.2).bind fun bt137=>((yA8.f k l1).bind fun t141=>((yBD.f k t141).bind fun bt144=>((yBE.f k t141).bind fun bt146=>((yAN.f k l1).bind fun t148=>((yAC.f k t148).bind fun bt149=>((yAK.f k t148).bind fun bt153=>(if (bt108.2 != bt112.2) = true then (laws_FnTiers.j0 k bt101.1 bt108.1 bt108.2 bt112.1 bt116.1 bt116.2.1 bt116.2.2 bt121.2 bt123.1 bt129.1 bt133.1 t141 bt144.1 bt144.2 true bt101.2.1 bt101.2.2.1 bt101.2.2.2) else ((yAd.f k bt108.1 bt112.1).bind fun t157=>(if t157 = true then (if (bt121.2 != bt123.2) = true then (laws_FnTiers.j0 k bt101.1 bt108.1 bt108.2 bt112.1 bt116.1 bt116.2.1 bt116.2.2 bt121.2 bt123.1 bt129.1 bt133.1 t141 bt144.1 bt144.2 true bt101.2.1 bt101.2.2.1 bt101.2.2.2) else (if bt121.1 = bt123.1 then (if (bt125.2 != bt129.2) = true then (laws_FnTiers.j0 k bt101.1 bt108.1 bt108.2 bt112.1 bt116.1 bt116.2.1 bt116.2.2 bt121.2 bt123.1 bt129.1 bt133.1 t141 bt144.1 bt144.2 true bt101.2.1 bt101.2.2.1 bt101.2.2.2) else ((yAr.f k bt125.1 bt129.1).bind fun t158=>(if t158 = true then (if (bt133.2 != bt137.2) = true then (laws_FnTiers.j0 k bt101.1 bt108.1 bt108.2 bt112.1 bt116.1 bt116.2.1 bt116.2.2 bt121.2 bt123.1 bt129.1 bt133.1 t141 bt144.1 bt144.2 true bt101.2.1 bt101.2.2.1 bt101.2.2.2) else ((yAd.f k bt133.1 bt137.1).bind fun t159=>(if t159 = true then (if (bt144.2 != bt146.2) = true then (laws_FnTiers.j0 k bt101.1 bt108.1 bt108.2 bt112.1 bt116.1 bt116.2.1 bt116.2.2 bt121.2 bt123.1 bt129.1 bt133.1 t141 bt144.1 bt144.2 true bt101.2.1 bt101.2.2.1 bt101.2.2.2) else (if bt144.1.toList = bt146.1.toList then (if (bt149.2 != bt153.2) = true then (laws_FnTiers.j0 k bt101.1 bt108.1 bt108.2 bt112.1 bt116.1 bt116.2.1 bt116.2.2 bt121.2 bt123.1 bt129.1 bt133.1 t141 bt144.1 bt144.2 true bt101.2.1 bt101.2.2.1 bt101.2.2.2) else ((yAd.f k bt149.1 bt153.1).bind fun t160=>(if t160 = true then (if (bt125.2 != bt121.2) = true then (laws_FnTiers.j0 k bt101.1 bt108.1 bt108.2 bt112.1 bt116.1 bt116.2.1 bt116.2.2 bt121.2 bt123.1 bt129.1 bt133.1 t141 bt144.1 bt144.2 true bt101.2.1 bt101.2.2.1 bt101.2.2.2) else (if (bt133.2 != bt121.2) = true then (laws_FnTiers.j0 k bt101.1 bt108.1 bt108.2 bt112.1 bt116.1 bt116.2.1 bt116.2.2 bt121.2 bt123.1 bt129.1 bt133.1 t141 bt144.1 bt144.2 true bt101.2.1 bt101.2.2.1 bt101.2.2.2) else ((yAH.f k t141).bind fun t161=>(if (bt144.2 != t161) = true then (laws_FnTiers.j0 k bt101.1 bt108.1 bt108.2 bt112.1 bt116.1 bt116.2.1 bt116.2.2 bt121.2 bt123.1 bt129.1 bt133.1 t141 bt144.1 bt144.2 true bt101.2.1 bt101.2.2.1 bt101.2.2.2) else ((yA1.f k bt101.2.1 bt101.2.2.1 bt101.2.2.2).bind fun t162=>((yBH.f k bt101.2.1 bt101.2.2.1 bt101.2.2.2).bind fun t163=>(laws_FnTiers.j0 k bt101.1 bt108.1 bt108.2 bt112.1 bt116.1 bt116.2.1 bt116.2.2 bt121.2 bt123.1 bt129.1 bt133.1 t141 bt144.1 bt144.2 (t162 != t163) bt101.2.1 bt101.2.2.1 bt101.2.2.2))))))) else (laws_FnTiers.j0 k bt101.1 bt108.1 bt108.2 bt112.1 bt116.1 bt116.2.1 bt116.2.2 bt121.2 bt123.1 bt129.1 bt133.1 t141 bt144.1 bt144.2 true bt101.2.1 bt101.2.2.1 bt101.2.2.2)))) else (laws_FnTiers.j0 k bt101.1 bt108.1 bt108.2 bt112.1 bt116.1 bt116.2.1 bt116.2.2 bt121.2 bt123.1 bt129.1 bt133.1 t141 bt144.1 bt144.2 true bt101.2.1 bt101.2.2.1 bt101.2.2.2))) else (laws_FnTiers.j0 k bt101.1 bt108.1 bt108.2 bt112.1 bt116.1 bt116.2.1 bt116.2.2 bt121.2 bt123.1 bt129.1 bt133.1 t141 bt144.1 bt144.2 true bt101.2.1 bt101.2.2.1 bt101.2.2.2)))) else (laws_FnTiers.j0 k bt101.1 bt108.1 bt108.2 bt112.1 bt116.1 bt116.2.1 bt116.2.2 bt121.2 bt123.1 bt129.1 bt133.1 t141 bt144.1 bt144.2 true bt101.2.1 bt101.2.2.1 bt101.2.2.2)))) else (laws_FnTiers.j0 k bt101.1 bt108.1 bt108.2 bt112.1 bt116.1 bt116.2.1 bt116.2.2 bt121.2 bt123.1 bt129.1 bt133.1 t141 bt144.1 bt144.2 true bt101.2.1 bt101.2.2.1 bt101.2.2.2))) else (laws_FnTiers.j0 k bt101.1 bt108.1 bt108.2 bt112.1 bt116.1 bt116.2.1 bt116.2.2 bt121.2 bt123.1 bt129.1 bt133.1 t141 bt144.1 bt144.2 true bt101.2.1 bt101.2.2.1 bt101.2.2.2))))))))))))))))))))
def laws_FnTiers.T19 : Bool × List (List Nat × List Nat):=(true,[([],[]),([],[]),([0,1],[0,1]),([2],[2]),([3],[3]),([3],[3]),([4,5,3,3],[3,4,5]),([6,3],[3,6]),([3,7],[3,7]),([8,6],[8]),([9],[9]),([9],[9]),([10,11,9],[9,10,11]),([9,12],[9,12]),([13,9],[13]),([14],[14]),([14],[14]),([15,16,14],[14,15,16]),([14,17],[14,17]),([18,14],[18]),([19],[19]),([19],[19]),([20,21,19],[19,20,21]),([19,22],[19,22]),([23,19],[23]),([24],[24]),([24],[24]),([25,26,24,24],[24,25,26]),([27,24],[24,27]),([24,28],[24,28]),([29,27],[29]),([30],[30]),([30],[30]),([31,32,30],[30,31,32]),([30,33],[30,33]),([34,30],[34]),([35],[35]),([35],[35]),([36,37,35,35],[35,36,37]),([38,35],[35,38]),([35,39],[35,39]),([40,38],[40]),([41],[41]),([41],[41]),([42,43,41],[41,42,43]),([41,44],[41,44]),([45,41],[45]),([46],[46]),([46],[46]),([47,48,46],[46,47,48]),([46,49],[46,49]),([50,46],[50]),([51],[51]),([51],[51]),([52,53,51],[51,52,53]),([51,54],[51,54]),([55,51],[55]),([56],[56]),([56],[56]),([57,58,56,56],[56,57,58]),([59,56],[56,59]),([56,60],[56,60]),([61,59],[61]),([62],[62]),([62],[62]),([63,64,62],[62,63,64]),([62,65],[62,65]),([66,62],[66]),([67],[67]),([67],[67]),([68,69,67],[67,68,69]),([67,70],[67,70]),([71,67],[71]),([72],[72]),([72],[72]),([74,72,72],[72,74]),([73,75,72],[72,73,75]),([72,76],[72,76]),([77,75],[77]),([78],[78]),([79,78,78],[78,79]),([78],[78]),([81,80,78],[78,81]),([80,82,78],[78,80,82]),([78,83],[78,83])])
def laws_FnTiers.B19 : List Nat:=[0,0,3,7,15,15,63,127,255,511,1023,1023,4095,8191,16383,32767,32767,131071,262143,524287,1048575,1048575,4194303,8388607,16777215,33554431,33554431,134217727,268435455,536870911,1073741823,2147483647,2147483647,8589934591,17179869183,34359738367,68719476735,68719476735,274877906943,549755813887,1099511627775,2199023255551,4398046511103,4398046511103,17592186044415,35184372088831,70368744177663,140737488355327,140737488355327,562949953421311,1125899906842623,2251799813685247,4503599627370495,4503599627370495,18014398509481983,36028797018963967,72057594037927935,144115188075855871,144115188075855871,576460752303423487,1152921504606846975,2305843009213693951,4611686018427387903,9223372036854775807,9223372036854775807,36893488147419103231,73786976294838206463,147573952589676412927,295147905179352825855,295147905179352825855,1180591620717411303423,2361183241434822606847,4722366482869645213695,9444732965739290427391,9444732965739290427391,28334198897217871282175,75557863725914323419135,151115727451828646838271,302231454903657293676543,604462909807314587353087,1208925819614629174706175,604462909807314587353087,4835703278458516698824703,9671406556917033397649407,19342813113834066795298815]
theorem laws_FnTiers.tab19 : rtab .any (opsOf Tryz.f3 19) = laws_FnTiers.T19:=by kernel_rfl
theorem laws_FnTiers.bits19 : waitsOk laws_FnTiers.T19.2 laws_FnTiers.B19 = true:=by kernel_rfl
def laws_FnTiers.T24 : Bool × List (List Nat × List Nat):=(true,[([],[]),([0],[0]),([1],[1]),([2],[2]),([3,2],[2,3]),([2,4],[2,4]),([5,2],[5]),([6],[6]),([6],[6]),([7,8,6],[6,7,8]),([6,9],[6,9]),([10,6],[10]),([11],[11]),([11],[11]),([12,13,11],[11,12,13]),([14,11],[11,14]),([11],[11]),([15,16,11],[11,15,16]),([11,17],[11,17]),([18,11],[18]),([19],[19]),([20,19],[19,20]),([19],[19]),([22,19],[19,22]),([23,19],[19,23]),([21,24,19],[19,21,24]),([19,25],[19,25]),([26,19],[26]),([27],[27]),([28,27,27],[27,28]),([29,27],[27,29]),([27,30],[27,30])])
def laws_FnTiers.B24 : List Nat:=[0,1,3,7,15,31,63,127,127,511,1023,2047,4095,4095,16383,32767,4095,131071,262143,524287,1048575,2097151,1048575,5242879,13631487,33554431,67108863,134217727,268435455,536870911,1073741823,2147483647]
theorem laws_FnTiers.tab24 : rtab .any (opsOf Tryz.f3 24) = laws_FnTiers.T24:=by kernel_rfl
theorem laws_FnTiers.bits24 : waitsOk laws_FnTiers.T24.2 laws_FnTiers.B24 = true:=by kernel_rfl
def laws_FnTiers.T31 : Bool × List (List Nat × List Nat):=(true,[([],[]),([],[]),([1],[1]),([2],[2]),([],[]),([4],[4]),([5],[5]),([3,6],[3,6]),([0,7],[0,7]),([8,0,1,2,3,4,5,6,7,8],[0,8])])
def laws_FnTiers.B31 : List Nat:=[0,0,2,6,0,16,48,126,255,511]
theorem laws_FnTiers.tab31 : rtab .any (opsOf Tryz.f3 31) = laws_FnTiers.T31:=by kernel_rfl
theorem laws_FnTiers.bits31 : waitsOk laws_FnTiers.T31.2 laws_FnTiers.B31 = true:=by kernel_rfl
def laws_FnTiers.T33 : Bool × List (List Nat × List Nat):=(true,[([],[]),([0],[0]),([1],[1]),([2,1],[1,2]),([3,1],[1,3]),([1],[1]),([5,1],[1,5]),([6,1],[1,6]),([4,7,1],[1,4,7]),([1,8],[1,8])])
def laws_FnTiers.B33 : List Nat:=[0,1,3,7,15,3,35,99,255,511]
theorem laws_FnTiers.tab33 : rtab .any (opsOf Tryz.f3 33) = laws_FnTiers.T33:=by kernel_rfl
theorem laws_FnTiers.bits33 : waitsOk laws_FnTiers.T33.2 laws_FnTiers.B33 = true:=by kernel_rfl
theorem laws_FnTiers.j0_no {k : Nat} {y0 : _} {y1 : _} {y2 : _} {y3 : _} {y4 : _} {y5 : _} {y6 : _} {y7 : _} {y8 : _} {y9 : _} {y10 : _} {y11 : _} {y12 : _} {y13 : _} {y15 : _} {y16 : _} {y17 : _} {r : Bool} (h : laws_FnTiers.j0 k y0 y1 y2 y3 y4 y5 y6 y7 y8 y9 y10 y11 y12 y13 true y15 y16 y17 = some r) (hr : r = true) : False:=by
 subst hr;cases k with
 | zero=>simp [laws_FnTiers.j0] at h
 | succ k=>rw [laws_FnTiers.j0.eq_2,if_pos rfl] at h;exact absurd (Option.some.inj h) (by decide)
set_option maxHeartbeats 8000000 in
set_option maxRecDepth 100000 in
theorem laws_FnTiers.calls (k : Nat) (A0 : Option Addr) (c0 : Nat) (l0 : List Int) (A1 : Option Addr) (c1 : Nat) (l1 : List Int) (r : Bool) (w : World) (hT : MTabA.Tab w) (hr0 : Kd.C (Kd.int .u8) w A0 l0.length l0) (hc0 : l0.length ≤ c0) (hr1 : Kd.C (Kd.int .u8) w A1 l1.length l1) (hc1 : l1.length ≤ c1) (ht_ : Aside0 (r = true)) (h : laws_FnTiers.f k l0 l1 = some r) :
  Calls Tryz.prog 3 #[.slice A0 l0.length c0,.slice A1 l1.length c1] w fun e w' => e = .returned (.bool r) ∧ Below w.heap.size w w' := by
 have hu25:=Tryz.underlying25;have HR0:=Aside0.mk hr0;have HC0:=Aside0.mk hc0;clear hr0 hc0;have HR1:=Aside0.mk hr1;have HC1:=Aside0.mk hc1;clear hr1 hc1;have HTab:=Aside0.mk (MTabA.all hT);clear hT;have HB:=Aside0.mk (Below.refl w.heap.size w);have H : (if (wrap64 ((l0.length : Int) + (l1.length : Int))) > 1048576 then (some true) else ((yAP.f k l0).bind fun bt101=>((yAZ.f k bt101.1 bt101.2.1 bt101.2.2.1 bt101.2.2.2).bind fun bt108=>((yAn.f k bt101.1 bt101.2.1 bt101.2.2.1 bt101.2.2.2).bind fun bt112=>((yA5.f k l1).bind fun bt116=>((yAM.f k bt116.1 bt116.2.1 bt116.2.2).bind fun bt121=>((yAU.f k bt116.1 bt116.2.1 bt116.2.2).bind fun bt123=>((yAS.f k bt116.1 bt116.2.1 bt116.2.2).bind fun bt125=>((yAg.f k bt116.1 bt116.2.1 bt116.2.2).bind fun bt129=>((yBF.f k bt116.1 bt116.2.1 bt116.2.2).bind fun bt133=>((yBG.f k bt116.1 bt116.2.1 bt116.2.2).bind fun bt137=>((yA8.f k l1).bind fun t141=>((yBD.f k t141).bind fun bt144=>((yBE.f k t141).bind fun bt146=>((yAN.f k l1).bind fun t148=>((yAC.f k t148).bind fun bt149=>((yAK.f k t148).bind fun bt153=>(if (bt108.2 != bt112.2) = true then (laws_FnTiers.j0 k bt101.1 bt108.1 bt108.2 bt112.1 bt116.1 bt116.2.1 bt116.2.2 bt121.2 bt123.1 bt129.1 bt133.1 t141 bt144.1 bt144.2 true bt101.2.1 bt101.2.2.1 bt101.2.2.2) else ((yAd.f k bt108.1 bt112.1).bind fun t157=>(if t157 = true then (if (bt121.2 != bt123.2) = true then (laws_FnTiers.j0 k bt101.1 bt108.1 bt108.2 bt112.1 bt116.1 bt116.2.1 bt116.2.2 bt121.2 bt123.1 bt129.1 bt133.1 t141 bt144.1 bt144.2 true bt101.2.1 bt101.2.2.1 bt101.2.2.2) else (if bt121.1 = bt123.1 then (if (bt125.2 != bt129.2) = true then (laws_FnTiers.j0 k bt101.1 bt108.1 bt108.2 bt112.1 bt116.1 bt116.2.1 bt116.2.2 bt121.2 bt123.1 bt129.1 bt133.1 t141 bt144.1 bt144.2 true bt101.2.1 bt101.2.2.1 bt101.2.2.2) else ((yAr.f k bt125.1 bt129.1).bind fun t158=>(if t158 = true then (if (bt133.2 != bt137.2) = true then (laws_FnTiers.j0 k bt101.1 bt108.1 bt108.2 bt112.1 bt116.1 bt116.2.1 bt116.2.2 bt121.2 bt123.1 bt129.1 bt133.1 t141 bt144.1 bt144.2 true bt101.2.1 bt101.2.2.1 bt101.2.2.2) else ((yAd.f k bt133.1 bt137.1).bind fun t159=>(if t159 = true then (if (bt144.2 != bt146.2) = true then (laws_FnTiers.j0 k bt101.1 bt108.1 bt108.2 bt112.1 bt116.1 bt116.2.1 bt116.2.2 bt121.2 bt123.1 bt129.1 bt133.1 t141 bt144.1 bt144.2 true bt101.2.1 bt101.2.2.1 bt101.2.2.2) else (if bt144.1.toList = bt146.1.toList then (if (bt149.2 != bt153.2) = true then (laws_FnTiers.j0 k bt101.1 bt108.1 bt108.2 bt112.1 bt116.1 bt116.2.1 bt116.2.2 bt121.2 bt123.1 bt129.1 bt133.1 t141 bt144.1 bt144.2 true bt101.2.1 bt101.2.2.1 bt101.2.2.2) else ((yAd.f k bt149.1 bt153.1).bind fun t160=>(if t160 = true then (if (bt125.2 != bt121.2) = true then (laws_FnTiers.j0 k bt101.1 bt108.1 bt108.2 bt112.1 bt116.1 bt116.2.1 bt116.2.2 bt121.2 bt123.1 bt129.1 bt133.1 t141 bt144.1 bt144.2 true bt101.2.1 bt101.2.2.1 bt101.2.2.2) else (if (bt133.2 != bt121.2) = true then (laws_FnTiers.j0 k bt101.1 bt108.1 bt108.2 bt112.1 bt116.1 bt116.2.1 bt116.2.2 bt121.2 bt123.1 bt129.1 bt133.1 t141 bt144.1 bt144.2 true bt101.2.1 bt101.2.2.1 bt101.2.2.2) else ((yAH.f k t141).bind fun t161=>(if (bt144.2 != t161) = true then (laws_FnTiers.j0 k bt101.1 bt108.1 bt108.2 bt112.1 bt116.1 bt116.2.1 bt116.2.2 bt121.2 bt123.1 bt129.1 bt133.1 t141 bt144.1 bt144.2 true bt101.2.1 bt101.2.2.1 bt101.2.2.2) else ((yA1.f k bt101.2.1 bt101.2.2.1 bt101.2.2.2).bind fun t162=>((yBH.f k bt101.2.1 bt101.2.2.1 bt101.2.2.2).bind fun t163=>(laws_FnTiers.j0 k bt101.1 bt108.1 bt108.2 bt112.1 bt116.1 bt116.2.1 bt116.2.2 bt121.2 bt123.1 bt129.1 bt133.1 t141 bt144.1 bt144.2 (t162 != t163) bt101.2.1 bt101.2.2.1 bt101.2.2.2))))))) else (laws_FnTiers.j0 k bt101.1 bt108.1 bt108.2 bt112.1 bt116.1 bt116.2.1 bt116.2.2 bt121.2 bt123.1 bt129.1 bt133.1 t141 bt144.1 bt144.2 true bt101.2.1 bt101.2.2.1 bt101.2.2.2)))) else (laws_FnTiers.j0 k bt101.1 bt108.1 bt108.2 bt112.1 bt116.1 bt116.2.1 bt116.2.2 bt121.2 bt123.1 bt129.1 bt133.1 t141 bt144.1 bt144.2 true bt101.2.1 bt101.2.2.1 bt101.2.2.2))) else (laws_FnTiers.j0 k bt101.1 bt108.1 bt108.2 bt112.1 bt116.1 bt116.2.1 bt116.2.2 bt121.2 bt123.1 bt129.1 bt133.1 t141 bt144.1 bt144.2 true bt101.2.1 bt101.2.2.1 bt101.2.2.2)))) else (laws_FnTiers.j0 k bt101.1 bt108.1 bt108.2 bt112.1 bt116.1 bt116.2.1 bt116.2.2 bt121.2 bt123.1 bt129.1 bt133.1 t141 bt144.1 bt144.2 true bt101.2.1 bt101.2.2.1 bt101.2.2.2)))) else (laws_FnTiers.j0 k bt101.1 bt108.1 bt108.2 bt112.1 bt116.1 bt116.2.1 bt116.2.2 bt121.2 bt123.1 bt129.1 bt133.1 t141 bt144.1 bt144.2 true bt101.2.1 bt101.2.2.1 bt101.2.2.2))) else (laws_FnTiers.j0 k bt101.1 bt108.1 bt108.2 bt112.1 bt116.1 bt116.2.1 bt116.2.2 bt121.2 bt123.1 bt129.1 bt133.1 t141 bt144.1 bt144.2 true bt101.2.1 bt101.2.2.1 bt101.2.2.2))))))))))))))))))))) = some r:=h;clear h;by_cases c3 : (wrap64 ((l0.length : Int) + (l1.length : Int))) > 1048576
 ·rw [if_pos c3] at H;have c3b0 : decide (1048576 < (wrap64 ((l0.length : Int) + (l1.length : Int)))) = true:=decide_eq_true c3;clear c3;obtain rfl:=Option.some.inj H;go_enter Tryz.func3,Tryz.ntmps3
  go_wp2;go_ret;exact ⟨q6_,q20_⟩
 ·rw [if_neg c3] at H;have c3b0 : decide (1048576 < (wrap64 ((l0.length : Int) + (l1.length : Int)))) = false:=decide_eq_false c3;clear c3;replace H:=Option.bind_eq_some_iff.mp H;obtain ⟨⟨t101,t104,t105,t106⟩,A40,H⟩:=H;(try dsimp only at H);have A4:=Aside0.mk A40;clear A40;replace H:=Option.bind_eq_some_iff.mp H;obtain ⟨⟨t108,t111⟩,A50,H⟩:=H;(try dsimp only at H);have A5:=Aside0.mk A50;clear A50;replace H:=Option.bind_eq_some_iff.mp H;obtain ⟨⟨t112,t115⟩,A60,H⟩:=H;(try dsimp only at H);have A6:=Aside0.mk A60;clear A60;replace H:=Option.bind_eq_some_iff.mp H;obtain ⟨⟨t116,t117,t118⟩,A70,H⟩:=H;(try dsimp only at H);have A7:=Aside0.mk A70;clear A70;replace H:=Option.bind_eq_some_iff.mp H;obtain ⟨⟨t121,t122⟩,A80,H⟩:=H;(try dsimp only at H);have A8:=Aside0.mk A80;clear A80;replace H:=Option.bind_eq_some_iff.mp H;obtain ⟨⟨t123,t124⟩,A90,H⟩:=H;(try dsimp only at H);have A9:=Aside0.mk A90;clear A90;replace H:=Option.bind_eq_some_iff.mp H;obtain ⟨⟨t125,t126⟩,A100,H⟩:=H;(try dsimp only at H);have A10:=Aside0.mk A100;clear A100;replace H:=Option.bind_eq_some_iff.mp H;obtain ⟨⟨t129,t130⟩,A110,H⟩:=H;(try dsimp only at H);have A11:=Aside0.mk A110;clear A110;replace H:=Option.bind_eq_some_iff.mp H;obtain ⟨⟨t133,t134⟩,A120,H⟩:=H;(try dsimp only at H);have A12:=Aside0.mk A120;clear A120;replace H:=Option.bind_eq_some_iff.mp H;obtain ⟨⟨t137,t138⟩,A130,H⟩:=H;(try dsimp only at H);have A13:=Aside0.mk A130;clear A130;replace H:=Option.bind_eq_some_iff.mp H;obtain ⟨t141,A140,H⟩:=H;(try dsimp only at H);have A14:=Aside0.mk A140;clear A140;replace H:=Option.bind_eq_some_iff.mp H;obtain ⟨⟨t144,t145⟩,A150,H⟩:=H;(try dsimp only at H);have A15:=Aside0.mk A150;clear A150;replace H:=Option.bind_eq_some_iff.mp H;obtain ⟨⟨t146,t147⟩,A160,H⟩:=H;(try dsimp only at H);have A16:=Aside0.mk A160;clear A160;replace H:=Option.bind_eq_some_iff.mp H;obtain ⟨t148,A170,H⟩:=H;(try dsimp only at H);have A17:=Aside0.mk A170;clear A170;replace H:=Option.bind_eq_some_iff.mp H;obtain ⟨⟨t149,t150⟩,A180,H⟩:=H;(try dsimp only at H);have A18:=Aside0.mk A180;clear A180;replace H:=Option.bind_eq_some_iff.mp H;obtain ⟨⟨t153,t154⟩,A190,H⟩:=H;(try dsimp only at H);have A19:=Aside0.mk A190;clear A190;have HC20:=Aside0.mk H;clear H;go_enter Tryz.func3,Tryz.ntmps3
  go_upto_region 19 with (first | ((with_reducible refine gate_callee (f:=4) rfl ?_);refine goesL_ (some 55) rfl rfl Tryz.func4 (by kernel_rfl) rfl #[.slice A0 l0.length c0] rfl (q21_) ?_;(with_reducible refine (yAP.calls k _ _ l0 t101 t104 t105 t106 _ ?side1 ?side2 A4.out).mono ?_);(case side1=>exact cX_ HR0.out);(case side2=>exact HC0.out);rintro e w21 ⟨v102,rfl,ho0,hb⟩;refine ⟨_,rfl,?_⟩;have HO103:=Aside0.mk (Kd.R_lower ho0 (below_size (q20_)));replace HB:=bS_ HB hb;(try clear hb);(try clear hk);(try clear ho0)) | ((with_reducible refine gate_dst (N:=6) rfl ?_);(try (refine gate_guard (by rfl) ?_;dsimp only));refine box_event ?hg (N:=6) ?hd (cs:=#[.int .i64 0,.int .i64 0,.string (⟨#[]⟩ : ByteArray)]) (t:=25) ?hr ?_;(case hd=>rfl);(case hg=>rfl);(case hr=>first | (go_simp;done) | (go_simp;rfl));intro gb107 hg w22 hbox hb;replace HO103:=Aside0.mk (Kd.R_below (Kd.R_elderB (q11_) gb107 (Nat.le_of_eq hg.symm)) hb);have BK107:=Aside0.mk (hbox);have GW107:=Aside0.mk ((q49_ : w.heap.size ≤ gb107));have GE107:=Aside0.mk ((q49_ : w.heap.size ≤ gb107));replace HB:=bS_ HB hb;clear hb hbox hg;obtain ⟨hcz23_0,hcz23_1,hcz23_2,hfz23_0,hfz23_1,hfz23_2⟩:=bx3_ BK107.out;obtain ⟨Ao24,co24,eo24⟩:=Kd.R_slice HO103.out;subst eo24) | ((with_reducible refine gate_callee (f:=5) rfl ?_);refine goesL_ (some 61) rfl rfl Tryz.func5 (by kernel_rfl) rfl #[.slice Ao24 t101.length co24,.agg #[.int .i64 t104,.int .i64 t105,.string t106]] rfl (q21_) ?_;(with_reducible refine (yAZ.calls k _ _ t101 t104 t105 t106 t108 t111 _ ?side1 ?side2 A5.out).mono ?_);(case side1=>refine (Kd.R_reads' (e:=25) (base:=w.heap.size) (ok:=fun k_=>(True ∧ k_ ≠ gb107)) (n:=t101.length) (c:=co24) ?_).2.2;exact (by (with_reducible repeat (first | apply Kd.R_alloc | apply Kd.R_drewN | apply Kd.R_drew));exact (Kd.R_mono (Kd.R_far (p:=⟨gb107,2,none⟩) (Kd.R_far (p:=⟨gb107,1,none⟩) (Kd.R_far (p:=⟨gb107,0,none⟩) (Kd.R_mono HO103.out (fun k_ hk=>(⟨hk,hk.2⟩ : _ ∧ k_ ≠ gb107))) (fun _ hk=>hk.2) (.int .i64 t104)) (fun _ hk=>hk.2) (.int .i64 t105)) (fun _ hk=>hk.2) (.string t106)) (fun _ h_=>h_.1))));(case side2=>exact (Kd.R_reads' HO103.out).2.1);rintro e w25 ⟨v109,rfl,ho0,hb⟩;refine ⟨_,rfl,?_⟩;have HO110:=Aside0.mk (Kd.R_lower (Kd.R_newB (Kd.R_new' ho0 (Kd.R_lt (by (with_reducible repeat (first | apply Kd.R_alloc | apply Kd.R_drewN | apply Kd.R_drew));exact (Kd.R_mono (Kd.R_far (p:=⟨gb107,2,none⟩) (Kd.R_far (p:=⟨gb107,1,none⟩) (Kd.R_far (p:=⟨gb107,0,none⟩) (Kd.R_mono HO103.out (fun k_ hk=>(⟨hk,hk.2⟩ : _ ∧ k_ ≠ gb107))) (fun _ hk=>hk.2) (.int .i64 t104)) (fun _ hk=>hk.2) (.int .i64 t105)) (fun _ hk=>hk.2) (.string t106)) (fun _ h_=>h_.1))))) (g:=gb107) (o:=.cells #[.int .i64 t104,.int .i64 t105,.string t106] 25 (0,0)) (by (with_reducible repeat (first | refine blk_drewN ?_ _ | refine blk_drew ?_ | refine blk_alloc ?_ _));refine blk_put (cs:=#[.int .i64 t104,.int .i64 t105,.string (⟨#[]⟩ : ByteArray)]) ?_ 2 _ rfl;(with_reducible repeat (first | refine blk_drewN ?_ _ | refine blk_drew ?_ | refine blk_alloc ?_ _));refine blk_put (cs:=#[.int .i64 t104,.int .i64 0,.string (⟨#[]⟩ : ByteArray)]) ?_ 1 _ rfl;(with_reducible repeat (first | refine blk_drewN ?_ _ | refine blk_drew ?_ | refine blk_alloc ?_ _));refine blk_put (cs:=#[.int .i64 0,.int .i64 0,.string (⟨#[]⟩ : ByteArray)]) ?_ 0 _ rfl;(with_reducible repeat (first | refine blk_drewN ?_ _ | refine blk_drew ?_ | refine blk_alloc ?_ _));exact BK107.out)) (below_size (q26_)));replace HO103:=Aside0.mk (Kd.R_elder' (by (with_reducible repeat (first | apply Kd.R_alloc | apply Kd.R_drewN | apply Kd.R_drew));exact (Kd.R_mono (Kd.R_far (p:=⟨gb107,2,none⟩) (Kd.R_far (p:=⟨gb107,1,none⟩) (Kd.R_far (p:=⟨gb107,0,none⟩) (Kd.R_mono HO103.out (fun k_ hk=>(⟨hk,hk.2⟩ : _ ∧ k_ ≠ gb107))) (fun _ hk=>hk.2) (.int .i64 t104)) (fun _ hk=>hk.2) (.int .i64 t105)) (fun _ hk=>hk.2) (.string t106)) (fun _ h_=>h_.1))) (Kd.R_base ho0) hb);replace BK107:=Aside0.mk (blk_below (g:=gb107) (o:=.cells #[.int .i64 t104,.int .i64 t105,.string t106] 25 (0,0)) (by (with_reducible repeat (first | refine blk_drewN ?_ _ | refine blk_drew ?_ | refine blk_alloc ?_ _));refine blk_put (cs:=#[.int .i64 t104,.int .i64 t105,.string (⟨#[]⟩ : ByteArray)]) ?_ 2 _ rfl;(with_reducible repeat (first | refine blk_drewN ?_ _ | refine blk_drew ?_ | refine blk_alloc ?_ _));refine blk_put (cs:=#[.int .i64 t104,.int .i64 0,.string (⟨#[]⟩ : ByteArray)]) ?_ 1 _ rfl;(with_reducible repeat (first | refine blk_drewN ?_ _ | refine blk_drew ?_ | refine blk_alloc ?_ _));refine blk_put (cs:=#[.int .i64 0,.int .i64 0,.string (⟨#[]⟩ : ByteArray)]) ?_ 0 _ rfl;(with_reducible repeat (first | refine blk_drewN ?_ _ | refine blk_drew ?_ | refine blk_alloc ?_ _));exact BK107.out) hb);replace HB:=Aside0.mk (below_step (q26_) hb);(try clear hb);(try clear hk);(try clear ho0);obtain ⟨hcz26_0,hcz26_1,hcz26_2,hfz26_0,hfz26_1,hfz26_2⟩:=bx3_ BK107.out) | ((with_reducible refine gate_callee (f:=6) rfl ?_);refine goesL_ (some 67) rfl rfl Tryz.func6 (by kernel_rfl) rfl #[.slice Ao24 t101.length co24,.agg #[.int .i64 t104,.int .i64 t105,.string t106]] rfl (q21_) ?_;(with_reducible refine (yAn.calls k _ _ t101 t104 t105 t106 t112 t115 _ ?side1 ?side2 A6.out).mono ?_);(case side1=>exact cX_ (Kd.R_reads' HO103.out).2.2);(case side2=>exact (Kd.R_reads' HO103.out).2.1);rintro e w27 ⟨v113,rfl,ho0,hb⟩;refine ⟨_,rfl,?_⟩;have HO114:=Aside0.mk (Kd.R_lower (Kd.R_newB (Kd.R_new' (Kd.R_new' ho0 (Kd.R_lt (q11_))) (Kd.R_lt (q12_))) (g:=gb107) (o:=.cells #[.int .i64 t104,.int .i64 t105,.string t106] 25 (0,0)) (q18_)) (below_size (q26_)));replace HO103:=rE_ HO103 ho0 hb;replace HO110:=rE_ HO110 ho0 hb;replace BK107:=bkB_ BK107 hb;replace HB:=Aside0.mk (below_step (q26_) hb);(try clear hb);(try clear ho0)) | ((with_reducible refine gate_callee (f:=7) rfl ?_);refine goesL_ (some 72) rfl rfl Tryz.func7 (by kernel_rfl) rfl #[.slice A1 l1.length c1] rfl (q21_) ?_;(with_reducible refine (yA5.calls k _ _ l1 t116 t117 t118 _ ?side1 ?side2 A7.out).mono ?_);(case side1=>exact cX_ (Kd.C_below HR1.out HB.out));(case side2=>exact HC1.out);rintro e w28 ⟨v119,rfl,ho0,hb⟩;refine ⟨_,rfl,?_⟩;have HO120:=Aside0.mk (Kd.R_lower (Kd.R_newB (Kd.R_new' (Kd.R_new' (Kd.R_new' ho0 (Kd.R_lt (q11_))) (Kd.R_lt (q12_))) (Kd.R_lt (by (with_reducible repeat (first | apply Kd.R_alloc | apply Kd.R_drewN | apply Kd.R_drew));exact HO114.out))) (g:=gb107) (o:=.cells #[.int .i64 t104,.int .i64 t105,.string t106] 25 (0,0)) (q18_)) (below_size (q26_)));replace HO103:=rE_ HO103 ho0 hb;replace HO110:=rE_ HO110 ho0 hb;replace HO114:=rE_ HO114 ho0 hb;replace BK107:=bkB_ BK107 hb;replace HB:=Aside0.mk (below_step (q26_) hb);(try clear hb);(try clear ho0);obtain ⟨Ao29,co29,eo29⟩:=Kd.R_slice HO120.out;subst eo29) | ((with_reducible refine gate_callee (f:=8) rfl ?_);refine goesL_ (some 80) rfl rfl Tryz.func8 (by kernel_rfl) rfl #[.slice Ao29 t116.length co29,.int .i64 t117,.int .i64 t118] rfl (q21_) ?_;(with_reducible refine (yAM.calls k _ _ t116 t117 t118 t121 t122 _ ?side1 ?side2 A8.out).mono ?_);(case side1=>exact cX_ (Kd.R_reads' HO120.out).2.2);(case side2=>exact (Kd.R_reads' HO120.out).2.1);rintro e w30 ⟨rfl,hb⟩;refine ⟨_,rfl,?_⟩;replace HO103:=rB_ HO103 hb;replace HO110:=rB_ HO110 hb;replace HO114:=rB_ HO114 hb;replace HO120:=rB_ HO120 hb;replace BK107:=bkB_ BK107 hb;replace HB:=Aside0.mk (below_step (q26_) hb);(try clear hb)) | ((with_reducible refine gate_callee (f:=9) rfl ?_);refine goesL_ (some 87) rfl rfl Tryz.func9 (by kernel_rfl) rfl #[.slice Ao29 t116.length co29,.int .i64 t117,.int .i64 t118] rfl (q21_) ?_;(with_reducible refine (yAU.calls k _ _ t116 t117 t118 t123 t124 _ ?side1 ?side2 A9.out).mono ?_);(case side1=>exact cX_ (Kd.R_reads' HO120.out).2.2);(case side2=>exact (Kd.R_reads' HO120.out).2.1);rintro e w31 ⟨rfl,hb⟩;refine ⟨_,rfl,?_⟩;replace HO103:=rB_ HO103 hb;replace HO110:=rB_ HO110 hb;replace HO114:=rB_ HO114 hb;replace HO120:=rB_ HO120 hb;replace BK107:=bkB_ BK107 hb;replace HB:=Aside0.mk (below_step (q26_) hb);(try clear hb)) | ((with_reducible refine gate_callee (f:=10) rfl ?_);refine goesL_ (some 94) rfl rfl Tryz.func10 (by kernel_rfl) rfl #[.slice Ao29 t116.length co29,.int .i64 t117,.int .i64 t118] rfl (q21_) ?_;(with_reducible refine (yAS.calls k _ _ t116 t117 t118 t125 t126 _ ?side1 ?side2 A10.out).mono ?_);(case side1=>exact cX_ (Kd.R_reads' HO120.out).2.2);(case side2=>exact (Kd.R_reads' HO120.out).2.1);rintro e w32 ⟨v127,rfl,ho0,hb⟩;refine ⟨_,rfl,?_⟩;replace HO103:=rB_ HO103 hb;replace HO110:=rB_ HO110 hb;replace HO114:=rB_ HO114 hb;replace HO120:=rB_ HO120 hb;have HO128:=Aside0.mk (Kd.S_lower ho0 (below_size (q26_)));replace BK107:=bkB_ BK107 hb;replace HB:=Aside0.mk (below_step (q26_) hb);(try clear hb);(try clear ho0)) | ((with_reducible refine gate_callee (f:=11) rfl ?_);refine goesL_ (some 101) rfl rfl Tryz.func11 (by kernel_rfl) rfl #[.slice Ao29 t116.length co29,.int .i64 t117,.int .i64 t118] rfl (q21_) ?_;(with_reducible refine (yAg.calls k _ _ t116 t117 t118 t129 t130 _ ?side1 ?side2 A11.out).mono ?_);(case side1=>exact cX_ (Kd.R_reads' HO120.out).2.2);(case side2=>exact (Kd.R_reads' HO120.out).2.1);rintro e w33 ⟨v131,rfl,ho0,hb⟩;refine ⟨_,rfl,?_⟩;replace HO103:=rB_ HO103 hb;replace HO110:=rB_ HO110 hb;replace HO114:=rB_ HO114 hb;replace HO120:=rB_ HO120 hb;have HO132:=Aside0.mk (Kd.S_lower (Kd.S_new' ho0 (Kd.S_lt (q13_))) (below_size (q26_)));replace HO128:=Aside0.mk (Kd.S_elder' (q13_) (Kd.S_base ho0) hb);replace BK107:=bkB_ BK107 hb;replace HB:=Aside0.mk (below_step (q26_) hb);(try clear hb);(try clear ho0)) | ((with_reducible refine gate_callee (f:=12) rfl ?_);refine goesL_ (some 108) rfl rfl Tryz.func12 (by kernel_rfl) rfl #[.slice Ao29 t116.length co29,.int .i64 t117,.int .i64 t118] rfl (q21_) ?_;(with_reducible refine (yBF.calls k _ _ t116 t117 t118 t133 t134 _ ?side1 ?side2 A12.out).mono ?_);(case side1=>exact cX_ (Kd.R_reads' HO120.out).2.2);(case side2=>exact (Kd.R_reads' HO120.out).2.1);rintro e w34 ⟨v135,rfl,ho0,hb⟩;refine ⟨_,rfl,?_⟩;replace HO128:=Aside0.mk (Kd.S_below (q13_) hb);replace HO132:=Aside0.mk (Kd.S_below (q14_) hb);have HO136:=Aside0.mk (Kd.R_lower (Kd.R_newB (Kd.R_new' (Kd.R_new' (Kd.R_new' (Kd.R_new' ho0 (Kd.R_lt (q11_))) (Kd.R_lt (q12_))) (Kd.R_lt (by (with_reducible repeat (first | apply Kd.R_alloc | apply Kd.R_drewN | apply Kd.R_drew));exact HO114.out))) (Kd.R_lt (by (with_reducible repeat (first | apply Kd.R_alloc | apply Kd.R_drewN | apply Kd.R_drew));exact HO120.out))) (g:=gb107) (o:=.cells #[.int .i64 t104,.int .i64 t105,.string t106] 25 (0,0)) (q18_)) (below_size (q26_)));replace HO103:=rE_ HO103 ho0 hb;replace HO110:=rE_ HO110 ho0 hb;replace HO114:=rE_ HO114 ho0 hb;replace HO120:=rE_ HO120 ho0 hb;replace BK107:=bkB_ BK107 hb;replace HB:=Aside0.mk (below_step (q26_) hb);(try clear hb);(try clear ho0)) | ((with_reducible refine gate_callee (f:=13) rfl ?_);refine goesL_ (some 115) rfl rfl Tryz.func13 (by kernel_rfl) rfl #[.slice Ao29 t116.length co29,.int .i64 t117,.int .i64 t118] rfl (q21_) ?_;(with_reducible refine (yBG.calls k _ _ t116 t117 t118 t137 t138 _ ?side1 ?side2 A13.out).mono ?_);(case side1=>exact cX_ (Kd.R_reads' HO120.out).2.2);(case side2=>exact (Kd.R_reads' HO120.out).2.1);rintro e w35 ⟨v139,rfl,ho0,hb⟩;refine ⟨_,rfl,?_⟩;replace HO128:=Aside0.mk (Kd.S_below (q13_) hb);replace HO132:=Aside0.mk (Kd.S_below (q14_) hb);have HO140:=Aside0.mk (Kd.R_lower (Kd.R_newB (Kd.R_new' (Kd.R_new' (Kd.R_new' (Kd.R_new' (Kd.R_new' ho0 (Kd.R_lt (q11_))) (Kd.R_lt (q12_))) (Kd.R_lt (by (with_reducible repeat (first | apply Kd.R_alloc | apply Kd.R_drewN | apply Kd.R_drew));exact HO114.out))) (Kd.R_lt (by (with_reducible repeat (first | apply Kd.R_alloc | apply Kd.R_drewN | apply Kd.R_drew));exact HO120.out))) (Kd.R_lt (by (with_reducible repeat (first | apply Kd.R_alloc | apply Kd.R_drewN | apply Kd.R_drew));exact HO136.out))) (g:=gb107) (o:=.cells #[.int .i64 t104,.int .i64 t105,.string t106] 25 (0,0)) (q18_)) (below_size (q26_)));replace HO103:=rE_ HO103 ho0 hb;replace HO110:=rE_ HO110 ho0 hb;replace HO114:=rE_ HO114 ho0 hb;replace HO120:=rE_ HO120 ho0 hb;replace HO136:=rE_ HO136 ho0 hb;replace BK107:=bkB_ BK107 hb;replace HB:=Aside0.mk (below_step (q26_) hb);(try clear hb);(try clear ho0)) | ((with_reducible refine gate_callee (f:=14) rfl ?_);refine goesL_ (some 119) rfl rfl Tryz.func14 (by kernel_rfl) rfl #[.slice A1 l1.length c1] rfl (q21_) ?_;(with_reducible refine (yA8.calls k _ _ l1 t141 _ ?side1 ?side2 A14.out).mono ?_);(case side1=>exact cX_ (Kd.C_below HR1.out HB.out));(case side2=>exact HC1.out);rintro e w36 ⟨v142,rfl,ho0,hb⟩;refine ⟨_,rfl,?_⟩;replace HO128:=Aside0.mk (Kd.S_below (q13_) hb);replace HO132:=Aside0.mk (Kd.S_below (q14_) hb);have HO143:=Aside0.mk (Kd.R_lower (Kd.R_newB (Kd.R_new' (Kd.R_new' (Kd.R_new' (Kd.R_new' (Kd.R_new' (Kd.R_new' ho0 (Kd.R_lt (q11_))) (Kd.R_lt (q12_))) (Kd.R_lt (by (with_reducible repeat (first | apply Kd.R_alloc | apply Kd.R_drewN | apply Kd.R_drew));exact HO114.out))) (Kd.R_lt (by (with_reducible repeat (first | apply Kd.R_alloc | apply Kd.R_drewN | apply Kd.R_drew));exact HO120.out))) (Kd.R_lt (by (with_reducible repeat (first | apply Kd.R_alloc | apply Kd.R_drewN | apply Kd.R_drew));exact HO136.out))) (Kd.R_lt (by (with_reducible repeat (first | apply Kd.R_alloc | apply Kd.R_drewN | apply Kd.R_drew));exact HO140.out))) (g:=gb107) (o:=.cells #[.int .i64 t104,.int .i64 t105,.string t106] 25 (0,0)) (q18_)) (below_size (q26_)));replace HO103:=rE_ HO103 ho0 hb;replace HO110:=rE_ HO110 ho0 hb;replace HO114:=rE_ HO114 ho0 hb;replace HO120:=rE_ HO120 ho0 hb;replace HO136:=rE_ HO136 ho0 hb;replace HO140:=rE_ HO140 ho0 hb;replace BK107:=bkB_ BK107 hb;replace HB:=Aside0.mk (below_step (q26_) hb);(try clear hb);(try clear ho0);obtain ⟨Ao37,co37,eo37⟩:=Kd.R_slice HO143.out;subst eo37) | ((with_reducible refine gate_callee (f:=15) rfl ?_);refine goesL_ (some 122) rfl rfl Tryz.func15 (by kernel_rfl) rfl #[.slice Ao37 t141.length co37] rfl (q21_) ?_;(with_reducible refine (yBD.calls k _ _ t141 t144 t145 _ (MTabA.tab (HTab.out _ (q20_))) ?side1 ?side2 A15.out).mono ?_);(case side1=>exact cX_ (Kd.R_reads' HO143.out).2.2);(case side2=>exact (Kd.R_reads' HO143.out).2.1);rintro e w38 ⟨rfl,hb⟩;refine ⟨_,rfl,?_⟩;replace HO103:=rB_ HO103 hb;replace HO110:=rB_ HO110 hb;replace HO114:=rB_ HO114 hb;replace HO120:=rB_ HO120 hb;replace HO128:=Aside0.mk (Kd.S_below (q13_) hb);replace HO132:=Aside0.mk (Kd.S_below (q14_) hb);replace HO136:=rB_ HO136 hb;replace HO140:=rB_ HO140 hb;replace HO143:=rB_ HO143 hb;replace BK107:=bkB_ BK107 hb;replace HB:=Aside0.mk (below_step (q26_) hb);(try clear hb)) | ((with_reducible refine gate_callee (f:=16) rfl ?_);refine goesL_ (some 127) rfl rfl Tryz.func16 (by kernel_rfl) rfl #[.slice Ao37 t141.length co37] rfl (q21_) ?_;(with_reducible refine (yBE.calls k _ _ t141 t146 t147 _ ?side1 ?side2 A16.out).mono ?_);(case side1=>exact cX_ (Kd.R_reads' HO143.out).2.2);(case side2=>exact (Kd.R_reads' HO143.out).2.1);rintro e w39 ⟨rfl,hb⟩;refine ⟨_,rfl,?_⟩;replace HO103:=rB_ HO103 hb;replace HO110:=rB_ HO110 hb;replace HO114:=rB_ HO114 hb;replace HO120:=rB_ HO120 hb;replace HO128:=Aside0.mk (Kd.S_below (q13_) hb);replace HO132:=Aside0.mk (Kd.S_below (q14_) hb);replace HO136:=rB_ HO136 hb;replace HO140:=rB_ HO140 hb;replace HO143:=rB_ HO143 hb;replace BK107:=bkB_ BK107 hb;replace HB:=Aside0.mk (below_step (q26_) hb);(try clear hb)) | ((with_reducible refine gate_callee (f:=17) rfl ?_);refine goesL_ (some 131) rfl rfl Tryz.func17 (by kernel_rfl) rfl #[.slice A1 l1.length c1] rfl (q21_) ?_;(with_reducible refine (yAN.calls k _ _ l1 t148 _ ?side1 ?side2 A17.out).mono ?_);(case side1=>exact cX_ (Kd.C_below HR1.out HB.out));(case side2=>exact HC1.out);rintro e w40 ⟨rfl,hb⟩;refine ⟨_,rfl,?_⟩;replace HO103:=rB_ HO103 hb;replace HO110:=rB_ HO110 hb;replace HO114:=rB_ HO114 hb;replace HO120:=rB_ HO120 hb;replace HO128:=Aside0.mk (Kd.S_below (q13_) hb);replace HO132:=Aside0.mk (Kd.S_below (q14_) hb);replace HO136:=rB_ HO136 hb;replace HO140:=rB_ HO140 hb;replace HO143:=rB_ HO143 hb;replace BK107:=bkB_ BK107 hb;replace HB:=Aside0.mk (below_step (q26_) hb);(try clear hb)) | ((with_reducible refine gate_callee (f:=18) rfl ?_);refine goesL_ (some 134) rfl rfl Tryz.func18 (by kernel_rfl) rfl #[.string t148] rfl (q21_) ?_;(with_reducible refine (yAC.calls k t148 t149 t150 _ (HTab.out _ (q20_)) A18.out).mono ?_);rintro e w41 ⟨v151,rfl,ho0,hb⟩;refine ⟨_,rfl,?_⟩;replace HO128:=Aside0.mk (Kd.S_below (q13_) hb);replace HO132:=Aside0.mk (Kd.S_below (q14_) hb);have HO152:=Aside0.mk (Kd.R_lower (Kd.R_newB (Kd.R_new' (Kd.R_new' (Kd.R_new' (Kd.R_new' (Kd.R_new' (Kd.R_new' (Kd.R_new' ho0 (Kd.R_lt (q11_))) (Kd.R_lt (q12_))) (Kd.R_lt (by (with_reducible repeat (first | apply Kd.R_alloc | apply Kd.R_drewN | apply Kd.R_drew));exact HO114.out))) (Kd.R_lt (by (with_reducible repeat (first | apply Kd.R_alloc | apply Kd.R_drewN | apply Kd.R_drew));exact HO120.out))) (Kd.R_lt (by (with_reducible repeat (first | apply Kd.R_alloc | apply Kd.R_drewN | apply Kd.R_drew));exact HO136.out))) (Kd.R_lt (by (with_reducible repeat (first | apply Kd.R_alloc | apply Kd.R_drewN | apply Kd.R_drew));exact HO140.out))) (Kd.R_lt (by (with_reducible repeat (first | apply Kd.R_alloc | apply Kd.R_drewN | apply Kd.R_drew));exact HO143.out))) (g:=gb107) (o:=.cells #[.int .i64 t104,.int .i64 t105,.string t106] 25 (0,0)) (q18_)) (below_size (q26_)));replace HO103:=rE_ HO103 ho0 hb;replace HO110:=rE_ HO110 ho0 hb;replace HO114:=rE_ HO114 ho0 hb;replace HO120:=rE_ HO120 ho0 hb;replace HO136:=rE_ HO136 ho0 hb;replace HO140:=rE_ HO140 ho0 hb;replace HO143:=rE_ HO143 ho0 hb;replace BK107:=bkB_ BK107 hb;replace HB:=Aside0.mk (below_step (q26_) hb);(try clear hb);(try clear ho0)) | ((with_reducible refine gate_callee (f:=19) rfl ?_);refine goesL_ (some 139) rfl rfl Tryz.func19 (by kernel_rfl) rfl #[.string t148] rfl (q21_) ?_;(with_reducible refine (yAK.calls k t148 t153 t154 _ A19.out).mono ?_);rintro e w42 ⟨v155,rfl,ho0,hb⟩;refine ⟨_,rfl,?_⟩;replace HO128:=Aside0.mk (Kd.S_below (q13_) hb);replace HO132:=Aside0.mk (Kd.S_below (q14_) hb);have HO156:=Aside0.mk (Kd.R_lower (Kd.R_newB (Kd.R_new' (Kd.R_new' (Kd.R_new' (Kd.R_new' (Kd.R_new' (Kd.R_new' (Kd.R_new' (Kd.R_new' ho0 (Kd.R_lt (q11_))) (Kd.R_lt (q12_))) (Kd.R_lt (by (with_reducible repeat (first | apply Kd.R_alloc | apply Kd.R_drewN | apply Kd.R_drew));exact HO114.out))) (Kd.R_lt (by (with_reducible repeat (first | apply Kd.R_alloc | apply Kd.R_drewN | apply Kd.R_drew));exact HO120.out))) (Kd.R_lt (by (with_reducible repeat (first | apply Kd.R_alloc | apply Kd.R_drewN | apply Kd.R_drew));exact HO136.out))) (Kd.R_lt (by (with_reducible repeat (first | apply Kd.R_alloc | apply Kd.R_drewN | apply Kd.R_drew));exact HO140.out))) (Kd.R_lt (by (with_reducible repeat (first | apply Kd.R_alloc | apply Kd.R_drewN | apply Kd.R_drew));exact HO143.out))) (Kd.R_lt (by (with_reducible repeat (first | apply Kd.R_alloc | apply Kd.R_drewN | apply Kd.R_drew));exact HO152.out))) (g:=gb107) (o:=.cells #[.int .i64 t104,.int .i64 t105,.string t106] 25 (0,0)) (q18_)) (below_size (q26_)));replace HO103:=rE_ HO103 ho0 hb;replace HO110:=rE_ HO110 ho0 hb;replace HO114:=rE_ HO114 ho0 hb;replace HO120:=rE_ HO120 ho0 hb;replace HO136:=rE_ HO136 ho0 hb;replace HO140:=rE_ HO140 ho0 hb;replace HO143:=rE_ HO143 ho0 hb;replace HO152:=rE_ HO152 ho0 hb;replace BK107:=bkB_ BK107 hb;replace HB:=Aside0.mk (below_step (q26_) hb);(try clear hb);(try clear ho0)))
  (try simp only [Act.put,List.setIfInBounds_toArray,List.set_cons_zero,List.set_cons_succ])
  go_cut [226] (fun v226 wc=>∃ (kq : Nat) (x226_19 : Bool),v226 = .bool x226_19 ∧ Aside0 (laws_FnTiers.j0 kq t101 t108 t111 t112 t116 t117 t118 t122 t123 t129 t133 t141 t144 t145 x226_19 t104 t105 t106 = some r) ∧ Aside0 (kq ≤ k) ∧ Aside0 (Kd.R k25 25 wc w.heap.size (fun k_=>some k_ ≠ (v109 : Value).ownBlock ∧ some k_ ≠ (v113 : Value).ownBlock ∧ some k_ ≠ ((.slice Ao29 t116.length co29) : Value).ownBlock ∧ some k_ ≠ (v135 : Value).ownBlock ∧ some k_ ≠ ((.slice Ao37 t141.length co37) : Value).ownBlock ∧ k_ ≠ gb107) (.slice Ao24 t101.length co24) t101) ∧ Aside0 (Kd.R k25 25 wc w.heap.size (fun k_=>some k_ ≠ ((.slice Ao24 t101.length co24) : Value).ownBlock ∧ some k_ ≠ (v113 : Value).ownBlock ∧ some k_ ≠ ((.slice Ao29 t116.length co29) : Value).ownBlock ∧ some k_ ≠ (v135 : Value).ownBlock ∧ some k_ ≠ ((.slice Ao37 t141.length co37) : Value).ownBlock ∧ k_ ≠ gb107) v109 t108) ∧ Aside0 (Kd.R k25 25 wc w.heap.size (fun k_=>some k_ ≠ ((.slice Ao24 t101.length co24) : Value).ownBlock ∧ some k_ ≠ (v109 : Value).ownBlock ∧ some k_ ≠ ((.slice Ao29 t116.length co29) : Value).ownBlock ∧ some k_ ≠ (v135 : Value).ownBlock ∧ some k_ ≠ ((.slice Ao37 t141.length co37) : Value).ownBlock ∧ k_ ≠ gb107) v113 t112) ∧ Aside0 (Kd.R k25 25 wc w.heap.size (fun k_=>some k_ ≠ ((.slice Ao24 t101.length co24) : Value).ownBlock ∧ some k_ ≠ (v109 : Value).ownBlock ∧ some k_ ≠ (v113 : Value).ownBlock ∧ some k_ ≠ (v135 : Value).ownBlock ∧ some k_ ≠ ((.slice Ao37 t141.length co37) : Value).ownBlock ∧ k_ ≠ gb107) (.slice Ao29 t116.length co29) t116) ∧ Aside0 (Kd.S (Kd.slice 3 (Kd.int .i64)) 48 wc w.heap.size (fun _=>True) v131 t129) ∧ Aside0 (Kd.R k25 25 wc w.heap.size (fun k_=>some k_ ≠ ((.slice Ao24 t101.length co24) : Value).ownBlock ∧ some k_ ≠ (v109 : Value).ownBlock ∧ some k_ ≠ (v113 : Value).ownBlock ∧ some k_ ≠ ((.slice Ao29 t116.length co29) : Value).ownBlock ∧ some k_ ≠ ((.slice Ao37 t141.length co37) : Value).ownBlock ∧ k_ ≠ gb107) v135 t133) ∧ Aside0 (Kd.R k25 25 wc w.heap.size (fun k_=>some k_ ≠ ((.slice Ao24 t101.length co24) : Value).ownBlock ∧ some k_ ≠ (v109 : Value).ownBlock ∧ some k_ ≠ (v113 : Value).ownBlock ∧ some k_ ≠ ((.slice Ao29 t116.length co29) : Value).ownBlock ∧ some k_ ≠ (v135 : Value).ownBlock ∧ k_ ≠ gb107) (.slice Ao37 t141.length co37) t141) ∧ Aside0 (wc.heap[gb107]? = some (.cells #[.int .i64 t104,.int .i64 t105,.string t106] 25 (0,0))) ∧ Aside0 (Below w.heap.size w wc))
  case first=>as_aux_lemma =>
   have H:=HC20.out;clear HC20;by_cases c43 : (t111 != t115) = true
   ·rw [if_pos c43] at H;have c43b0 : (t111 != t115) = true:=c43
    (try (have c43b1 : decide (t111 = t115) = false:=by simpa using c43))
    (try (have c43b2 : (t111 == t115) = false:=by simpa using c43))
    (try (have c43b3 : ¬ (t111 = t115):=by simpa using c43))
    clear c43
    (first | rw [c43b0] | (simp only [i64_w,i32_w];rw [c43b0]) | skip)
    first | with_reducible exact (laws_FnTiers.j0_no H ht_.out).elim
   ·rw [if_neg c43] at H;have c43b0 : (t111 != t115) = false:=by simpa using c43
    (try (have c43b1 : decide (t111 = t115) = true:=by simpa using c43))
    (try (have c43b2 : (t111 == t115) = true:=by simpa using c43))
    clear c43
    (first | rw [c43b0] | (simp only [i64_w,i32_w];rw [c43b0]) | skip)
    replace H:=Option.bind_eq_some_iff.mp H;obtain ⟨t157,A450,H⟩:=H;(try dsimp only at H);have A45:=Aside0.mk A450;clear A450;by_cases c46 : t157 = true
    ·subst c46;rw [if_pos rfl] at H;by_cases c47 : (t122 != t124) = true
     ·rw [if_pos c47] at H;have c47b0 : (t122 != t124) = true:=c47
      (try (have c47b1 : decide (t122 = t124) = false:=by simpa using c47))
      (try (have c47b2 : (t122 == t124) = false:=by simpa using c47))
      (try (have c47b3 : ¬ (t122 = t124):=by simpa using c47))
      clear c47;first | with_reducible exact (laws_FnTiers.j0_no H ht_.out).elim
     ·rw [if_neg c47] at H;have c47b0 : (t122 != t124) = false:=by simpa using c47
      (try (have c47b1 : decide (t122 = t124) = true:=by simpa using c47))
      (try (have c47b2 : (t122 == t124) = true:=by simpa using c47))
      clear c47;by_cases c51 : t121 = t123
      ·rw [if_pos c51] at H;have c51b0 : (t121 == t123) = true:=beq_iff_eq.mpr c51;have c51b1 : (t121 != t123) = false:=bne_eq_false_iff_eq.mpr c51;clear c51;by_cases c52 : (t126 != t130) = true
       ·rw [if_pos c52] at H;have c52b0 : (t126 != t130) = true:=c52
        (try (have c52b1 : decide (t126 = t130) = false:=by simpa using c52))
        (try (have c52b2 : (t126 == t130) = false:=by simpa using c52))
        (try (have c52b3 : ¬ (t126 = t130):=by simpa using c52))
        clear c52;first | with_reducible exact (laws_FnTiers.j0_no H ht_.out).elim
       ·rw [if_neg c52] at H;have c52b0 : (t126 != t130) = false:=by simpa using c52
        (try (have c52b1 : decide (t126 = t130) = true:=by simpa using c52))
        (try (have c52b2 : (t126 == t130) = true:=by simpa using c52))
        clear c52;replace H:=Option.bind_eq_some_iff.mp H;obtain ⟨t158,A560,H⟩:=H;(try dsimp only at H);have A56:=Aside0.mk A560;clear A560;by_cases c57 : t158 = true
        ·subst c57;rw [if_pos rfl] at H;by_cases c58 : (t134 != t138) = true
         ·rw [if_pos c58] at H;have c58b0 : (t134 != t138) = true:=c58
          (try (have c58b1 : decide (t134 = t138) = false:=by simpa using c58))
          (try (have c58b2 : (t134 == t138) = false:=by simpa using c58))
          (try (have c58b3 : ¬ (t134 = t138):=by simpa using c58))
          clear c58;first | with_reducible exact (laws_FnTiers.j0_no H ht_.out).elim
         ·rw [if_neg c58] at H;have c58b0 : (t134 != t138) = false:=by simpa using c58
          (try (have c58b1 : decide (t134 = t138) = true:=by simpa using c58))
          (try (have c58b2 : (t134 == t138) = true:=by simpa using c58))
          clear c58;replace H:=Option.bind_eq_some_iff.mp H;obtain ⟨t159,A640,H⟩:=H;(try dsimp only at H);have A64:=Aside0.mk A640;clear A640;by_cases c65 : t159 = true
          ·subst c65;rw [if_pos rfl] at H;by_cases c66 : (t145 != t147) = true
           ·rw [if_pos c66] at H;have c66b0 : (t145 != t147) = true:=c66
            (try (have c66b1 : decide (t145 = t147) = false:=by simpa using c66))
            (try (have c66b2 : (t145 == t147) = false:=by simpa using c66))
            (try (have c66b3 : ¬ (t145 = t147):=by simpa using c66))
            clear c66;first | with_reducible exact (laws_FnTiers.j0_no H ht_.out).elim
           ·rw [if_neg c66] at H;have c66b0 : (t145 != t147) = false:=by simpa using c66
            (try (have c66b1 : decide (t145 = t147) = true:=by simpa using c66))
            (try (have c66b2 : (t145 == t147) = true:=by simpa using c66))
            clear c66;by_cases c74 : t144.toList = t146.toList
            ·rw [if_pos c74] at H;have c74b0 : (t144.toList == t146.toList) = true:=beq_iff_eq.mpr c74;have c74b1 : (t144.toList != t146.toList) = false:=bne_eq_false_iff_eq.mpr c74;clear c74;by_cases c75 : (t150 != t154) = true
             ·rw [if_pos c75] at H;have c75b0 : (t150 != t154) = true:=c75
              (try (have c75b1 : decide (t150 = t154) = false:=by simpa using c75))
              (try (have c75b2 : (t150 == t154) = false:=by simpa using c75))
              (try (have c75b3 : ¬ (t150 = t154):=by simpa using c75))
              clear c75;first | with_reducible exact (laws_FnTiers.j0_no H ht_.out).elim
             ·rw [if_neg c75] at H;have c75b0 : (t150 != t154) = false:=by simpa using c75
              (try (have c75b1 : decide (t150 = t154) = true:=by simpa using c75))
              (try (have c75b2 : (t150 == t154) = true:=by simpa using c75))
              clear c75;replace H:=Option.bind_eq_some_iff.mp H;obtain ⟨t160,A830,H⟩:=H;(try dsimp only at H);have A83:=Aside0.mk A830;clear A830;by_cases c84 : t160 = true
              ·subst c84;rw [if_pos rfl] at H;by_cases c85 : (t126 != t122) = true
               ·rw [if_pos c85] at H;have c85b0 : (t126 != t122) = true:=c85
                (try (have c85b1 : decide (t126 = t122) = false:=by simpa using c85))
                (try (have c85b2 : (t126 == t122) = false:=by simpa using c85))
                (try (have c85b3 : ¬ (t126 = t122):=by simpa using c85))
                clear c85;first | with_reducible exact (laws_FnTiers.j0_no H ht_.out).elim
               ·rw [if_neg c85] at H;have c85b0 : (t126 != t122) = false:=by simpa using c85
                (try (have c85b1 : decide (t126 = t122) = true:=by simpa using c85))
                (try (have c85b2 : (t126 == t122) = true:=by simpa using c85))
                clear c85;by_cases c95 : (t134 != t122) = true
                ·rw [if_pos c95] at H;have c95b0 : (t134 != t122) = true:=c95
                 (try (have c95b1 : decide (t134 = t122) = false:=by simpa using c95))
                 (try (have c95b2 : (t134 == t122) = false:=by simpa using c95))
                 (try (have c95b3 : ¬ (t134 = t122):=by simpa using c95))
                 clear c95;first | with_reducible exact (laws_FnTiers.j0_no H ht_.out).elim
                ·rw [if_neg c95] at H;have c95b0 : (t134 != t122) = false:=by simpa using c95
                 (try (have c95b1 : decide (t134 = t122) = true:=by simpa using c95))
                 (try (have c95b2 : (t134 == t122) = true:=by simpa using c95))
                 clear c95;replace H:=Option.bind_eq_some_iff.mp H;obtain ⟨t161,A1050,H⟩:=H;(try dsimp only at H);have A105:=Aside0.mk A1050;clear A1050;by_cases c106 : (t145 != t161) = true
                 ·rw [if_pos c106] at H;have c106b0 : (t145 != t161) = true:=c106
                  (try (have c106b1 : decide (t145 = t161) = false:=by simpa using c106))
                  (try (have c106b2 : (t145 == t161) = false:=by simpa using c106))
                  (try (have c106b3 : ¬ (t145 = t161):=by simpa using c106))
                  clear c106;first | with_reducible exact (laws_FnTiers.j0_no H ht_.out).elim
                 ·rw [if_neg c106] at H;have c106b0 : (t145 != t161) = false:=by simpa using c106
                  (try (have c106b1 : decide (t145 = t161) = true:=by simpa using c106))
                  (try (have c106b2 : (t145 == t161) = true:=by simpa using c106))
                  clear c106;replace H:=Option.bind_eq_some_iff.mp H;obtain ⟨t162,A1170,H⟩:=H;(try dsimp only at H);have A117:=Aside0.mk A1170;clear A1170;replace H:=Option.bind_eq_some_iff.mp H;obtain ⟨t163,A1180,H⟩:=H;(try dsimp only at H);have A118:=Aside0.mk A1180;clear A1180;have H' := Aside0.mk H;clear H;try go_wp2
                  replace HO103:=Aside0.mk (Kd.R_drew HO103.out);replace HO110:=Aside0.mk (Kd.R_drew HO110.out);replace HO114:=Aside0.mk (Kd.R_drew HO114.out);replace HO120:=Aside0.mk (Kd.R_drew HO120.out);replace HO128:=Aside0.mk (Kd.S_drew HO128.out);replace HO132:=Aside0.mk (Kd.S_drew HO132.out);replace HO136:=Aside0.mk (Kd.R_drew HO136.out);replace HO140:=Aside0.mk (Kd.R_drew HO140.out);replace HO143:=Aside0.mk (Kd.R_drew HO143.out);replace HO152:=Aside0.mk (Kd.R_drew HO152.out);replace HO156:=Aside0.mk (Kd.R_drew HO156.out);replace BK107:=Aside0.mk (blk_drew BK107.out);replace HB:=Aside0.mk (below_drew1 HB.out);obtain ⟨Ao120,co120,eo120⟩:=Kd.R_slice HO110.out
                  (first | subst eo120 | (injection eo120 with f1_ f2_ f3_;have f4_:=f1_.symm;have f5_:=f3_.symm;clear f1_ f2_ f3_;subst f4_;subst f5_))
                  obtain ⟨Ao121,co121,eo121⟩:=Kd.R_slice HO114.out
                  (first | subst eo121 | (injection eo121 with f1_ f2_ f3_;have f4_:=f1_.symm;have f5_:=f3_.symm;clear f1_ f2_ f3_;subst f4_;subst f5_))
                  refine start_ (n:=85) (S:=fun w' => w'.cell? ⟨gb107,0,none⟩ = some (.int .i64 t104) ∧ w'.cell? ⟨gb107,1,none⟩ = some (.int .i64 t105) ∧ w'.cell? ⟨gb107,2,none⟩ = some (.string t106)) (ds:=[]) f102_ (by kernel_rfl) rfl rfl ⟨(blk_cell BK107.out 0).trans rfl,(blk_cell BK107.out 1).trans rfl,(blk_cell BK107.out 2).trans rfl⟩ (fun hHeld=>?_);refine with_tabW laws_FnTiers.tab19 laws_FnTiers.bits19 (fun HT_ HW_=>?_);generalize w42.drew = w119 at HO103 HO110 HO114 HO120 HO128 HO132 HO136 HO140 HO143 HO152 HO156 BK107 HB hHeld ⊢;refine pure_ (i:=0) (N:=some 142) (v:=?_) (a' := ?_) f103_ rfl rfl (any_of HT_.out (by kernel_rfl)) (fun _ _ _ h=>h) (Or.inl ⟨by rfl,?_⟩) ?_ ?_;rotate_left
                  ·intro w';go_simp;with_reducible rfl
                  rotate_left
                  ·exact q53_
                  refine pa_ 1 143 f104_ ?_
                  refine pa_ 2 144 f105_ ?_
                  refine pa_ 3 145 f106_ ?_
                  refine pa_ 4 146 f107_ ?_
                  refine pa_ 5 147 f108_ ?_
                  refine one_ (i:=6) (N:=some 148) f109_ rfl rfl (one_of HT_.out (by kernel_rfl)) (by decide) (fun K hK=>?_);refine goes_ Tryz.func20 (by kernel_rfl) rfl #[.slice Ao120 t108.length co120,.slice Ao121 t112.length co121] (by rfl) rfl rfl (q21_) ?_
                  with_reducible refine (yAd.calls k _ _ t108 _ _ t112 true _ ?side1 ?side2 ?side3 ?side4 A45.out).mono ?_
                  (case side1=>exact cX_ (Kd.R_reads' HO110.out).2.2)
                  (case side2=>exact (Kd.R_reads' HO110.out).2.1)
                  (case side3=>exact cX_ (Kd.R_reads' HO114.out).2.2)
                  (case side4=>exact (Kd.R_reads' HO114.out).2.1)
                  rintro e w' ⟨rfl,⟨nd,rfl⟩⟩;refine ⟨_,rfl,?_⟩;obtain ⟨Ao122,co122,eo122⟩:=Kd.S_slice HO128.out
                  (first | subst eo122 | (injection eo122 with f1_ f2_ f3_;have f4_:=f1_.symm;have f5_:=f3_.symm;clear f1_ f2_ f3_;subst f4_;subst f5_))
                  obtain ⟨Ao123,co123,eo123⟩:=Kd.S_slice HO132.out
                  (first | subst eo123 | (injection eo123 with f1_ f2_ f3_;have f4_:=f1_.symm;have f5_:=f3_.symm;clear f1_ f2_ f3_;subst f4_;subst f5_))
                  refine hK.out _ _ ⟨(blk_cell BK107.out 0).trans rfl,(blk_cell BK107.out 1).trans rfl,(blk_cell BK107.out 2).trans rfl⟩ (fun hHeld=>?_);clear hK K;refine norm_ (a' := ?_) ?_ ?_;rotate_left
                  ·show Act.put _ (some 148) _ = _;simp only [Act.put,List.setIfInBounds_toArray,List.set_cons_zero,List.set_cons_succ,i64_w,i32_w];rfl
                  refine pa_ 7 149 f110_ ?_
                  refine pa_ 8 150 f111_ ?_
                  refine pa_ 9 151 f112_ ?_
                  refine pa_ 10 152 f113_ ?_
                  refine pa_ 11 153 f114_ ?_
                  refine pa_ 12 154 f115_ ?_
                  refine pa_ 13 155 f116_ ?_
                  refine pa_ 14 156 f117_ ?_
                  refine pa_ 15 157 f118_ ?_
                  refine pa_ 16 158 f119_ ?_
                  refine pa_ 17 159 f120_ ?_
                  refine pa_ 18 160 f121_ ?_
                  refine pa_ 19 161 f122_ ?_
                  refine pa_ 20 162 f123_ ?_
                  refine pa_ 21 163 f124_ ?_
                  refine pa_ 22 164 f125_ ?_
                  refine pa_ 23 165 f126_ ?_
                  refine pa_ 24 166 f127_ ?_
                  refine pa_ 25 167 f128_ ?_
                  refine pa_ 26 168 f129_ ?_
                  refine one_ (i:=27) (N:=some 169) f130_ rfl rfl (one_of HT_.out (by kernel_rfl)) (by decide) (fun K hK=>?_);refine goes_ Tryz.func21 (by kernel_rfl) rfl #[.slice Ao122 t125.length co122,.slice Ao123 t129.length co123] (by rfl) rfl rfl (q21_) ?_
                  with_reducible refine (yAr.calls k _ _ t125 _ _ t129 true _ ?side1 ?side2 ?side3 ?side4 A56.out).mono ?_
                  (case side1=>exact cX_ (Kd.S_reads' HO128.out).2.2)
                  (case side2=>exact (Kd.S_reads' HO128.out).2.1)
                  (case side3=>exact cX_ (Kd.S_reads' HO132.out).2.2)
                  (case side4=>exact (Kd.S_reads' HO132.out).2.1)
                  rintro e w' ⟨rfl,⟨nd,rfl⟩⟩;refine ⟨_,rfl,?_⟩;obtain ⟨Ao124,co124,eo124⟩:=Kd.R_slice HO136.out
                  (first | subst eo124 | (injection eo124 with f1_ f2_ f3_;have f4_:=f1_.symm;have f5_:=f3_.symm;clear f1_ f2_ f3_;subst f4_;subst f5_))
                  obtain ⟨Ao125,co125,eo125⟩:=Kd.R_slice HO140.out
                  (first | subst eo125 | (injection eo125 with f1_ f2_ f3_;have f4_:=f1_.symm;have f5_:=f3_.symm;clear f1_ f2_ f3_;subst f4_;subst f5_))
                  refine hK.out _ _ ⟨(blk_cell BK107.out 0).trans rfl,(blk_cell BK107.out 1).trans rfl,(blk_cell BK107.out 2).trans rfl⟩ (fun hHeld=>?_);clear hK K;refine norm_ (a' := ?_) ?_ ?_;rotate_left
                  ·show Act.put _ (some 169) _ = _;simp only [Act.put,List.setIfInBounds_toArray,List.set_cons_zero,List.set_cons_succ,i64_w,i32_w];rfl
                  refine pa_ 28 170 f131_ ?_
                  refine pa_ 29 171 f132_ ?_
                  refine pa_ 30 172 f133_ ?_
                  refine pa_ 31 173 f134_ ?_
                  refine pa_ 32 174 f135_ ?_
                  refine pa_ 33 175 f136_ ?_
                  refine pa_ 34 176 f137_ ?_
                  refine pa_ 35 177 f138_ ?_
                  refine pa_ 36 178 f139_ ?_
                  refine pa_ 37 179 f140_ ?_
                  refine one_ (i:=38) (N:=some 180) f141_ rfl rfl (one_of HT_.out (by kernel_rfl)) (by decide) (fun K hK=>?_);refine goes_ Tryz.func20 (by kernel_rfl) rfl #[.slice Ao124 t133.length co124,.slice Ao125 t137.length co125] (by rfl) rfl rfl (q21_) ?_
                  with_reducible refine (yAd.calls k _ _ t133 _ _ t137 true _ ?side1 ?side2 ?side3 ?side4 A64.out).mono ?_
                  (case side1=>exact cX_ (Kd.R_reads' HO136.out).2.2)
                  (case side2=>exact (Kd.R_reads' HO136.out).2.1)
                  (case side3=>exact cX_ (Kd.R_reads' HO140.out).2.2)
                  (case side4=>exact (Kd.R_reads' HO140.out).2.1)
                  rintro e w' ⟨rfl,⟨nd,rfl⟩⟩;refine ⟨_,rfl,?_⟩;obtain ⟨Ao126,co126,eo126⟩:=Kd.R_slice HO152.out
                  (first | subst eo126 | (injection eo126 with f1_ f2_ f3_;have f4_:=f1_.symm;have f5_:=f3_.symm;clear f1_ f2_ f3_;subst f4_;subst f5_))
                  obtain ⟨Ao127,co127,eo127⟩:=Kd.R_slice HO156.out
                  (first | subst eo127 | (injection eo127 with f1_ f2_ f3_;have f4_:=f1_.symm;have f5_:=f3_.symm;clear f1_ f2_ f3_;subst f4_;subst f5_))
                  refine hK.out _ _ ⟨(blk_cell BK107.out 0).trans rfl,(blk_cell BK107.out 1).trans rfl,(blk_cell BK107.out 2).trans rfl⟩ (fun hHeld=>?_);clear hK K;refine norm_ (a' := ?_) ?_ ?_;rotate_left
                  ·show Act.put _ (some 180) _ = _;simp only [Act.put,List.setIfInBounds_toArray,List.set_cons_zero,List.set_cons_succ,i64_w,i32_w];rfl
                  refine pa_ 39 181 f142_ ?_
                  refine pa_ 40 182 f143_ ?_
                  refine pa_ 41 183 f144_ ?_
                  refine pa_ 42 184 f145_ ?_
                  refine pa_ 43 185 f146_ ?_
                  refine pa_ 44 186 f147_ ?_
                  refine pa_ 45 187 f148_ ?_
                  refine pa_ 46 188 f149_ ?_
                  refine pa_ 47 189 f150_ ?_
                  refine pa_ 48 190 f151_ ?_
                  refine pa_ 49 191 f152_ ?_
                  refine pa_ 50 192 f153_ ?_
                  refine pa_ 51 193 f154_ ?_
                  refine pa_ 52 194 f155_ ?_
                  refine pa_ 53 195 f156_ ?_
                  refine pa_ 54 196 f157_ ?_
                  refine pa_ 55 197 f158_ ?_
                  refine pa_ 56 198 f159_ ?_
                  refine pa_ 57 199 f160_ ?_
                  refine pa_ 58 200 f161_ ?_
                  refine one_ (i:=59) (N:=some 201) f162_ rfl rfl (one_of HT_.out (by kernel_rfl)) (by decide) (fun K hK=>?_);refine goes_ Tryz.func20 (by kernel_rfl) rfl #[.slice Ao126 t149.length co126,.slice Ao127 t153.length co127] (by rfl) rfl rfl (q21_) ?_
                  with_reducible refine (yAd.calls k _ _ t149 _ _ t153 true _ ?side1 ?side2 ?side3 ?side4 A83.out).mono ?_
                  (case side1=>exact cX_ (Kd.R_reads' HO152.out).2.2)
                  (case side2=>exact (Kd.R_reads' HO152.out).2.1)
                  (case side3=>exact cX_ (Kd.R_reads' HO156.out).2.2)
                  (case side4=>exact (Kd.R_reads' HO156.out).2.1)
                  rintro e w' ⟨rfl,⟨nd,rfl⟩⟩;refine ⟨_,rfl,?_⟩;refine hK.out _ _ ⟨(blk_cell BK107.out 0).trans rfl,(blk_cell BK107.out 1).trans rfl,(blk_cell BK107.out 2).trans rfl⟩ (fun hHeld=>?_);clear hK K;refine norm_ (a' := ?_) ?_ ?_;rotate_left
                  ·show Act.put _ (some 201) _ = _;simp only [Act.put,List.setIfInBounds_toArray,List.set_cons_zero,List.set_cons_succ,i64_w,i32_w];rfl
                  refine pa_ 60 202 f163_ ?_
                  refine pa_ 61 203 f164_ ?_
                  refine pa_ 62 204 f165_ ?_
                  refine pa_ 63 205 f166_ ?_
                  refine pa_ 64 206 f167_ ?_
                  refine pa_ 65 207 f168_ ?_
                  refine pa_ 66 208 f169_ ?_
                  refine pa_ 67 209 f170_ ?_
                  refine pa_ 68 210 f171_ ?_
                  refine pa_ 69 211 f172_ ?_
                  refine pa_ 70 212 f173_ ?_
                  refine pa_ 71 213 f174_ ?_
                  refine pa_ 72 214 f175_ ?_
                  refine pa_ 73 215 f176_ ?_
                  refine pa_ 74 216 f177_ ?_
                  refine one_ (i:=75) (N:=some 217) f178_ rfl rfl (one_of HT_.out (by kernel_rfl)) (by decide) (fun K hK=>?_);refine goes_ Tryz.func22 (by kernel_rfl) rfl #[.slice Ao37 t141.length co37] (by rfl) rfl rfl (q21_) ?_
                  with_reducible refine (yAH.calls k _ _ t141 t161 _ ?side1 ?side2 A105.out).mono ?_
                  (case side1=>exact cX_ (Kd.R_reads' HO143.out).2.2)
                  (case side2=>exact (Kd.R_reads' HO143.out).2.1)
                  rintro e w128 ⟨rfl,hb⟩;refine ⟨_,rfl,?_⟩;replace HO103:=rB_ HO103 hb;replace HO110:=rB_ HO110 hb;replace HO114:=rB_ HO114 hb;replace HO120:=rB_ HO120 hb;replace HO128:=Aside0.mk (Kd.S_below (q13_) hb);replace HO132:=Aside0.mk (Kd.S_below (q14_) hb);replace HO136:=rB_ HO136 hb;replace HO140:=rB_ HO140 hb;replace HO143:=rB_ HO143 hb;replace HO152:=rB_ HO152 hb;replace HO156:=rB_ HO156 hb;replace BK107:=bkB_ BK107 hb;replace HB:=Aside0.mk (below_step (q26_) hb)
                  (try clear hb)
                  (try clear hk)
                  refine hK.out _ _ ⟨(blk_cell BK107.out 0).trans rfl,(blk_cell BK107.out 1).trans rfl,(blk_cell BK107.out 2).trans rfl⟩ (fun hHeld=>?_);clear hK K;refine norm_ (a' := ?_) ?_ ?_;rotate_left
                  ·show Act.put _ (some 217) _ = _;simp only [Act.put,List.setIfInBounds_toArray,List.set_cons_zero,List.set_cons_succ,i64_w,i32_w];rfl
                  refine pa_ 76 218 f179_ ?_
                  refine pa_ 77 219 f180_ ?_
                  refine pa_ 78 220 f181_ ?_
                  refine take_ (i:=79) (N:=some 221) (v:=?_) (a' := ?_) f182_ rfl rfl (take_ofW HT_.out HW_.out (by kernel_rfl)) (fun _ _ _ h=>h) (Or.inl ⟨by rfl,?_⟩) hHeld ?_ ?_;rotate_left
                  ·rintro w' ⟨s0,s1,s2⟩;go_simp;with_reducible rfl
                  rotate_left
                  ·exact q53_
                  refine take_ (i:=81) (N:=some 223) (v:=?_) (a' := ?_) f183_ rfl rfl (take_ofW HT_.out HW_.out (by kernel_rfl)) (fun _ _ _ h=>h) (Or.inl ⟨by rfl,?_⟩) hHeld ?_ ?_;rotate_left
                  ·rintro w' ⟨s0,s1,s2⟩;go_simp;with_reducible rfl
                  rotate_left
                  ·exact q53_
                  refine one_ (i:=80) (N:=some 222) f184_ rfl rfl (one_of HT_.out (by kernel_rfl)) (by decide) (fun K hK=>?_);refine goes_ Tryz.func23 (by kernel_rfl) rfl #[.agg #[.int .i64 t104,.int .i64 t105,.string t106]] (by rfl) rfl rfl (q21_) ?_
                  with_reducible refine (yA1.calls k t104 t105 t106 t162 _ A117.out).mono ?_
                  rintro e w129 ⟨rfl,hb⟩;refine ⟨_,rfl,?_⟩;replace HO103:=rB_ HO103 hb;replace HO110:=rB_ HO110 hb;replace HO114:=rB_ HO114 hb;replace HO120:=rB_ HO120 hb;replace HO128:=Aside0.mk (Kd.S_below (q13_) hb);replace HO132:=Aside0.mk (Kd.S_below (q14_) hb);replace HO136:=rB_ HO136 hb;replace HO140:=rB_ HO140 hb;replace HO143:=rB_ HO143 hb;replace HO152:=rB_ HO152 hb;replace HO156:=rB_ HO156 hb;replace BK107:=bkB_ BK107 hb;replace HB:=Aside0.mk (below_step (q26_) hb)
                  (try clear hb)
                  (try clear hk)
                  refine hK.out _ _ ⟨(blk_cell BK107.out 0).trans rfl,(blk_cell BK107.out 1).trans rfl,(blk_cell BK107.out 2).trans rfl⟩ (fun hHeld=>?_);clear hK K;refine norm_ (a' := ?_) ?_ ?_;rotate_left
                  ·show Act.put _ (some 222) _ = _;simp only [Act.put,List.setIfInBounds_toArray,List.set_cons_zero,List.set_cons_succ,i64_w,i32_w];rfl
                  refine one_ (i:=82) (N:=some 224) f185_ rfl rfl (one_of HT_.out (by kernel_rfl)) (by decide) (fun K hK=>?_);refine goes_ Tryz.func24 (by kernel_rfl) rfl #[.agg #[.int .i64 t104,.int .i64 t105,.string t106]] (by rfl) rfl rfl (q21_) ?_
                  with_reducible refine (yBH.calls k t104 t105 t106 t163 _ A118.out).mono ?_
                  rintro e w130 ⟨rfl,hb⟩;refine ⟨_,rfl,?_⟩;replace HO103:=rB_ HO103 hb;replace HO110:=rB_ HO110 hb;replace HO114:=rB_ HO114 hb;replace HO120:=rB_ HO120 hb;replace HO128:=Aside0.mk (Kd.S_below (q13_) hb);replace HO132:=Aside0.mk (Kd.S_below (q14_) hb);replace HO136:=rB_ HO136 hb;replace HO140:=rB_ HO140 hb;replace HO143:=rB_ HO143 hb;replace HO152:=rB_ HO152 hb;replace HO156:=rB_ HO156 hb;replace BK107:=bkB_ BK107 hb;replace HB:=Aside0.mk (below_step (q26_) hb)
                  (try clear hb)
                  (try clear hk)
                  refine hK.out _ _ ⟨(blk_cell BK107.out 0).trans rfl,(blk_cell BK107.out 1).trans rfl,(blk_cell BK107.out 2).trans rfl⟩ (fun hHeld=>?_);clear hK K;refine norm_ (a' := ?_) ?_ ?_;rotate_left
                  ·show Act.put _ (some 224) _ = _;simp only [Act.put,List.setIfInBounds_toArray,List.set_cons_zero,List.set_cons_succ,i64_w,i32_w];rfl
                  refine pa_ 83 225 f186_ ?_
                  refine pa_ 84 226 f187_ ?_
                  refine done_ (done_of HT_.out (by kernel_rfl)) ?_;try go_wp2
                  go_meet
                  case rel=>exact ⟨_,((t162 != t163)),(q3_),H', ⟨q2_⟩,⟨by (with_reducible repeat (first | apply Kd.R_alloc | apply Kd.R_drewN | apply Kd.R_drew));exact Kd.R_mono HO103.out (fun _ hk=>⟨hk.1.1.1.1.1.1.1.2,⟨hk.1.1.1.1.1.1.2,⟨hk.1.1.1.1.1.2,⟨hk.1.1.1.1.2,⟨hk.1.1.2,hk.1.1.1.1.1.1.1.1.2⟩⟩⟩⟩⟩)⟩,⟨by (with_reducible repeat (first | apply Kd.R_alloc | apply Kd.R_drewN | apply Kd.R_drew));exact Kd.R_mono HO110.out (fun _ hk=>⟨hk.1.1.1.1.1.1.1.1.2,⟨hk.1.1.1.1.1.1.2,⟨hk.1.1.1.1.1.2,⟨hk.1.1.1.1.2,⟨hk.1.1.2,hk.1.1.1.1.1.1.1.2⟩⟩⟩⟩⟩)⟩,⟨by (with_reducible repeat (first | apply Kd.R_alloc | apply Kd.R_drewN | apply Kd.R_drew));exact Kd.R_mono HO114.out (fun _ hk=>⟨hk.1.1.1.1.1.1.1.1.2,⟨hk.1.1.1.1.1.1.1.2,⟨hk.1.1.1.1.1.2,⟨hk.1.1.1.1.2,⟨hk.1.1.2,hk.1.1.1.1.1.1.2⟩⟩⟩⟩⟩)⟩,⟨by (with_reducible repeat (first | apply Kd.R_alloc | apply Kd.R_drewN | apply Kd.R_drew));exact Kd.R_mono HO120.out (fun _ hk=>⟨hk.1.1.1.1.1.1.1.1.2,⟨hk.1.1.1.1.1.1.1.2,⟨hk.1.1.1.1.1.1.2,⟨hk.1.1.1.1.2,⟨hk.1.1.2,hk.1.1.1.1.1.2⟩⟩⟩⟩⟩)⟩,⟨by (with_reducible repeat (first | apply Kd.S_alloc | apply Kd.S_drewN | apply Kd.S_drew));exact Kd.S_mono HO132.out (fun _ hk=>trivial)⟩,⟨by (with_reducible repeat (first | apply Kd.R_alloc | apply Kd.R_drewN | apply Kd.R_drew));exact Kd.R_mono HO136.out (fun _ hk=>⟨hk.1.1.1.1.1.1.1.1.2,⟨hk.1.1.1.1.1.1.1.2,⟨hk.1.1.1.1.1.1.2,⟨hk.1.1.1.1.1.2,⟨hk.1.1.2,hk.1.1.1.1.2⟩⟩⟩⟩⟩)⟩,⟨by (with_reducible repeat (first | apply Kd.R_alloc | apply Kd.R_drewN | apply Kd.R_drew));exact Kd.R_mono HO143.out (fun _ hk=>⟨hk.1.1.1.1.1.1.1.1.2,⟨hk.1.1.1.1.1.1.1.2,⟨hk.1.1.1.1.1.1.2,⟨hk.1.1.1.1.1.2,⟨hk.1.1.1.1.2,hk.1.1.2⟩⟩⟩⟩⟩)⟩,⟨q18_⟩,⟨q26_⟩⟩
              ·replace c84:=Bool.eq_false_iff.mpr c84;subst c84;rw [if_neg (show ¬ (false = true) by decide)] at H;first | with_reducible exact (laws_FnTiers.j0_no H ht_.out).elim
            ·rw [if_neg c74] at H;have c74b0 : (t144.toList == t146.toList) = false:=beq_eq_false_iff_ne.mpr c74;have c74b1 : (t144.toList != t146.toList) = true:=bne_iff_ne.mpr c74;first | with_reducible exact (laws_FnTiers.j0_no H ht_.out).elim
          ·replace c65:=Bool.eq_false_iff.mpr c65;subst c65;rw [if_neg (show ¬ (false = true) by decide)] at H;first | with_reducible exact (laws_FnTiers.j0_no H ht_.out).elim
        ·replace c57:=Bool.eq_false_iff.mpr c57;subst c57;rw [if_neg (show ¬ (false = true) by decide)] at H;first | with_reducible exact (laws_FnTiers.j0_no H ht_.out).elim
      ·rw [if_neg c51] at H;have c51b0 : (t121 == t123) = false:=beq_eq_false_iff_ne.mpr c51;have c51b1 : (t121 != t123) = true:=bne_iff_ne.mpr c51;first | with_reducible exact (laws_FnTiers.j0_no H ht_.out).elim
    ·replace c46:=Bool.eq_false_iff.mpr c46;subst c46;rw [if_neg (show ¬ (false = true) by decide)] at H;first | with_reducible exact (laws_FnTiers.j0_no H ht_.out).elim
  case rest=>as_aux_lemma =>
   clear HC20;try clear c46
   obtain ⟨kq,x226_19,rfl,HA,HJ19,HO_5,HO_7,HO_9,HO_11,HO_20,HO_22,HO_26,BK107,HB⟩:=hcut;cases kq with
   | zero=>exact absurd HA.out (by simp [laws_FnTiers.j0])
   | succ kj19 =>
    have H:=HA.out;clear HA;simp only [laws_FnTiers.j0] at H;by_cases c165 : x226_19 = true
    ·subst c165;rw [if_pos rfl] at H;exact absurd (Option.some.inj H) (by rw [ht_.out];decide)
    ·replace c165:=Bool.eq_false_iff.mpr c165;subst c165;rw [if_neg (show ¬ (false = true) by decide)] at H;have HC166:=Aside0.mk H;clear H;go_upto_if 227 with (fail)
     go_cut [] (fun wc=>∃ (kq : Nat),Aside0 (laws_FnTiers.j1 kq t116 t117 t118 t122 t123 t129 t133 t141 t144 t145 = some r) ∧ Aside0 (kq ≤ kj19) ∧ Aside0 (Kd.R k25 25 wc w.heap.size (fun k_=>some k_ ≠ (v135 : Value).ownBlock ∧ some k_ ≠ ((.slice Ao37 t141.length co37) : Value).ownBlock ∧ k_ ≠ gb107) (.slice Ao29 t116.length co29) t116) ∧ Aside0 (Kd.S (Kd.slice 3 (Kd.int .i64)) 48 wc w.heap.size (fun _=>True) v131 t129) ∧ Aside0 (Kd.R k25 25 wc w.heap.size (fun k_=>some k_ ≠ ((.slice Ao29 t116.length co29) : Value).ownBlock ∧ some k_ ≠ ((.slice Ao37 t141.length co37) : Value).ownBlock ∧ k_ ≠ gb107) v135 t133) ∧ Aside0 (Kd.R k25 25 wc w.heap.size (fun k_=>some k_ ≠ ((.slice Ao29 t116.length co29) : Value).ownBlock ∧ some k_ ≠ (v135 : Value).ownBlock ∧ k_ ≠ gb107) (.slice Ao37 t141.length co37) t141) ∧ Aside0 (wc.heap[gb107]? = some (.cells #[.int .i64 t104,.int .i64 t105,.string t106] 25 (0,0))) ∧ Aside0 (Below w.heap.size w wc))
     case first=>as_aux_lemma =>
      have H:=HC166.out;clear HC166;by_cases c167 : t111 = true
      ·subst c167;rw [if_pos rfl] at H;replace H:=Option.bind_eq_some_iff.mp H;obtain ⟨⟨t164,t165⟩,A1680,H⟩:=H;(try dsimp only at H);have A168:=Aside0.mk A1680;clear A1680;replace H:=Option.bind_eq_some_iff.mp H;obtain ⟨⟨t166,t167⟩,A1690,H⟩:=H;(try dsimp only at H);have A169:=Aside0.mk A1690;clear A1690;by_cases c170 : t165 = true
       ·subst c170;rw [if_pos rfl] at H;by_cases c171 : t167 = true
        ·subst c171;rw [if_pos rfl] at H;by_cases c172 : t164 = t166
         ·rw [if_pos c172] at H;have c172b0 : (t164 == t166) = true:=beq_iff_eq.mpr c172;have c172b1 : (t164 != t166) = false:=bne_eq_false_iff_eq.mpr c172;clear c172
          (first | rw [c172b0] | (simp only [i64_w,i32_w];rw [c172b0]) | skip)
          by_cases c173 : 0 ≤ t166
          ·rw [if_pos c173] at H;have c173b0:=decide_eq_true c173;clear c173;by_cases c174 : t166 < (t112.length : Int)
           ·rw [if_pos c174] at H;have c174b0:=decide_eq_true c174;clear c174;by_cases c175 : (!(((rd_T25 t112 t166).f0) == t104) || (!(((rd_T25 t112 t166).f1) == t105) || (!((((rd_T25 t112 t166).f2).toList) == t106.toList)))) = true
            ·rw [if_pos c175] at H;have c175b0 : (!(((rd_T25 t112 t166).f0) == t104) || (!(((rd_T25 t112 t166).f1) == t105) || (!((((rd_T25 t112 t166).f2).toList) == t106.toList)))) = true:=c175;clear c175;exact absurd (Option.some.inj H) (by rw [ht_.out];decide)
            ·rw [if_neg c175] at H;have c175b0 : (!(((rd_T25 t112 t166).f0) == t104) || (!(((rd_T25 t112 t166).f1) == t105) || (!((((rd_T25 t112 t166).f2).toList) == t106.toList)))) = false:=by simpa using c175
             clear c175;by_cases c176 : (t112.length : Int) = (wrap64 ((t101.length : Int) + 1))
             ·rw [if_pos c176] at H;have c176b0 : ((t112.length : Int) == (wrap64 ((t101.length : Int) + 1))) = true:=beq_iff_eq.mpr c176;have c176b1 : ((t112.length : Int) != (wrap64 ((t101.length : Int) + 1))) = false:=bne_eq_false_iff_eq.mpr c176;clear c176;replace H:=Option.bind_eq_some_iff.mp H;obtain ⟨t169,A1770,H⟩:=H;(try dsimp only at H);have A177:=Aside0.mk A1770;clear A1770;by_cases c178 : t169 = true
              ·subst c178;rw [if_pos rfl] at H;have H' := Aside0.mk H;clear H;obtain ⟨hcz179_0,hcz179_1,hcz179_2,hfz179_0,hfz179_1,hfz179_2⟩:=bx3_ BK107.out;obtain ⟨Ao180,co180,eo180⟩:=Kd.R_slice HO_7.out;subst eo180;try go_wp2_with (first | ((with_reducible refine gate_callee (f:=25) rfl ?_);refine goesL_ (some 232) rfl rfl Tryz.func25 (by kernel_rfl) rfl #[.slice Ao180 t108.length co180,.int .i64 t104] rfl (q21_) ?_;(with_reducible refine (yAp.calls kj19 _ _ t108 t104 t164 true _ ?side1 ?side2 A168.out).mono ?_);(case side1=>exact cX_ (Kd.R_reads' HO_7.out).2.2);(case side2=>exact (Kd.R_reads' HO_7.out).2.1);rintro e w181 ⟨rfl,hb⟩;refine ⟨_,rfl,?_⟩;replace HO_5:=rB_ HO_5 hb;replace HO_7:=rB_ HO_7 hb;replace HO_9:=rB_ HO_9 hb;replace HO_11:=rB_ HO_11 hb;replace HO_20:=Aside0.mk (Kd.S_below (by (with_reducible repeat (first | apply Kd.S_alloc | apply Kd.S_drewN | apply Kd.S_drew));exact HO_20.out) hb);replace HO_22:=rB_ HO_22 hb;replace HO_26:=rB_ HO_26 hb;replace BK107:=bkB_ BK107 hb;replace HB:=Aside0.mk (below_step (q26_) hb);(try clear hb);obtain ⟨hcz182_0,hcz182_1,hcz182_2,hfz182_0,hfz182_1,hfz182_2⟩:=bx3_ BK107.out;obtain ⟨Ao183,co183,eo183⟩:=Kd.R_slice HO_9.out;subst eo183) | ((with_reducible refine gate_callee (f:=26) rfl ?_);refine goesL_ (some 239) rfl rfl Tryz.func26 (by kernel_rfl) rfl #[.slice Ao183 t112.length co183,.int .i64 t104] rfl (q21_) ?_;(with_reducible refine (yBI.calls kj19 _ _ t112 t104 t166 true _ ?side1 ?side2 A169.out).mono ?_);(case side1=>exact cX_ (Kd.R_reads' HO_9.out).2.2);(case side2=>exact (Kd.R_reads' HO_9.out).2.1);rintro e w184 ⟨rfl,hb⟩;refine ⟨_,rfl,?_⟩;replace HO_5:=rB_ HO_5 hb;replace HO_7:=rB_ HO_7 hb;replace HO_9:=rB_ HO_9 hb;replace HO_11:=rB_ HO_11 hb;replace HO_20:=Aside0.mk (Kd.S_below (by (with_reducible repeat (first | apply Kd.S_alloc | apply Kd.S_drewN | apply Kd.S_drew));exact HO_20.out) hb);replace HO_22:=rB_ HO_22 hb;replace HO_26:=rB_ HO_26 hb;replace BK107:=bkB_ BK107 hb;replace HB:=Aside0.mk (below_step (q26_) hb);(try clear hb)))
               replace HO_5:=Aside0.mk (Kd.R_drew HO_5.out);replace HO_7:=Aside0.mk (Kd.R_drew HO_7.out);replace HO_9:=Aside0.mk (Kd.R_drew HO_9.out);replace HO_11:=Aside0.mk (Kd.R_drew HO_11.out);replace HO_20:=Aside0.mk (Kd.S_drew HO_20.out);replace HO_22:=Aside0.mk (Kd.R_drew HO_22.out);replace HO_26:=Aside0.mk (Kd.R_drew HO_26.out);replace BK107:=Aside0.mk (blk_drew BK107.out);replace HB:=Aside0.mk (below_drew1 HB.out);have p168 : 0 ≤ (t166 : Int):=of_decide_eq_true (q4_);have q168 : t166 < (t112.length : Int):=of_decide_eq_true (q4_);obtain ⟨ad168,e168,hx168_0,hx168_1,hx168_2⟩:=at_T25 (Kd.R_reads' HO_9.out).2.2 t166 p168 q168;cases e168;replace p168:=eq_true p168;replace q168:=eq_true q168;refine start_ (n:=32) (S:=fun w' => w'.cell? ⟨gb107,0,none⟩ = some (.int .i64 t104) ∧ w'.cell? ⟨gb107,1,none⟩ = some (.int .i64 t105) ∧ w'.cell? ⟨gb107,2,none⟩ = some (.string t106) ∧ w'.cell? (ad168.add ((t166).toNat * 3)) = some (.int .i64 ((rd_T25 t112 t166).f0)) ∧ w'.cell? ⟨(ad168.add ((t166).toNat * 3)).block,(ad168.add ((t166).toNat * 3)).off + 1,none⟩ = some (.int .i64 ((rd_T25 t112 t166).f1)) ∧ w'.cell? ⟨(ad168.add ((t166).toNat * 3)).block,(ad168.add ((t166).toNat * 3)).off + 2,none⟩ = some (.string ((rd_T25 t112 t166).f2))) (ds:=[]) f188_ (by kernel_rfl) rfl rfl ⟨(blk_cell BK107.out 0).trans rfl,(blk_cell BK107.out 1).trans rfl,(blk_cell BK107.out 2).trans rfl,hx168_0,hx168_1,hx168_2⟩ (fun hHeld=>?_);refine with_tabW laws_FnTiers.tab24 laws_FnTiers.bits24 (fun HT_ HW_=>?_);generalize w184.drew = w185 at HO_5 HO_7 HO_9 HO_11 HO_20 HO_22 HO_26 BK107 HB hx168_0 hx168_1 hx168_2 hHeld ⊢;refine pure_ (i:=0) (N:=some 242) (v:=?_) (a' := ?_) f189_ rfl rfl (any_of HT_.out (by kernel_rfl)) (fun _ _ _ h=>h) (Or.inl ⟨by rfl,?_⟩) ?_ ?_;rotate_left
               ·intro w';go_simp;with_reducible rfl
               rotate_left
               ·exact q53_
               refine pa_ 1 243 f190_ ?_
               refine pa_ 2 244 f191_ ?_
               refine pa_ 3 245 f192_ ?_
               refine pa_ 4 246 f193_ ?_
               refine pa_ 5 247 f194_ ?_
               refine pa_ 6 248 f195_ ?_
               refine pa_ 7 249 f196_ ?_
               refine pa_ 8 250 f197_ ?_
               refine pa_ 9 251 f198_ ?_
               refine pa_ 10 252 f199_ ?_
               refine pa_ 11 253 f200_ ?_
               refine pa_ 12 254 f201_ ?_
               refine pa_ 13 255 f202_ ?_
               refine pa_ 14 256 f203_ ?_
               refine take_ (i:=15) (N:=some 257) (v:=?_) (a' := ?_) f204_ rfl rfl (take_ofW HT_.out HW_.out (by kernel_rfl)) (fun _ _ _ h=>h) (Or.inl ⟨by rfl,?_⟩) hHeld ?_ ?_;rotate_left
               ·rintro w' ⟨s0,s1,s2,s3,s4,s5⟩;go_simp;with_reducible rfl
               rotate_left
               ·exact q53_
               refine take_ (i:=16) (N:=some 258) (v:=?_) (a' := ?_) f205_ rfl rfl (take_ofW HT_.out HW_.out (by kernel_rfl)) (fun _ _ _ h=>h) (Or.inl ⟨by rfl,?_⟩) hHeld ?_ ?_;rotate_left
               ·rintro w' ⟨s0,s1,s2,s3,s4,s5⟩;go_simp;with_reducible rfl
               rotate_left
               ·exact q53_
               refine pa_ 17 259 f206_ ?_
               refine pa_ 18 260 f207_ ?_
               refine pa_ 19 261 f208_ ?_
               refine pa_ 20 262 f209_ ?_
               refine pa_ 21 263 f210_ ?_
               refine pa_ 22 264 f211_ ?_
               refine pa_ 23 265 f212_ ?_
               refine pa_ 24 266 f213_ ?_
               refine pa_ 25 267 f214_ ?_
               refine pa_ 26 268 f215_ ?_
               refine pa_ 27 269 f216_ ?_
               refine pa_ 28 270 f217_ ?_
               refine one_ (i:=29) (N:=some 271) f218_ rfl rfl (one_of HT_.out (by kernel_rfl)) (by decide) (fun K hK=>?_);refine goes_ Tryz.func22 (by kernel_rfl) rfl #[.slice Ao180 t108.length co180] (by rfl) rfl rfl (q21_) ?_
               with_reducible refine (yAH.calls kj19 _ _ t108 true _ ?side1 ?side2 A177.out).mono ?_
               (case side1=>exact cX_ (Kd.R_reads' HO_7.out).2.2)
               (case side2=>exact (Kd.R_reads' HO_7.out).2.1)
               rintro e w186 ⟨rfl,hb⟩;have HS3_:=(hb.cell (World.block_lt_of_cell? _ _ (hHeld.2.2.2.1))).trans (hHeld.2.2.2.1);have HS4_:=(hb.cell (World.block_lt_of_cell? _ _ (hHeld.2.2.2.2.1))).trans (hHeld.2.2.2.2.1);have HS5_:=(hb.cell (World.block_lt_of_cell? _ _ (hHeld.2.2.2.2.2))).trans (hHeld.2.2.2.2.2);refine ⟨_,rfl,?_⟩;replace HO_5:=rB_ HO_5 hb;replace HO_7:=rB_ HO_7 hb;replace HO_9:=rB_ HO_9 hb;replace HO_11:=rB_ HO_11 hb;replace HO_20:=Aside0.mk (Kd.S_below (by (with_reducible repeat (first | apply Kd.S_alloc | apply Kd.S_drewN | apply Kd.S_drew));exact HO_20.out) hb);replace HO_22:=rB_ HO_22 hb;replace HO_26:=rB_ HO_26 hb;replace BK107:=bkB_ BK107 hb;replace HB:=Aside0.mk (below_step (q26_) hb)
               (try clear hb)
               (try clear hk)
               refine hK.out _ _ ⟨(blk_cell BK107.out 0).trans rfl,(blk_cell BK107.out 1).trans rfl,(blk_cell BK107.out 2).trans rfl,HS3_,HS4_,HS5_⟩ (fun hHeld=>?_);clear hK K;refine norm_ (a' := ?_) ?_ ?_;rotate_left
               ·show Act.put _ (some 271) _ = _;simp only [Act.put,List.setIfInBounds_toArray,List.set_cons_zero,List.set_cons_succ,i64_w,i32_w];rfl
               refine pa_ 30 272 f219_ ?_
               refine pa_ 31 273 f220_ ?_
               refine done_ (done_of HT_.out (by kernel_rfl)) ?_;try go_wp2
               go_meet
               case rel=>exact ⟨_,H', ⟨by have:=HJ19.out;first | omega | exact Nat.le_refl _⟩,⟨by (with_reducible repeat (first | apply Kd.R_alloc | apply Kd.R_drewN | apply Kd.R_drew));exact Kd.R_mono HO_11.out (fun _ hk=>⟨hk.2.2.2.1,⟨hk.2.2.2.2.1,hk.2.2.2.2.2⟩⟩)⟩,⟨by (with_reducible repeat (first | apply Kd.S_alloc | apply Kd.S_drewN | apply Kd.S_drew));exact HO_20.out⟩,⟨by (with_reducible repeat (first | apply Kd.R_alloc | apply Kd.R_drewN | apply Kd.R_drew));exact Kd.R_mono HO_22.out (fun _ hk=>⟨hk.2.2.2.1,⟨hk.2.2.2.2.1,hk.2.2.2.2.2⟩⟩)⟩,⟨by (with_reducible repeat (first | apply Kd.R_alloc | apply Kd.R_drewN | apply Kd.R_drew));exact Kd.R_mono HO_26.out (fun _ hk=>⟨hk.2.2.2.1,⟨hk.2.2.2.2.1,hk.2.2.2.2.2⟩⟩)⟩,⟨q18_⟩,⟨q26_⟩⟩
              ·replace c178:=Bool.eq_false_iff.mpr c178;subst c178;rw [if_neg (show ¬ (false = true) by decide)] at H;exact absurd (Option.some.inj H) (by rw [ht_.out];decide)
             ·rw [if_neg c176] at H;have c176b0 : ((t112.length : Int) == (wrap64 ((t101.length : Int) + 1))) = false:=beq_eq_false_iff_ne.mpr c176;have c176b1 : ((t112.length : Int) != (wrap64 ((t101.length : Int) + 1))) = true:=bne_iff_ne.mpr c176;exact absurd (Option.some.inj H) (by rw [ht_.out];decide)
           ·rw [if_neg c174] at H;exact absurd H (q1_)
          ·rw [if_neg c173] at H;exact absurd H (q1_)
         ·rw [if_neg c172] at H;have c172b0 : (t164 == t166) = false:=beq_eq_false_iff_ne.mpr c172;have c172b1 : (t164 != t166) = true:=bne_iff_ne.mpr c172
          (first | rw [c172b0] | (simp only [i64_w,i32_w];rw [c172b0]) | skip)
          exact absurd (Option.some.inj H) (by rw [ht_.out];decide)
        ·replace c171:=Bool.eq_false_iff.mpr c171;subst c171;rw [if_neg (show ¬ (false = true) by decide)] at H;exact absurd (Option.some.inj H) (by rw [ht_.out];decide)
       ·replace c170:=Bool.eq_false_iff.mpr c170;subst c170;rw [if_neg (show ¬ (false = true) by decide)] at H;exact absurd (Option.some.inj H) (by rw [ht_.out];decide)
      ·replace c167:=Bool.eq_false_iff.mpr c167;subst c167;rw [if_neg (show ¬ (false = true) by decide)] at H;have H' := Aside0.mk H;clear H;go_wp2;go_meet
       case rel=>exact ⟨_,H', ⟨by have:=HJ19.out;first | omega | exact Nat.le_refl _⟩,⟨by (with_reducible repeat (first | apply Kd.R_alloc | apply Kd.R_drewN | apply Kd.R_drew));exact Kd.R_mono HO_11.out (fun _ hk=>⟨hk.2.2.2.1,⟨hk.2.2.2.2.1,hk.2.2.2.2.2⟩⟩)⟩,⟨by (with_reducible repeat (first | apply Kd.S_alloc | apply Kd.S_drewN | apply Kd.S_drew));exact HO_20.out⟩,⟨by (with_reducible repeat (first | apply Kd.R_alloc | apply Kd.R_drewN | apply Kd.R_drew));exact Kd.R_mono HO_22.out (fun _ hk=>⟨hk.2.2.2.1,⟨hk.2.2.2.2.1,hk.2.2.2.2.2⟩⟩)⟩,⟨by (with_reducible repeat (first | apply Kd.R_alloc | apply Kd.R_drewN | apply Kd.R_drew));exact Kd.R_mono HO_26.out (fun _ hk=>⟨hk.2.2.2.1,⟨hk.2.2.2.2.1,hk.2.2.2.2.2⟩⟩)⟩,⟨q18_⟩,⟨q26_⟩⟩
     case rest=>as_aux_lemma =>
      clear HC166;try clear c1
      try clear c46
      try clear c165
      obtain ⟨kq,HA,HJ165,HO_11,HO_20,HO_22,HO_26,BK107,HB⟩:=hcut;cases kq with
      | zero=>exact absurd HA.out (by simp [laws_FnTiers.j1])
      | succ kj165 =>
       have H:=HA.out;clear HA;simp only [laws_FnTiers.j1] at H;have HC187:=Aside0.mk H;clear H;go_upto_if 274 with (fail)
       go_cut [] (fun wc=>∃ (kq : Nat),Aside0 (laws_FnTiers.j3 kq t141 t144 t145 = some r) ∧ Aside0 (kq ≤ kj165) ∧ Aside0 (Kd.R k25 25 wc w.heap.size (fun k_=>k_ ≠ gb107) (.slice Ao37 t141.length co37) t141) ∧ Aside0 (wc.heap[gb107]? = some (.cells #[.int .i64 t104,.int .i64 t105,.string t106] 25 (0,0))) ∧ Aside0 (Below w.heap.size w wc))
       case first=>as_aux_lemma =>
        have H:=HC187.out;clear HC187;by_cases c188 : t122 = true
        ·subst c188;rw [if_pos rfl] at H;have H' := Aside0.mk H;clear H;obtain ⟨Ao189,co189,eo189⟩:=Kd.S_slice HO_20.out;subst eo189;go_wp2;go_loopg [40,277] kj165 (fun kq v40 v277 w' => ∃ (x40_3 : Int) (x277_3 : Int),v40 = .int .i64 x40_3 ∧ v277 = .int .i64 x277_3 ∧ Aside0 (laws_FnTiers.l0 kq t116 t117 t118 t123 t133 t141 t144 t145 x40_3 t129 (t129.length : Int) x277_3 = some r) ∧ Aside0 (kq ≤ kj165) ∧ Aside0 (Kd.R k25 25 w' w.heap.size (fun k_=>some k_ ≠ (v135 : Value).ownBlock ∧ some k_ ≠ ((.slice Ao37 t141.length co37) : Value).ownBlock ∧ k_ ≠ gb107) (.slice Ao29 t116.length co29) t116) ∧ Aside0 (Kd.R k25 25 w' w.heap.size (fun k_=>some k_ ≠ ((.slice Ao29 t116.length co29) : Value).ownBlock ∧ some k_ ≠ ((.slice Ao37 t141.length co37) : Value).ownBlock ∧ k_ ≠ gb107) v135 t133) ∧ Aside0 (Kd.R k25 25 w' w.heap.size (fun k_=>some k_ ≠ ((.slice Ao29 t116.length co29) : Value).ownBlock ∧ some k_ ≠ (v135 : Value).ownBlock ∧ k_ ≠ gb107) (.slice Ao37 t141.length co37) t141) ∧ Aside0 (Kd.S (Kd.slice 3 (Kd.int .i64)) 48 w' w.heap.size (fun _=>True) (.slice Ao189 t129.length co189) t129) ∧ Aside0 (w'.heap[gb107]? = some (.cells #[.int .i64 t104,.int .i64 t105,.string t106] 25 (0,0))) ∧ Aside0 (Below w.heap.size w w'))
         case atStart=>exact ⟨(0),(0),(q3_),(q3_),H', ⟨Nat.le_refl _⟩,⟨by (with_reducible repeat (first | apply Kd.R_alloc | apply Kd.R_drewN | apply Kd.R_drew));exact HO_11.out⟩,⟨by (with_reducible repeat (first | apply Kd.R_alloc | apply Kd.R_drewN | apply Kd.R_drew));exact HO_22.out⟩,⟨by (with_reducible repeat (first | apply Kd.R_alloc | apply Kd.R_drewN | apply Kd.R_drew));exact HO_26.out⟩,⟨by (with_reducible repeat (first | apply Kd.S_alloc | apply Kd.S_drewN | apply Kd.S_drew));exact HO_20.out⟩,⟨q18_⟩,⟨q26_⟩⟩
         case round =>
          clear H';try clear c1
          try clear c46
          try clear c165
          try clear c188
          obtain ⟨x40_3,x277_3,rfl,rfl,HA,HK3,HO_11,HO_22,HO_26,HO_275,BK107,HB⟩:=hrel;cases gk with
          | zero=>exact absurd HA.out (by simp [laws_FnTiers.l0])
          | succ k3 =>
           have H:=HA.out;clear HA;simp only [laws_FnTiers.l0] at H;by_cases c190 : x277_3 < (t129.length : Int)
           ·rw [if_pos c190] at H;have c190b0:=decide_eq_true c190;clear c190
            (first | rw [c190b0] | (simp only [i64_w,i32_w];rw [c190b0]) | skip)
            by_cases c191 : 0 ≤ x277_3
            ·rw [if_pos c191] at H;have c191b0:=decide_eq_true c191;clear c191;by_cases c192 : x277_3 < (t129.length : Int)
             ·rw [if_pos c192] at H;have c192b0:=decide_eq_true c192;clear c192;by_cases c193 : 1 < ((rd_L13 t129 x277_3).length : Int)
              ·rw [if_pos c193] at H;have c193b0:=decide_eq_true c193;have c193b1 : decide (1 < (rd_L13 t129 x277_3).length) = true:=decide_eq_true (by omega);clear c193;by_cases c194 : 0 < ((rd_L13 t129 x277_3).length : Int)
               ·rw [if_pos c194] at H;have c194b0:=decide_eq_true c194;have c194b1 : decide (0 < (rd_L13 t129 x277_3).length) = true:=decide_eq_true (by omega);clear c194;replace H:=Option.bind_eq_some_iff.mp H;obtain ⟨⟨t174,t175⟩,A1950,H⟩:=H;(try dsimp only at H);have A195:=Aside0.mk A1950;clear A1950;by_cases c196 : t175 = true
                ·subst c196;rw [if_pos rfl] at H;exact absurd (Option.some.inj H) (by rw [ht_.out];decide)
                ·replace c196:=Bool.eq_false_iff.mpr c196;subst c196;rw [if_neg (show ¬ (false = true) by decide)] at H;by_cases c197 : (rd (rd_L13 t129 x277_3) 0) ≥ (rd (rd_L13 t129 x277_3) 1)
                 ·rw [if_pos c197] at H;have c197b0 : decide ((rd (rd_L13 t129 x277_3) 1) ≤ (rd (rd_L13 t129 x277_3) 0)) = true:=decide_eq_true c197;clear c197;exact absurd (Option.some.inj H) (by rw [ht_.out];decide)
                 ·rw [if_neg c197] at H;have c197b0 : decide ((rd (rd_L13 t129 x277_3) 1) ≤ (rd (rd_L13 t129 x277_3) 0)) = false:=decide_eq_false c197;clear c197;have H' := Aside0.mk H;clear H;have p170 : 0 ≤ (x277_3 : Int):=of_decide_eq_true (q4_);have q170 : x277_3 < (t129.length : Int):=of_decide_eq_true (q4_);obtain ⟨ad170,A170_0,c170_0,e170,hx170_0,hl170_0,hi170_0⟩:=at_L13 (Kd.S_reads' HO_275.out).2.2 x277_3 p170 q170;cases e170;obtain ⟨ce170,hce170,hMe170,hcc170⟩:=Kd.S_get HO_275.out [] x277_3 p170 (by first | exact q170 | exact of_decide_eq_true (q4_) | (have e_:=(Kd.S_reads' HO_275.out).1;omega));obtain ⟨ve170_0,rfl,ge170_0⟩:=hMe170;have hv170_0:=hcc170 0 _ rfl;rw [Nat.add_zero,show ((Kd.slice 3 (Kd.int .i64))).sz = 1 from rfl,Nat.mul_one] at hv170_0;replace hv170_0:=Option.some.inj (hv170_0.symm.trans hx170_0);rw [hv170_0] at ge170_0;have HL170_0:=Aside0.mk (show Kd.R (Kd.int .i64) 3 _ _ _ _ (rd_L13 t129 x277_3) from ge170_0);clear hv170_0 ge170_0 hcc170 hce170;have HR170_0:=Aside0.mk hi170_0;have HC170_0:=Aside0.mk hl170_0;clear hi170_0 hl170_0;replace p170:=eq_true p170;replace q170:=eq_true q170;try go_wp2
                  replace HO_11:=Aside0.mk (Kd.R_drew HO_11.out);replace HO_22:=Aside0.mk (Kd.R_drew HO_22.out);replace HO_26:=Aside0.mk (Kd.R_drew HO_26.out);replace HO_275:=Aside0.mk (Kd.S_drew HO_275.out);replace HL170_0:=Aside0.mk (Kd.R_drew HL170_0.out);replace BK107:=Aside0.mk (blk_drew BK107.out);replace HR170_0:=Aside0.mk (Kd.C_drew HR170_0.out);replace HB:=Aside0.mk (below_drew1 HB.out);have p171 : 0 ≤ (1 : Int):=(by omega);have q171 : 1 < ((rd_L13 t129 x277_3).length : Int):=of_decide_eq_true (q4_);obtain ⟨ad171,e171,hx171_0⟩:=Kd.at_int (q35_) 1 p171 q171;cases e171
                  (try simp only [show (1 : Int).toNat = 1 from rfl,Nat.reduceMul,Nat.reduceEqDiff,Go.Addr.add,↓reduceIte] at hx171_0)
                  have qi171 : (1 < (rd_L13 t129 x277_3).length) = True:=eq_true (by omega)
                  (try rw [show ((1 : Int)).toNat = 1 from rfl] at hx171_0)
                  replace p171:=eq_true p171;replace q171:=eq_true q171;have p172 : 0 ≤ (0 : Int):=(by omega);have q172 : 0 < ((rd_L13 t129 x277_3).length : Int):=of_decide_eq_true (q4_);obtain ⟨ad172,e172,hx172_0⟩:=Kd.at_int (q35_) 0 p172 q172;obtain rfl : ad171 = ad172:=(by injection e172);have qi172 : (0 < (rd_L13 t129 x277_3).length) = True:=eq_true (by omega)
                  (try rw [show ((0 : Int)).toNat = 0 from rfl] at hx172_0)
                  (try rw [Addr.add_zero'] at hx172_0)
                  replace p172:=eq_true p172;replace q172:=eq_true q172;refine start_ (n:=10) (S:=fun w' => w'.cell? ⟨ad171.block,ad171.off + 1,none⟩ = some (.int .i64 (rd (rd_L13 t129 x277_3) 1)) ∧ w'.cell? ad171 = some (.int .i64 (rd (rd_L13 t129 x277_3) 0))) (ds:=[]) f221_ (by kernel_rfl) rfl rfl ⟨hx171_0,hx172_0⟩ (fun hHeld=>?_);refine with_tabW laws_FnTiers.tab31 laws_FnTiers.bits31 (fun HT_ HW_=>?_);generalize wr.drew = w198 at HO_11 HO_22 HO_26 HO_275 HL170_0 BK107 HR170_0 HB hx171_0 hx172_0 hHeld ⊢;refine pure_ (i:=0) (N:=some 281) (v:=?_) (a' := ?_) f222_ rfl rfl (any_of HT_.out (by kernel_rfl)) (fun _ _ _ h=>h) (Or.inl ⟨by rfl,?_⟩) ?_ ?_;rotate_left
                  ·intro w';go_simp;with_reducible rfl
                  rotate_left
                  ·exact q53_
                  refine pa_ 1 282 f223_ ?_
                  refine pa_ 2 283 f224_ ?_
                  refine pa_ 4 285 f225_ ?_
                  refine pa_ 5 286 f226_ ?_
                  refine take_ (i:=3) (N:=some 284) (v:=?_) (a' := ?_) f227_ rfl rfl (take_ofW HT_.out HW_.out (by kernel_rfl)) (fun _ _ _ h=>h) (Or.inl ⟨by rfl,?_⟩) hHeld ?_ ?_;rotate_left
                  ·rintro w' ⟨s0,s1⟩;go_simp;with_reducible rfl
                  rotate_left
                  ·exact q53_
                  refine take_ (i:=6) (N:=some 287) (v:=?_) (a' := ?_) f228_ rfl rfl (take_ofW HT_.out HW_.out (by kernel_rfl)) (fun _ _ _ h=>h) (Or.inl ⟨by rfl,?_⟩) hHeld ?_ ?_;rotate_left
                  ·rintro w' ⟨s0,s1⟩;go_simp;with_reducible rfl
                  rotate_left
                  ·exact q53_
                  refine pa_ 7 288 f229_ ?_
                  refine pa_ 8 289 f230_ ?_
                  refine pa_ 9 40 f231_ ?_
                  refine done_ (done_of HT_.out (by kernel_rfl)) ?_;have p173 : 0 ≤ (0 : Int):=(by omega);have q173 : 0 < ((rd_L13 t129 x277_3).length : Int):=of_decide_eq_true (q4_);obtain ⟨ad173,e173,hx173_0⟩:=Kd.at_int (q35_) 0 p173 q173;obtain rfl : ad171 = ad173:=(by injection e173);have qi173 : (0 < (rd_L13 t129 x277_3).length) = True:=eq_true (by omega)
                  (try rw [show ((0 : Int)).toNat = 0 from rfl] at hx173_0)
                  (try rw [Addr.add_zero'] at hx173_0)
                  replace p173:=eq_true p173;replace q173:=eq_true q173;try go_wp2_with (first | ((with_reducible refine gate_callee (f:=25) rfl ?_);refine goesL_ (some 295) rfl rfl Tryz.func25 (by kernel_rfl) rfl #[.slice Ao29 t116.length co29,.int .i64 (rd (rd_L13 t129 x277_3) 0)] rfl (q21_) ?_;(with_reducible refine (yAp.calls k3 _ _ t116 (rd (rd_L13 t129 x277_3) 0) t174 false _ ?side1 ?side2 A195.out).mono ?_);(case side1=>exact cX_ (Kd.R_reads' HO_11.out).2.2);(case side2=>exact (Kd.R_reads' HO_11.out).2.1);rintro e w199 ⟨rfl,hb⟩;refine ⟨_,rfl,?_⟩;replace HO_11:=rB_ HO_11 hb;replace HO_22:=rB_ HO_22 hb;replace HO_26:=rB_ HO_26 hb;replace HO_275:=Aside0.mk (Kd.S_below (by (with_reducible repeat (first | apply Kd.S_alloc | apply Kd.S_drewN | apply Kd.S_drew));exact HO_275.out) hb);replace HL170_0:=rB_ HL170_0 hb;replace BK107:=bkB_ BK107 hb;replace HR170_0:=Aside0.mk (Kd.C_below (q35_) hb);replace HB:=Aside0.mk (below_step (q26_) hb);(try clear hb)))
                  replace HO_11:=Aside0.mk (Kd.R_drew HO_11.out);replace HO_22:=Aside0.mk (Kd.R_drew HO_22.out);replace HO_26:=Aside0.mk (Kd.R_drew HO_26.out);replace HO_275:=Aside0.mk (Kd.S_drew HO_275.out);replace HL170_0:=Aside0.mk (Kd.R_drew HL170_0.out);replace BK107:=Aside0.mk (blk_drew BK107.out);replace HR170_0:=Aside0.mk (Kd.C_drew HR170_0.out);replace HB:=Aside0.mk (below_drew1 HB.out);have p176 : 0 ≤ (0 : Int):=(by omega);have q176 : 0 < ((rd_L13 t129 x277_3).length : Int):=of_decide_eq_true (q4_);obtain ⟨ad176,e176,hx176_0⟩:=Kd.at_int (q35_) 0 p176 q176;obtain rfl : ad171 = ad176:=(by injection e176);have qi176 : (0 < (rd_L13 t129 x277_3).length) = True:=eq_true (by omega)
                  (try rw [show ((0 : Int)).toNat = 0 from rfl] at hx176_0)
                  (try rw [Addr.add_zero'] at hx176_0)
                  replace p176:=eq_true p176;replace q176:=eq_true q176;have p177 : 0 ≤ (1 : Int):=(by omega);have q177 : 1 < ((rd_L13 t129 x277_3).length : Int):=of_decide_eq_true (q4_);obtain ⟨ad177,e177,hx177_0⟩:=Kd.at_int (q35_) 1 p177 q177;obtain rfl : ad171 = ad177:=(by injection e177)
                  (try simp only [show (1 : Int).toNat = 1 from rfl,Nat.reduceMul,Nat.reduceEqDiff,Go.Addr.add,↓reduceIte] at hx177_0)
                  have qi177 : (1 < (rd_L13 t129 x277_3).length) = True:=eq_true (by omega)
                  (try rw [show ((1 : Int)).toNat = 1 from rfl] at hx177_0)
                  replace p177:=eq_true p177;replace q177:=eq_true q177;refine start_ (n:=10) (S:=fun w' => w'.cell? ad171 = some (.int .i64 (rd (rd_L13 t129 x277_3) 0)) ∧ w'.cell? ⟨ad171.block,ad171.off + 1,none⟩ = some (.int .i64 (rd (rd_L13 t129 x277_3) 1))) (ds:=[]) f221_ (by kernel_rfl) rfl rfl ⟨hx176_0,hx177_0⟩ (fun hHeld=>?_);refine with_tabW laws_FnTiers.tab33 laws_FnTiers.bits33 (fun HT_ HW_=>?_);generalize w199.drew = w200 at HO_11 HO_22 HO_26 HO_275 HL170_0 BK107 HR170_0 HB hx176_0 hx177_0 hHeld ⊢;refine pure_ (i:=0) (N:=some 298) (v:=?_) (a' := ?_) f222_ rfl rfl (any_of HT_.out (by kernel_rfl)) (fun _ _ _ h=>h) (Or.inl ⟨by rfl,?_⟩) ?_ ?_;rotate_left
                  ·intro w';go_simp;with_reducible rfl
                  rotate_left
                  ·exact q53_
                  refine pa_ 1 299 f223_ ?_
                  refine pa_ 2 300 f224_ ?_
                  refine pa_ 3 301 f232_ ?_
                  refine pa_ 5 303 f233_ ?_
                  refine pa_ 6 304 f234_ ?_
                  refine take_ (i:=4) (N:=some 302) (v:=?_) (a' := ?_) f228_ rfl rfl (take_ofW HT_.out HW_.out (by kernel_rfl)) (fun _ _ _ h=>h) (Or.inl ⟨by rfl,?_⟩) hHeld ?_ ?_;rotate_left
                  ·rintro w' ⟨s0,s1⟩;go_simp;with_reducible rfl
                  rotate_left
                  ·exact q53_
                  refine take_ (i:=7) (N:=some 305) (v:=?_) (a' := ?_) f229_ rfl rfl (take_ofW HT_.out HW_.out (by kernel_rfl)) (fun _ _ _ h=>h) (Or.inl ⟨by rfl,?_⟩) hHeld ?_ ?_;rotate_left
                  ·rintro w' ⟨s0,s1⟩;go_simp;with_reducible rfl
                  rotate_left
                  ·exact q53_
                  refine pa_ 8 306 f230_ ?_
                  refine pa_ 9 307 f231_ ?_
                  refine done_ (done_of HT_.out (by kernel_rfl)) ?_;try go_wp2
                  go_roundg k3
                  case measure=>have:=HJ19.out;have:=HJ165.out;have:=HK3.out;omega
                  case rel=>exact ⟨(wrap64 (x40_3 + (wrap64 ((rd (rd_L13 t129 x277_3) 1) - (rd (rd_L13 t129 x277_3) 0))))),(wrap64 (x277_3 + 1)),(q3_),(q3_),H', ⟨by have:=HJ19.out;have:=HJ165.out;have:=HK3.out;omega⟩,⟨by (with_reducible repeat (first | apply Kd.R_alloc | apply Kd.R_drewN | apply Kd.R_drew));exact HO_11.out⟩,⟨by (with_reducible repeat (first | apply Kd.R_alloc | apply Kd.R_drewN | apply Kd.R_drew));exact HO_22.out⟩,⟨by (with_reducible repeat (first | apply Kd.R_alloc | apply Kd.R_drewN | apply Kd.R_drew));exact HO_26.out⟩,⟨by (with_reducible repeat (first | apply Kd.S_alloc | apply Kd.S_drewN | apply Kd.S_drew));exact HO_275.out⟩,⟨q18_⟩,⟨q26_⟩⟩
               ·rw [if_neg c194] at H;exact absurd H (q1_)
              ·rw [if_neg c193] at H;exact absurd H (q1_)
             ·rw [if_neg c192] at H;exact absurd H (q1_)
            ·rw [if_neg c191] at H;exact absurd H (q1_)
           ·rw [if_neg c190] at H;have c190b0:=decide_eq_false c190;clear c190
            (first | rw [c190b0] | (simp only [i64_w,i32_w];rw [c190b0]) | skip)
            by_cases c201 : (wrap64 (t123 + x40_3)) = (wrap64 (t118 - t117))
            ·rw [if_pos c201] at H;have c201b0 : ((wrap64 (t123 + x40_3)) == (wrap64 (t118 - t117))) = true:=beq_iff_eq.mpr c201;have c201b1 : ((wrap64 (t123 + x40_3)) != (wrap64 (t118 - t117))) = false:=bne_eq_false_iff_eq.mpr c201;clear c201;replace H:=Option.bind_eq_some_iff.mp H;obtain ⟨t178,A2020,H⟩:=H;(try dsimp only at H);have A202:=Aside0.mk A2020;clear A2020;by_cases c203 : t178 = true
             ·subst c203;rw [if_pos rfl] at H;have H' := Aside0.mk H;clear H;obtain ⟨Ao204,co204,eo204⟩:=Kd.R_slice HO_22.out;subst eo204;go_wp2_with (first | (go_at_call 22;(with_reducible refine (yAH.calls k3 _ _ t133 true _ ?side1 ?side2 A202.out).mono ?_);(case side1=>exact cX_ (Kd.R_reads' HO_22.out).2.2);(case side2=>exact (Kd.R_reads' HO_22.out).2.1);rintro e w205 ⟨rfl,hb⟩;replace HO_11:=rB_ HO_11 hb;replace HO_22:=rB_ HO_22 hb;replace HO_26:=rB_ HO_26 hb;replace HO_275:=Aside0.mk (Kd.S_below (by (with_reducible repeat (first | apply Kd.S_alloc | apply Kd.S_drewN | apply Kd.S_drew));exact HO_275.out) hb);replace BK107:=bkB_ BK107 hb;replace HB:=Aside0.mk (below_step (q26_) hb);(try clear hb)))
              go_meet
              case rel=>exact ⟨_,H', ⟨by have:=HJ19.out;have:=HJ165.out;have:=HK3.out;first | omega | exact Nat.le_refl _⟩,⟨by (with_reducible repeat (first | apply Kd.R_alloc | apply Kd.R_drewN | apply Kd.R_drew));exact Kd.R_mono HO_26.out (fun _ hk=>hk.2.2)⟩,⟨q18_⟩,⟨q26_⟩⟩
             ·replace c203:=Bool.eq_false_iff.mpr c203;subst c203;rw [if_neg (show ¬ (false = true) by decide)] at H;exact absurd (Option.some.inj H) (by rw [ht_.out];decide)
            ·rw [if_neg c201] at H;have c201b0 : ((wrap64 (t123 + x40_3)) == (wrap64 (t118 - t117))) = false:=beq_eq_false_iff_ne.mpr c201;have c201b1 : ((wrap64 (t123 + x40_3)) != (wrap64 (t118 - t117))) = true:=bne_iff_ne.mpr c201;exact absurd (Option.some.inj H) (by rw [ht_.out];decide)
        ·replace c188:=Bool.eq_false_iff.mpr c188;subst c188;rw [if_neg (show ¬ (false = true) by decide)] at H;have H' := Aside0.mk H;clear H;go_wp2;go_meet
         case rel=>exact ⟨_,H', ⟨by have:=HJ19.out;have:=HJ165.out;first | omega | exact Nat.le_refl _⟩,⟨by (with_reducible repeat (first | apply Kd.R_alloc | apply Kd.R_drewN | apply Kd.R_drew));exact Kd.R_mono HO_26.out (fun _ hk=>hk.2.2)⟩,⟨q18_⟩,⟨q26_⟩⟩
       case rest=>as_aux_lemma =>
        clear HC187;try clear c1
        try clear c46
        try clear c165
        obtain ⟨kq,HA,HJ186,HO_26,BK107,HB⟩:=hcut;cases kq with
        | zero=>exact absurd HA.out (by simp [laws_FnTiers.j3])
        | succ kj186 =>
         have H:=HA.out;clear HA;simp only [laws_FnTiers.j3] at H;by_cases c206 : t145 = true
         ·subst c206;rw [if_pos rfl] at H;replace H:=Option.bind_eq_some_iff.mp H;obtain ⟨⟨t179,t180⟩,A2070,H⟩:=H;(try dsimp only at H);have A207:=Aside0.mk A2070;clear A2070;by_cases c208 : t180 = true
          ·subst c208;rw [if_pos rfl] at H;replace H:=Option.bind_eq_some_iff.mp H;obtain ⟨t183,A2090,H⟩:=H;(try dsimp only at H);have A209:=Aside0.mk A2090;clear A2090;obtain rfl:=Option.some.inj H;go_wp2_with (first | ((with_reducible refine gate_callee (f:=18) rfl ?_);refine goesL_ (some 324) rfl rfl Tryz.func18 (by kernel_rfl) rfl #[.string t144] rfl (q21_) ?_;(with_reducible refine (yAC.calls kj186 t144 t179 true _ (HTab.out _ (q26_)) A207.out).mono ?_);rintro e w210 ⟨v181,rfl,ho0,hb⟩;refine ⟨_,rfl,?_⟩;have HO182:=Aside0.mk (Kd.R_lower (Kd.R_newB (Kd.R_new' ho0 (Kd.R_lt (by (with_reducible repeat (first | apply Kd.R_alloc | apply Kd.R_drewN | apply Kd.R_drew));exact HO_26.out))) (g:=gb107) (o:=.cells #[.int .i64 t104,.int .i64 t105,.string t106] 25 (0,0)) (q18_)) (below_size (q26_)));replace HO_26:=rE_ HO_26 ho0 hb;replace BK107:=bkB_ BK107 hb;replace HB:=Aside0.mk (below_step (q26_) hb);(try clear hb);(try clear ho0);obtain ⟨Ao211,co211,eo211⟩:=Kd.R_slice HO182.out;subst eo211) | (go_at_call 20;(with_reducible refine (yAd.calls kj186 _ _ t179 _ _ t141 t183 _ ?side1 ?side2 ?side3 ?side4 A209.out).mono ?_);(case side1=>exact cX_ (Kd.R_reads' HO182.out).2.2);(case side2=>exact (Kd.R_reads' HO182.out).2.1);(case side3=>exact cX_ (Kd.R_reads' HO_26.out).2.2);(case side4=>exact (Kd.R_reads' HO_26.out).2.1);rintro e w' ⟨rfl,⟨nd,rfl⟩⟩))
           go_ret;exact ⟨q6_,q26_⟩
          ·replace c208:=Bool.eq_false_iff.mpr c208;subst c208;rw [if_neg (show ¬ (false = true) by decide)] at H;exact absurd (Option.some.inj H) (by rw [ht_.out];decide)
         ·replace c206:=Bool.eq_false_iff.mpr c206;subst c206;rw [if_neg (show ¬ (false = true) by decide)] at H;obtain rfl:=Option.some.inj H;go_wp2;go_ret;exact ⟨q6_,q26_⟩
def laws_FnTiers.Pure : Prop:=∀ (l0 : List Int) (l1 : List Int),((∀ a_,a_ ∈ l0 → (Lit.int .u8 a_).wf = true) ∧ l0.length * 1 ≤ 140737488351232) → ((∀ a_,a_ ∈ l1 → (Lit.int .u8 a_).wf = true) ∧ l1.length * 1 ≤ 140737488351232) → ∃ k,laws_FnTiers.f k l0 l1 = some true
theorem laws_FnTiers.walk (P : laws_FnTiers.Pure) (A0 : Option Addr) (c0 : Nat) (l0 : List Int) (A1 : Option Addr) (c1 : Nat) (l1 : List Int) (w : World) (hT : MTabA.Tab w) (hr0 : Kd.C (Kd.int .u8) w A0 l0.length l0) (hc0 : l0.length ≤ c0) (hr1 : Kd.C (Kd.int .u8) w A1 l1.length l1) (hc1 : l1.length ≤ c1) (b0 : ((∀ a_,a_ ∈ l0 → (Lit.int .u8 a_).wf = true) ∧ l0.length * 1 ≤ 140737488351232)) (b1 : ((∀ a_,a_ ∈ l1 → (Lit.int .u8 a_).wf = true) ∧ l1.length * 1 ≤ 140737488351232)) :
  Calls Tryz.prog 3 #[.slice A0 l0.length c0,.slice A1 l1.length c1] w fun e w' => e = .returned (.bool true) ∧ Below w.heap.size w w' := by
 obtain ⟨k,h⟩:=P l0 l1 b0 b1;refine (laws_FnTiers.calls k A0 c0 l0 A1 c1 l1 true w hT hr0 hc0 hr1 hc1 ⟨rfl⟩ h).mono ?_;rintro e w' ⟨rfl,hd⟩;exact ⟨rfl,hd⟩
end Go.Proofs.YtglcpghappepaaaGreatDoor.G
