-- Written by this session's own program over the kit's print (wip/tools/myprint.py); Lean checks it.
import Derived.Test.YtpdcopbnhaoilaaDoorMBase
import Derived.Test.YtpdcopbnhaoilaaDoorG0
import Derived.Test.YtpdcopbnhaoilaaDoorG2
import Derived.Test.YtpdcopbnhaoilaaDoorG3
import Derived.Test.YtpdcopbnhaoilaaDoorG4
import Derived.Test.YtpdcopbnhaoilaaDoorG7
import Derived.Test.YtpdcopbnhaoilaaDoorG16
import Derived.Test.YtpdcopbnhaoilaaDoorG17
import Derived.Test.YtpdcopbnhaoilaaDoorG19
import Derived.Test.YtpdcopbnhaoilaaDoorG20
import Derived.Test.YtpdcopbnhaoilaaDoorG21
import Derived.Test.YtpdcopbnhaoilaaDoorG22
import Derived.Test.YtpdcopbnhaoilaaDoorG23
import Derived.Test.YtpdcopbnhaoilaaDoorG25
import Derived.Test.YtpdcopbnhaoilaaDoorMTab
namespace Go.Proofs.YtpdcopbnhaoilaaDoor.G
open Go.RowKit Go.Proofs.YtpdcopbnhaoilaaDoorW.PrintWords Go.Proofs.YtpdcopbnhaoilaaDoorW.PrintLast Go.Proofs.YtpdcopbnhaoilaaDoorW.PrintMore
attribute [local go_sem] max2_int min2_int max_two min_two max_three min_three max_four min_four str_geq str_gtr str_leq   -- for this text's walks alone
set_option linter.unusedVariables false
set_option linter.unusedSimpArgs false
attribute [local go_sem high] eqA26
/-! ### laws_FnPeople: function 3 -/
mutual
def laws_FnPeople.j0 : Nat → List Int → List (S26) → Bool → List (S26) → Bool → ByteArray → Int → Int → Int → Option (Bool)
 | 0,_,_,_,_,_,_,_,_,_=>none
 | k + 1,x1,x7,x8,x9,x89,x110000,x110001,x110002,x110003=>if x89 = true then (some false) else (if x8 = true then ((impl_WhoIs.f k x7 x110001 x110002).bind fun bt121=>((spec_WhoIs.f k x9 x110001 x110002).bind fun bt125=>(if bt121.2 = true then (if bt125.2 = true then ((laws_sameInts.f k bt121.1 bt125.1).bind fun t129=>(laws_FnPeople.j1 k x1 x9 bt125.1 (!t129) x110000 x110001 x110002 x110003)) else (laws_FnPeople.j1 k x1 x9 bt125.1 true x110000 x110001 x110002 x110003)) else (laws_FnPeople.j1 k x1 x9 bt125.1 true x110000 x110001 x110002 x110003)))) else (laws_FnPeople.j3 k x1))
def laws_FnPeople.j3 : Nat → List Int → Option (Bool)
 | 0,_=>none
 | k + 1,x1=>(spec_DrawOldestFor.f k x1).bind fun bt132=>((impl_OldestFor.f k bt132.1 bt132.2).bind fun bt136=>((spec_OldestFor.f k bt132.1 bt132.2).bind fun bt138=>(if (bt136.2 != bt138.2) = true then (laws_FnPeople.j4 k x1 bt132.1 bt132.2 bt136.2 bt138.1 true) else (laws_FnPeople.j4 k x1 bt132.1 bt132.2 bt136.2 bt138.1 (bt136.1 != bt138.1)))))
def laws_FnPeople.j4 : Nat → List Int → List (S26) → Int → Bool → Int → Bool → Option (Bool)
 | 0,_,_,_,_,_,_=>none
 | k + 1,x1,x18,x19,x21,x22,x163=>if x163 = true then (some false) else (if x21 = true then (laws_FnPeople.l1 k x1 x18 x19 x22 x18 (x18.length : Int) 0) else (laws_FnPeople.j6 k x1))
def laws_FnPeople.j6 : Nat → List Int → Option (Bool)
 | 0,_=>none
 | k + 1,x1=>(spec_DrawWhoIs.f k x1).bind fun bt144=>((impl_WhoIs.f k bt144.1 bt144.2.1 bt144.2.2).bind fun bt149=>((spec_WhoIs.f k bt144.1 bt144.2.1 bt144.2.2).bind fun bt153=>((spec_DrawPeopleText.f k x1).bind fun t157=>((impl_PeopleText.f k t157).bind fun bt160=>((spec_PeopleText.f k t157).bind fun bt162=>(if (bt149.2 != bt153.2) = true then (laws_FnPeople.j7 k bt144.1 bt144.2.1 bt144.2.2 bt153.1 true) else ((laws_sameInts.f k bt149.1 bt153.1).bind fun t164=>(if t164 = true then (if (bt160.2 != bt162.2) = true then (laws_FnPeople.j7 k bt144.1 bt144.2.1 bt144.2.2 bt153.1 true) else (if bt160.1.toList = bt162.1.toList then ((impl_ArePeople.f k t157).bind fun t165=>(laws_FnPeople.j7 k bt144.1 bt144.2.1 bt144.2.2 bt153.1 (bt160.2 != t165))) else (laws_FnPeople.j7 k bt144.1 bt144.2.1 bt144.2.2 bt153.1 true))) else (laws_FnPeople.j7 k bt144.1 bt144.2.1 bt144.2.2 bt153.1 true)))))))))
def laws_FnPeople.j7 : Nat → List (S26) → Int → Int → List Int → Bool → Option (Bool)
 | 0,_,_,_,_,_=>none
 | k + 1,x26,x27,x28,x31,x258=>if x258 = true then (some false) else (laws_FnPeople.l2 k x26 x27 x28 x31 (x31.length : Int) 0)
def laws_FnPeople.l2 : Nat → List (S26) → Int → Int → List Int → Int → Int → Option (Bool)
 | 0,_,_,_,_,_,_=>none
 | k + 1,x26,x27,x28,x259,x260,x261=>if x261 < x260 then (if 0 ≤ x261 then (if x261 < (x259.length : Int) then (if 0 ≤ (rd x259 x261) then (if (rd x259 x261) < (x26.length : Int) then (if ((rd_T26 x26 (rd x259 x261)).f1) = x27 then (if ((rd_T26 x26 (rd x259 x261)).f2) = x28 then (laws_FnPeople.l2 k x26 x27 x28 x259 x260 (wrap64 (x261 + 1))) else (some false)) else (some false)) else (none)) else (none)) else (none)) else (none)) else (some true)
def laws_FnPeople.l1 : Nat → List Int → List (S26) → Int → Int → List (S26) → Int → Int → Option (Bool)
 | 0,_,_,_,_,_,_,_=>none
 | k + 1,x1,x18,x19,x22,x165,x166,x167=>if x167 < x166 then (if 0 ≤ x167 then (if x167 < (x165.length : Int) then (if ((rd_T26 x165 x167).f1) = x19 then (if 0 ≤ x22 then (if x22 < (x18.length : Int) then (if ((rd_T26 x165 x167).f3) < ((rd_T26 x18 x22).f3) then (some false) else (if ((rd_T26 x165 x167).f3) = ((rd_T26 x18 x22).f3) then (if x167 < x22 then (some false) else (laws_FnPeople.l1 k x1 x18 x19 x22 x165 x166 (wrap64 (x167 + 1)))) else (laws_FnPeople.l1 k x1 x18 x19 x22 x165 x166 (wrap64 (x167 + 1))))) else (none)) else (none)) else (laws_FnPeople.l1 k x1 x18 x19 x22 x165 x166 (wrap64 (x167 + 1)))) else (none)) else (none)) else (laws_FnPeople.j6 k x1)
def laws_FnPeople.j1 : Nat → List Int → List (S26) → List Int → Bool → ByteArray → Int → Int → Int → Option (Bool)
 | 0,_,_,_,_,_,_,_,_=>none
 | k + 1,x1,x9,x13,x120,x110000,x110001,x110002,x110003=>if x120 = true then (some false) else (laws_FnPeople.l0 k x1 x9 false x13 (x13.length : Int) 0 x110000 x110001 x110002 x110003)
def laws_FnPeople.l0 : Nat → List Int → List (S26) → Bool → List Int → Int → Int → ByteArray → Int → Int → Int → Option (Bool)
 | 0,_,_,_,_,_,_,_,_,_,_=>none
 | k + 1,x1,x9,x15,x121,x122,x123,x110000,x110001,x110002,x110003=>if x123 < x122 then (if 0 ≤ x123 then (if x123 < (x121.length : Int) then (if x15 = true then (laws_FnPeople.l0 k x1 x9 true x121 x122 (wrap64 (x123 + 1)) x110000 x110001 x110002 x110003) else (if 0 ≤ (rd x121 x123) then (if (rd x121 x123) < (x9.length : Int) then (laws_FnPeople.l0 k x1 x9 ((((rd_T26 x9 (rd x121 x123)).f0).toList) == x110000.toList && (((rd_T26 x9 (rd x121 x123)).f1) == x110001 && (((rd_T26 x9 (rd x121 x123)).f2) == x110002 && (((rd_T26 x9 (rd x121 x123)).f3) == x110003)))) x121 x122 (wrap64 (x123 + 1)) x110000 x110001 x110002 x110003) else (none)) else (none))) else (none)) else (none)) else (if x15 = true then (laws_FnPeople.j3 k x1) else (some false))
end
def laws_FnPeople.f (k : Nat) (l0 : List Int) (l1 : List Int) : Option (Bool):=(laws_big.f l0 l1).bind fun t101=>(if t101 = true then (some true) else ((spec_DrawAddPerson.f k l0).bind fun bt102=>((impl_AddPerson.f k bt102.1 bt102.2.1 bt102.2.2.1 bt102.2.2.2.1 bt102.2.2.2.2).bind fun bt110=>((spec_AddPerson.f k bt102.1 bt102.2.1 bt102.2.2.1 bt102.2.2.2.1 bt102.2.2.2.2).bind fun bt114=>(if (bt110.2 != bt114.2) = true then (laws_FnPeople.j0 k l1 bt110.1 bt110.2 bt114.1 true bt102.2.1 bt102.2.2.1 bt102.2.2.2.1 bt102.2.2.2.2) else ((laws_pSamePeople.f k bt110.1 bt114.1).bind fun t118=>(if t118 = true then (if bt110.2 = true then (if (bt114.1.length : Int) = (wrap64 ((bt102.1.length : Int) + 1)) then ((impl_ArePeople.f k bt110.1).bind fun t119=>(if t119 = true then ((impl_IsPerson.f k bt102.2.1 bt102.2.2.1 bt102.2.2.2.1 bt102.2.2.2.2).bind fun t120=>(laws_FnPeople.j0 k l1 bt110.1 bt110.2 bt114.1 (!t120) bt102.2.1 bt102.2.2.1 bt102.2.2.2.1 bt102.2.2.2.2)) else (laws_FnPeople.j0 k l1 bt110.1 bt110.2 bt114.1 true bt102.2.1 bt102.2.2.1 bt102.2.2.2.1 bt102.2.2.2.2))) else (laws_FnPeople.j0 k l1 bt110.1 bt110.2 bt114.1 true bt102.2.1 bt102.2.2.1 bt102.2.2.2.1 bt102.2.2.2.2)) else (laws_FnPeople.j0 k l1 bt110.1 bt110.2 bt114.1 false bt102.2.1 bt102.2.2.1 bt102.2.2.2.1 bt102.2.2.2.2)) else (laws_FnPeople.j0 k l1 bt110.1 bt110.2 bt114.1 true bt102.2.1 bt102.2.2.1 bt102.2.2.2.1 bt102.2.2.2.2))))))))
section
attribute [local go_sem] MAlive.alive_set MAlive.alive_drewN MAlive.alive_drew MAlive.cell_set_alive
theorem laws_FnPeople.j0_no {k : Nat} {y0 : _} {y1 : _} {y2 : _} {y3 : _} {y5 : _} {y6 : _} {y7 : _} {y8 : _} {r : Bool} (h : laws_FnPeople.j0 k y0 y1 y2 y3 true y5 y6 y7 y8 = some r) (hr : r = true) : False:=by
 subst hr;cases k with
 | zero=>simp [laws_FnPeople.j0] at h
 | succ k=>rw [laws_FnPeople.j0.eq_2,if_pos rfl] at h;exact absurd (Option.some.inj h) (by decide)
theorem laws_FnPeople.j4_no {k : Nat} {y0 : _} {y1 : _} {y2 : _} {y3 : _} {y4 : _} {r : Bool} (h : laws_FnPeople.j4 k y0 y1 y2 y3 y4 true = some r) (hr : r = true) : False:=by
 subst hr;cases k with
 | zero=>simp [laws_FnPeople.j4] at h
 | succ k=>rw [laws_FnPeople.j4.eq_2,if_pos rfl] at h;exact absurd (Option.some.inj h) (by decide)
theorem laws_FnPeople.j7_no {k : Nat} {y0 : _} {y1 : _} {y2 : _} {y3 : _} {r : Bool} (h : laws_FnPeople.j7 k y0 y1 y2 y3 true = some r) (hr : r = true) : False:=by
 subst hr;cases k with
 | zero=>simp [laws_FnPeople.j7] at h
 | succ k=>rw [laws_FnPeople.j7.eq_2,if_pos rfl] at h;exact absurd (Option.some.inj h) (by decide)
theorem laws_FnPeople.j1_no {k : Nat} {y0 : _} {y1 : _} {y2 : _} {y4 : _} {y5 : _} {y6 : _} {y7 : _} {r : Bool} (h : laws_FnPeople.j1 k y0 y1 y2 true y4 y5 y6 y7 = some r) (hr : r = true) : False:=by
 subst hr;cases k with
 | zero=>simp [laws_FnPeople.j1] at h
 | succ k=>rw [laws_FnPeople.j1.eq_2,if_pos rfl] at h;exact absurd (Option.some.inj h) (by decide)
set_option maxHeartbeats 8000000 in
set_option maxRecDepth 100000 in
theorem laws_FnPeople.calls (k : Nat) (A0 : Option Addr) (c0 : Nat) (l0 : List Int) (A1 : Option Addr) (c1 : Nat) (l1 : List Int) (r : Bool) (w : World) (hT : MTab.Tab w) (hr0 : Kd.C (Kd.int .u8) w A0 l0.length l0) (hc0 : l0.length ≤ c0) (hr1 : Kd.C (Kd.int .u8) w A1 l1.length l1) (hc1 : l1.length ≤ c1) (ht_ : Aside0 (r = true)) (h : laws_FnPeople.f k l0 l1 = some r) :
  Calls Tryd.prog 3 #[.slice A0 l0.length c0,.slice A1 l1.length c1] w fun e w' => e = .returned (.bool r) ∧ Below w.heap.size w w' := by
 have hu26:=Tryd.underlying26;have HR0:=Aside0.mk hr0;have HC0:=Aside0.mk hc0;clear hr0 hc0;have HR1:=Aside0.mk hr1;have HC1:=Aside0.mk hc1;clear hr1 hc1;have HTab:=Aside0.mk (MTab.all hT);clear hT;have HB:=Aside0.mk (Below.refl w.heap.size w);have H : ((laws_big.f l0 l1).bind fun t101=>(if t101 = true then (some true) else ((spec_DrawAddPerson.f k l0).bind fun bt102=>((impl_AddPerson.f k bt102.1 bt102.2.1 bt102.2.2.1 bt102.2.2.2.1 bt102.2.2.2.2).bind fun bt110=>((spec_AddPerson.f k bt102.1 bt102.2.1 bt102.2.2.1 bt102.2.2.2.1 bt102.2.2.2.2).bind fun bt114=>(if (bt110.2 != bt114.2) = true then (laws_FnPeople.j0 k l1 bt110.1 bt110.2 bt114.1 true bt102.2.1 bt102.2.2.1 bt102.2.2.2.1 bt102.2.2.2.2) else ((laws_pSamePeople.f k bt110.1 bt114.1).bind fun t118=>(if t118 = true then (if bt110.2 = true then (if (bt114.1.length : Int) = (wrap64 ((bt102.1.length : Int) + 1)) then ((impl_ArePeople.f k bt110.1).bind fun t119=>(if t119 = true then ((impl_IsPerson.f k bt102.2.1 bt102.2.2.1 bt102.2.2.2.1 bt102.2.2.2.2).bind fun t120=>(laws_FnPeople.j0 k l1 bt110.1 bt110.2 bt114.1 (!t120) bt102.2.1 bt102.2.2.1 bt102.2.2.2.1 bt102.2.2.2.2)) else (laws_FnPeople.j0 k l1 bt110.1 bt110.2 bt114.1 true bt102.2.1 bt102.2.2.1 bt102.2.2.2.1 bt102.2.2.2.2))) else (laws_FnPeople.j0 k l1 bt110.1 bt110.2 bt114.1 true bt102.2.1 bt102.2.2.1 bt102.2.2.2.1 bt102.2.2.2.2)) else (laws_FnPeople.j0 k l1 bt110.1 bt110.2 bt114.1 false bt102.2.1 bt102.2.2.1 bt102.2.2.2.1 bt102.2.2.2.2)) else (laws_FnPeople.j0 k l1 bt110.1 bt110.2 bt114.1 true bt102.2.1 bt102.2.2.1 bt102.2.2.2.1 bt102.2.2.2.2))))))))) = some r:=h;clear h;replace H:=Option.bind_eq_some_iff.mp H;obtain ⟨t101,A30,H⟩:=H;(try dsimp only at H);have A3:=Aside0.mk A30;clear A30;by_cases c4 : t101 = true
 ·subst c4;have H1 : (some true) = some r:=by rw [if_pos rfl] at H;exact H
  clear H;have H:=H1;clear H1;obtain rfl:=Option.some.inj H;go_enter Tryd.func3,Tryd.ntmps3
  go_wp2_with (first | (go_at_call 7;(with_reducible refine (laws_big.calls _ _ l0 _ _ l1 true _ ?side1 ?side2 ?side3 ?side4 A3.out).mono ?_);(case side1=>exact cX_ HR0.out);(case side2=>exact HC0.out);(case side3=>exact cX_ HR1.out);(case side4=>exact HC1.out);rintro e w' ⟨rfl,⟨nd,rfl⟩⟩;(try first | exact ⟨rfl,_,World.drewN_drewN _ _ _⟩ | exact ⟨rfl,_,Eq.trans (World.drewN_drewN _ _ _) (congrArg (World.drewN _) (Nat.add_assoc _ _ _))⟩)))
  repeat (go_quiet (first | (go_at_call 7;(with_reducible refine (laws_big.calls _ _ l0 _ _ l1 true _ ?side1 ?side2 ?side3 ?side4 A3.out).mono ?_);(case side1=>exact cX_ HR0.out);(case side2=>exact HC0.out);(case side3=>exact cX_ HR1.out);(case side4=>exact HC1.out);rintro e w' ⟨rfl,⟨nd,rfl⟩⟩;(try first | exact ⟨rfl,_,World.drewN_drewN _ _ _⟩ | exact ⟨rfl,_,Eq.trans (World.drewN_drewN _ _ _) (congrArg (World.drewN _) (Nat.add_assoc _ _ _))⟩)));try go_wp2_with (first | (go_at_call 7;(with_reducible refine (laws_big.calls _ _ l0 _ _ l1 true _ ?side1 ?side2 ?side3 ?side4 A3.out).mono ?_);(case side1=>exact cX_ HR0.out);(case side2=>exact HC0.out);(case side3=>exact cX_ HR1.out);(case side4=>exact HC1.out);rintro e w' ⟨rfl,⟨nd,rfl⟩⟩;(try first | exact ⟨rfl,_,World.drewN_drewN _ _ _⟩ | exact ⟨rfl,_,Eq.trans (World.drewN_drewN _ _ _) (congrArg (World.drewN _) (Nat.add_assoc _ _ _))⟩))))
  go_ret;exact ⟨q4_,q33_⟩
 ·replace c4:=Bool.eq_false_iff.mpr c4;subst c4;have H1 : ((spec_DrawAddPerson.f k l0).bind fun bt102=>((impl_AddPerson.f k bt102.1 bt102.2.1 bt102.2.2.1 bt102.2.2.2.1 bt102.2.2.2.2).bind fun bt110=>((spec_AddPerson.f k bt102.1 bt102.2.1 bt102.2.2.1 bt102.2.2.2.1 bt102.2.2.2.2).bind fun bt114=>(if (bt110.2 != bt114.2) = true then (laws_FnPeople.j0 k l1 bt110.1 bt110.2 bt114.1 true bt102.2.1 bt102.2.2.1 bt102.2.2.2.1 bt102.2.2.2.2) else ((laws_pSamePeople.f k bt110.1 bt114.1).bind fun t118=>(if t118 = true then (if bt110.2 = true then (if (bt114.1.length : Int) = (wrap64 ((bt102.1.length : Int) + 1)) then ((impl_ArePeople.f k bt110.1).bind fun t119=>(if t119 = true then ((impl_IsPerson.f k bt102.2.1 bt102.2.2.1 bt102.2.2.2.1 bt102.2.2.2.2).bind fun t120=>(laws_FnPeople.j0 k l1 bt110.1 bt110.2 bt114.1 (!t120) bt102.2.1 bt102.2.2.1 bt102.2.2.2.1 bt102.2.2.2.2)) else (laws_FnPeople.j0 k l1 bt110.1 bt110.2 bt114.1 true bt102.2.1 bt102.2.2.1 bt102.2.2.2.1 bt102.2.2.2.2))) else (laws_FnPeople.j0 k l1 bt110.1 bt110.2 bt114.1 true bt102.2.1 bt102.2.2.1 bt102.2.2.2.1 bt102.2.2.2.2)) else (laws_FnPeople.j0 k l1 bt110.1 bt110.2 bt114.1 false bt102.2.1 bt102.2.2.1 bt102.2.2.2.1 bt102.2.2.2.2)) else (laws_FnPeople.j0 k l1 bt110.1 bt110.2 bt114.1 true bt102.2.1 bt102.2.2.1 bt102.2.2.2.1 bt102.2.2.2.2))))))) = some r:=by rw [if_neg (show ¬ (false = true) by decide)] at H;exact H
  clear H;have H:=H1;clear H1;replace H:=Option.bind_eq_some_iff.mp H;obtain ⟨⟨t102,t105,t106,t107,t108⟩,A50,H⟩:=H;(try dsimp only at H);have A5:=Aside0.mk A50;clear A50;replace H:=Option.bind_eq_some_iff.mp H;obtain ⟨⟨t110,t113⟩,A60,H⟩:=H;(try dsimp only at H);have A6:=Aside0.mk A60;clear A60;replace H:=Option.bind_eq_some_iff.mp H;obtain ⟨⟨t114,t117⟩,A70,H⟩:=H;(try dsimp only at H);have A7:=Aside0.mk A70;clear A70;have HC8:=Aside0.mk H;clear H;go_enter Tryd.func3,Tryd.ntmps3
  go_upto_region 6 with (first | (go_at_call 7;(with_reducible refine (laws_big.calls _ _ l0 _ _ l1 false _ ?side1 ?side2 ?side3 ?side4 A3.out).mono ?_);(case side1=>exact cX_ HR0.out);(case side2=>exact HC0.out);(case side3=>exact cX_ HR1.out);(case side4=>exact HC1.out);rintro e w' ⟨rfl,⟨nd,rfl⟩⟩;(try first | exact ⟨rfl,_,World.drewN_drewN _ _ _⟩ | exact ⟨rfl,_,Eq.trans (World.drewN_drewN _ _ _) (congrArg (World.drewN _) (Nat.add_assoc _ _ _))⟩)) | (go_at_call 8;(with_reducible refine (spec_DrawAddPerson.calls k _ _ l0 t102 t105 t106 t107 t108 _ ?side1 ?side2 A5.out).mono ?_);(case side1=>exact cX_ HR0.out);(case side2=>exact HC0.out);rintro e w9 ⟨v103,rfl,ho0,hb⟩;have HO104:=Aside0.mk (Kd.R_lower ho0 (below_size (q33_)));replace HB:=bS_ HB hb;(try clear hb);(try clear hk);(try clear ho0)) | ((with_reducible refine gate_dst (N:=6) rfl ?_);(try (refine gate_guard (by rfl) ?_;dsimp only));refine box_event ?hg (N:=6) ?hd (cs:=#[.string (⟨#[]⟩ : ByteArray),.int .i64 0,.int .i64 0,.int .i64 0]) (t:=26) ?hr ?_;(case hd=>rfl);(case hg=>rfl);(case hr=>first | (go_simp;done) | (go_simp;rfl));intro gb109 hg w10 hbox hb;replace HO104:=Aside0.mk (Kd.R_below (Kd.R_elderB (q15_) gb109 (Nat.le_of_eq hg.symm)) hb);have BK109:=Aside0.mk (hbox);have GW109:=Aside0.mk ((q64_ : w.heap.size ≤ gb109));have GE109:=Aside0.mk ((q64_ : w.heap.size ≤ gb109));replace HB:=bS_ HB hb;clear hb hbox hg;have hcz11_0 : w10.cell? ⟨gb109,0,none⟩ = some (.string (⟨#[]⟩ : ByteArray)):=(blk_cell BK109.out 0).trans rfl;have hcz11_1 : w10.cell? ⟨gb109,1,none⟩ = some (.int .i64 0):=(blk_cell BK109.out 1).trans rfl;have hcz11_2 : w10.cell? ⟨gb109,2,none⟩ = some (.int .i64 0):=(blk_cell BK109.out 2).trans rfl;have hcz11_3 : w10.cell? ⟨gb109,3,none⟩ = some (.int .i64 0):=(blk_cell BK109.out 3).trans rfl;have hfz11_0:=blk_frozen BK109.out 0;have hal11_0:=MAlive.alive_of hcz11_0;have hfz11_1:=blk_frozen BK109.out 1;have hal11_1:=MAlive.alive_of hcz11_1;have hfz11_2:=blk_frozen BK109.out 2;have hal11_2:=MAlive.alive_of hcz11_2;have hfz11_3:=blk_frozen BK109.out 3;have hal11_3:=MAlive.alive_of hcz11_3;obtain ⟨Ao12,co12,eo12⟩:=Kd.R_slice HO104.out;subst eo12) | (go_at_call 9;(with_reducible refine (impl_AddPerson.calls k _ _ t102 t105 t106 t107 t108 t110 t113 _ ?side1 ?side2 A6.out).mono ?_);(case side1=>refine (Kd.R_reads' (e:=26) (base:=w.heap.size) (ok:=fun k_=>(True ∧ k_ ≠ gb109)) (n:=t102.length) (c:=co12) ?_).2.2;exact (q59_));(case side2=>exact (Kd.R_reads' HO104.out).2.1);rintro e w13 ⟨v111,rfl,ho0,hb⟩;have HO112:=Aside0.mk (Kd.R_lower (Kd.R_newB (Kd.R_new' ho0 (Kd.R_lt (q59_))) (g:=gb109) (o:=.cells #[.string t105,.int .i64 t106,.int .i64 t107,.int .i64 t108] 26 (0,0)) (q62_)) (below_size (q43_)));replace HO104:=Aside0.mk (Kd.R_elder' (q59_) (Kd.R_base ho0) hb);replace BK109:=Aside0.mk (blk_below (g:=gb109) (o:=.cells #[.string t105,.int .i64 t106,.int .i64 t107,.int .i64 t108] 26 (0,0)) (q62_) hb);replace HB:=Aside0.mk (below_step (q43_) hb);(try clear hb);(try clear hk);(try clear ho0);have hcz14_0 : w13.cell? ⟨gb109,0,none⟩ = some (.string t105):=(blk_cell BK109.out 0).trans rfl;have hcz14_1 : w13.cell? ⟨gb109,1,none⟩ = some (.int .i64 t106):=(blk_cell BK109.out 1).trans rfl;have hcz14_2 : w13.cell? ⟨gb109,2,none⟩ = some (.int .i64 t107):=(blk_cell BK109.out 2).trans rfl;have hcz14_3 : w13.cell? ⟨gb109,3,none⟩ = some (.int .i64 t108):=(blk_cell BK109.out 3).trans rfl;have hfz14_0:=blk_frozen BK109.out 0;have hal14_0:=MAlive.alive_of hcz14_0;have hfz14_1:=blk_frozen BK109.out 1;have hal14_1:=MAlive.alive_of hcz14_1;have hfz14_2:=blk_frozen BK109.out 2;have hal14_2:=MAlive.alive_of hcz14_2;have hfz14_3:=blk_frozen BK109.out 3;have hal14_3:=MAlive.alive_of hcz14_3) | (go_at_call 10;(with_reducible refine (spec_AddPerson.calls k _ _ t102 t105 t106 t107 t108 t114 t117 _ ?side1 ?side2 A7.out).mono ?_);(case side1=>exact cX_ (Kd.R_reads' HO104.out).2.2);(case side2=>exact (Kd.R_reads' HO104.out).2.1);rintro e w15 ⟨v115,rfl,ho0,hb⟩;have HO116:=Aside0.mk (Kd.R_lower (Kd.R_newB (Kd.R_new' (Kd.R_new' ho0 (Kd.R_lt (q15_))) (Kd.R_lt (by (with_reducible repeat (first | apply Kd.R_alloc | apply Kd.R_drewN | apply Kd.R_drew));exact HO112.out))) (g:=gb109) (o:=.cells #[.string t105,.int .i64 t106,.int .i64 t107,.int .i64 t108] 26 (0,0)) (q19_)) (below_size (q43_)));replace HO104:=rE_ HO104 ho0 hb;replace HO112:=rE_ HO112 ho0 hb;replace BK109:=bkB_ BK109 hb;replace HB:=Aside0.mk (below_step (q43_) hb);(try clear hb);(try clear ho0)))
  repeat (go_quiet (first | (go_at_call 7;(with_reducible refine (laws_big.calls _ _ l0 _ _ l1 false _ ?side1 ?side2 ?side3 ?side4 A3.out).mono ?_);(case side1=>exact cX_ HR0.out);(case side2=>exact HC0.out);(case side3=>exact cX_ HR1.out);(case side4=>exact HC1.out);rintro e w' ⟨rfl,⟨nd,rfl⟩⟩;(try first | exact ⟨rfl,_,World.drewN_drewN _ _ _⟩ | exact ⟨rfl,_,Eq.trans (World.drewN_drewN _ _ _) (congrArg (World.drewN _) (Nat.add_assoc _ _ _))⟩)) | (go_at_call 8;(with_reducible refine (spec_DrawAddPerson.calls k _ _ l0 t102 t105 t106 t107 t108 _ ?side1 ?side2 A5.out).mono ?_);(case side1=>exact cX_ HR0.out);(case side2=>exact HC0.out);rintro e w9 ⟨v103,rfl,ho0,hb⟩;have HO104:=Aside0.mk (Kd.R_lower ho0 (below_size (q33_)));replace HB:=bS_ HB hb;(try clear hb);(try clear hk);(try clear ho0)) | ((with_reducible refine gate_dst (N:=6) rfl ?_);(try (refine gate_guard (by rfl) ?_;dsimp only));refine box_event ?hg (N:=6) ?hd (cs:=#[.string (⟨#[]⟩ : ByteArray),.int .i64 0,.int .i64 0,.int .i64 0]) (t:=26) ?hr ?_;(case hd=>rfl);(case hg=>rfl);(case hr=>first | (go_simp;done) | (go_simp;rfl));intro gb109 hg w10 hbox hb;replace HO104:=Aside0.mk (Kd.R_below (Kd.R_elderB (q15_) gb109 (Nat.le_of_eq hg.symm)) hb);have BK109:=Aside0.mk (hbox);have GW109:=Aside0.mk ((q64_ : w.heap.size ≤ gb109));have GE109:=Aside0.mk ((q64_ : w.heap.size ≤ gb109));replace HB:=bS_ HB hb;clear hb hbox hg;have hcz11_0 : w10.cell? ⟨gb109,0,none⟩ = some (.string (⟨#[]⟩ : ByteArray)):=(blk_cell BK109.out 0).trans rfl;have hcz11_1 : w10.cell? ⟨gb109,1,none⟩ = some (.int .i64 0):=(blk_cell BK109.out 1).trans rfl;have hcz11_2 : w10.cell? ⟨gb109,2,none⟩ = some (.int .i64 0):=(blk_cell BK109.out 2).trans rfl;have hcz11_3 : w10.cell? ⟨gb109,3,none⟩ = some (.int .i64 0):=(blk_cell BK109.out 3).trans rfl;have hfz11_0:=blk_frozen BK109.out 0;have hal11_0:=MAlive.alive_of hcz11_0;have hfz11_1:=blk_frozen BK109.out 1;have hal11_1:=MAlive.alive_of hcz11_1;have hfz11_2:=blk_frozen BK109.out 2;have hal11_2:=MAlive.alive_of hcz11_2;have hfz11_3:=blk_frozen BK109.out 3;have hal11_3:=MAlive.alive_of hcz11_3;obtain ⟨Ao12,co12,eo12⟩:=Kd.R_slice HO104.out;subst eo12) | (go_at_call 9;(with_reducible refine (impl_AddPerson.calls k _ _ t102 t105 t106 t107 t108 t110 t113 _ ?side1 ?side2 A6.out).mono ?_);(case side1=>refine (Kd.R_reads' (e:=26) (base:=w.heap.size) (ok:=fun k_=>(True ∧ k_ ≠ gb109)) (n:=t102.length) (c:=co12) ?_).2.2;exact (q59_));(case side2=>exact (Kd.R_reads' HO104.out).2.1);rintro e w13 ⟨v111,rfl,ho0,hb⟩;have HO112:=Aside0.mk (Kd.R_lower (Kd.R_newB (Kd.R_new' ho0 (Kd.R_lt (q59_))) (g:=gb109) (o:=.cells #[.string t105,.int .i64 t106,.int .i64 t107,.int .i64 t108] 26 (0,0)) (q62_)) (below_size (q43_)));replace HO104:=Aside0.mk (Kd.R_elder' (q59_) (Kd.R_base ho0) hb);replace BK109:=Aside0.mk (blk_below (g:=gb109) (o:=.cells #[.string t105,.int .i64 t106,.int .i64 t107,.int .i64 t108] 26 (0,0)) (q62_) hb);replace HB:=Aside0.mk (below_step (q43_) hb);(try clear hb);(try clear hk);(try clear ho0);have hcz14_0 : w13.cell? ⟨gb109,0,none⟩ = some (.string t105):=(blk_cell BK109.out 0).trans rfl;have hcz14_1 : w13.cell? ⟨gb109,1,none⟩ = some (.int .i64 t106):=(blk_cell BK109.out 1).trans rfl;have hcz14_2 : w13.cell? ⟨gb109,2,none⟩ = some (.int .i64 t107):=(blk_cell BK109.out 2).trans rfl;have hcz14_3 : w13.cell? ⟨gb109,3,none⟩ = some (.int .i64 t108):=(blk_cell BK109.out 3).trans rfl;have hfz14_0:=blk_frozen BK109.out 0;have hal14_0:=MAlive.alive_of hcz14_0;have hfz14_1:=blk_frozen BK109.out 1;have hal14_1:=MAlive.alive_of hcz14_1;have hfz14_2:=blk_frozen BK109.out 2;have hal14_2:=MAlive.alive_of hcz14_2;have hfz14_3:=blk_frozen BK109.out 3;have hal14_3:=MAlive.alive_of hcz14_3) | (go_at_call 10;(with_reducible refine (spec_AddPerson.calls k _ _ t102 t105 t106 t107 t108 t114 t117 _ ?side1 ?side2 A7.out).mono ?_);(case side1=>exact cX_ (Kd.R_reads' HO104.out).2.2);(case side2=>exact (Kd.R_reads' HO104.out).2.1);rintro e w15 ⟨v115,rfl,ho0,hb⟩;have HO116:=Aside0.mk (Kd.R_lower (Kd.R_newB (Kd.R_new' (Kd.R_new' ho0 (Kd.R_lt (q15_))) (Kd.R_lt (by (with_reducible repeat (first | apply Kd.R_alloc | apply Kd.R_drewN | apply Kd.R_drew));exact HO112.out))) (g:=gb109) (o:=.cells #[.string t105,.int .i64 t106,.int .i64 t107,.int .i64 t108] 26 (0,0)) (q19_)) (below_size (q43_)));replace HO104:=rE_ HO104 ho0 hb;replace HO112:=rE_ HO112 ho0 hb;replace BK109:=bkB_ BK109 hb;replace HB:=Aside0.mk (below_step (q43_) hb);(try clear hb);(try clear ho0)));go_upto_region 6 with (first | (go_at_call 7;(with_reducible refine (laws_big.calls _ _ l0 _ _ l1 false _ ?side1 ?side2 ?side3 ?side4 A3.out).mono ?_);(case side1=>exact cX_ HR0.out);(case side2=>exact HC0.out);(case side3=>exact cX_ HR1.out);(case side4=>exact HC1.out);rintro e w' ⟨rfl,⟨nd,rfl⟩⟩;(try first | exact ⟨rfl,_,World.drewN_drewN _ _ _⟩ | exact ⟨rfl,_,Eq.trans (World.drewN_drewN _ _ _) (congrArg (World.drewN _) (Nat.add_assoc _ _ _))⟩)) | (go_at_call 8;(with_reducible refine (spec_DrawAddPerson.calls k _ _ l0 t102 t105 t106 t107 t108 _ ?side1 ?side2 A5.out).mono ?_);(case side1=>exact cX_ HR0.out);(case side2=>exact HC0.out);rintro e w9 ⟨v103,rfl,ho0,hb⟩;have HO104:=Aside0.mk (Kd.R_lower ho0 (below_size (q33_)));replace HB:=bS_ HB hb;(try clear hb);(try clear hk);(try clear ho0)) | ((with_reducible refine gate_dst (N:=6) rfl ?_);(try (refine gate_guard (by rfl) ?_;dsimp only));refine box_event ?hg (N:=6) ?hd (cs:=#[.string (⟨#[]⟩ : ByteArray),.int .i64 0,.int .i64 0,.int .i64 0]) (t:=26) ?hr ?_;(case hd=>rfl);(case hg=>rfl);(case hr=>first | (go_simp;done) | (go_simp;rfl));intro gb109 hg w10 hbox hb;replace HO104:=Aside0.mk (Kd.R_below (Kd.R_elderB (q15_) gb109 (Nat.le_of_eq hg.symm)) hb);have BK109:=Aside0.mk (hbox);have GW109:=Aside0.mk ((q64_ : w.heap.size ≤ gb109));have GE109:=Aside0.mk ((q64_ : w.heap.size ≤ gb109));replace HB:=bS_ HB hb;clear hb hbox hg;have hcz11_0 : w10.cell? ⟨gb109,0,none⟩ = some (.string (⟨#[]⟩ : ByteArray)):=(blk_cell BK109.out 0).trans rfl;have hcz11_1 : w10.cell? ⟨gb109,1,none⟩ = some (.int .i64 0):=(blk_cell BK109.out 1).trans rfl;have hcz11_2 : w10.cell? ⟨gb109,2,none⟩ = some (.int .i64 0):=(blk_cell BK109.out 2).trans rfl;have hcz11_3 : w10.cell? ⟨gb109,3,none⟩ = some (.int .i64 0):=(blk_cell BK109.out 3).trans rfl;have hfz11_0:=blk_frozen BK109.out 0;have hal11_0:=MAlive.alive_of hcz11_0;have hfz11_1:=blk_frozen BK109.out 1;have hal11_1:=MAlive.alive_of hcz11_1;have hfz11_2:=blk_frozen BK109.out 2;have hal11_2:=MAlive.alive_of hcz11_2;have hfz11_3:=blk_frozen BK109.out 3;have hal11_3:=MAlive.alive_of hcz11_3;obtain ⟨Ao12,co12,eo12⟩:=Kd.R_slice HO104.out;subst eo12) | (go_at_call 9;(with_reducible refine (impl_AddPerson.calls k _ _ t102 t105 t106 t107 t108 t110 t113 _ ?side1 ?side2 A6.out).mono ?_);(case side1=>refine (Kd.R_reads' (e:=26) (base:=w.heap.size) (ok:=fun k_=>(True ∧ k_ ≠ gb109)) (n:=t102.length) (c:=co12) ?_).2.2;exact (q59_));(case side2=>exact (Kd.R_reads' HO104.out).2.1);rintro e w13 ⟨v111,rfl,ho0,hb⟩;have HO112:=Aside0.mk (Kd.R_lower (Kd.R_newB (Kd.R_new' ho0 (Kd.R_lt (q59_))) (g:=gb109) (o:=.cells #[.string t105,.int .i64 t106,.int .i64 t107,.int .i64 t108] 26 (0,0)) (q62_)) (below_size (q43_)));replace HO104:=Aside0.mk (Kd.R_elder' (q59_) (Kd.R_base ho0) hb);replace BK109:=Aside0.mk (blk_below (g:=gb109) (o:=.cells #[.string t105,.int .i64 t106,.int .i64 t107,.int .i64 t108] 26 (0,0)) (q62_) hb);replace HB:=Aside0.mk (below_step (q43_) hb);(try clear hb);(try clear hk);(try clear ho0);have hcz14_0 : w13.cell? ⟨gb109,0,none⟩ = some (.string t105):=(blk_cell BK109.out 0).trans rfl;have hcz14_1 : w13.cell? ⟨gb109,1,none⟩ = some (.int .i64 t106):=(blk_cell BK109.out 1).trans rfl;have hcz14_2 : w13.cell? ⟨gb109,2,none⟩ = some (.int .i64 t107):=(blk_cell BK109.out 2).trans rfl;have hcz14_3 : w13.cell? ⟨gb109,3,none⟩ = some (.int .i64 t108):=(blk_cell BK109.out 3).trans rfl;have hfz14_0:=blk_frozen BK109.out 0;have hal14_0:=MAlive.alive_of hcz14_0;have hfz14_1:=blk_frozen BK109.out 1;have hal14_1:=MAlive.alive_of hcz14_1;have hfz14_2:=blk_frozen BK109.out 2;have hal14_2:=MAlive.alive_of hcz14_2;have hfz14_3:=blk_frozen BK109.out 3;have hal14_3:=MAlive.alive_of hcz14_3) | (go_at_call 10;(with_reducible refine (spec_AddPerson.calls k _ _ t102 t105 t106 t107 t108 t114 t117 _ ?side1 ?side2 A7.out).mono ?_);(case side1=>exact cX_ (Kd.R_reads' HO104.out).2.2);(case side2=>exact (Kd.R_reads' HO104.out).2.1);rintro e w15 ⟨v115,rfl,ho0,hb⟩;have HO116:=Aside0.mk (Kd.R_lower (Kd.R_newB (Kd.R_new' (Kd.R_new' ho0 (Kd.R_lt (q15_))) (Kd.R_lt (by (with_reducible repeat (first | apply Kd.R_alloc | apply Kd.R_drewN | apply Kd.R_drew));exact HO112.out))) (g:=gb109) (o:=.cells #[.string t105,.int .i64 t106,.int .i64 t107,.int .i64 t108] 26 (0,0)) (q19_)) (below_size (q43_)));replace HO104:=rE_ HO104 ho0 hb;replace HO112:=rE_ HO112 ho0 hb;replace BK109:=bkB_ BK109 hb;replace HB:=Aside0.mk (below_step (q43_) hb);(try clear hb);(try clear ho0))))
  (try simp only [Act.put,List.setIfInBounds_toArray,List.set_cons_zero,List.set_cons_succ])
  go_cut [89] (fun v89 wc=>∃ (kq : Nat) (x89_7 : Bool),v89 = .bool x89_7 ∧ Aside0 (laws_FnPeople.j0 kq l1 t110 t113 t114 x89_7 t105 t106 t107 t108 = some r) ∧ Aside0 (kq ≤ k) ∧ Aside0 (Kd.R k26 26 wc w.heap.size (fun k_=>some k_ ≠ (v115 : Value).ownBlock ∧ k_ ≠ gb109) v111 t110) ∧ Aside0 (Kd.R k26 26 wc w.heap.size (fun k_=>some k_ ≠ (v111 : Value).ownBlock ∧ k_ ≠ gb109) v115 t114) ∧ Aside0 (wc.heap[gb109]? = some (.cells #[.string t105,.int .i64 t106,.int .i64 t107,.int .i64 t108] 26 (0,0))) ∧ Aside0 (Below w.heap.size w wc))
  case first=>as_aux_lemma =>
   have H:=HC8.out;clear HC8;by_cases c16 : (t113 != t117) = true
   ·rw [if_pos c16] at H;have c16b0 : (t113 != t117) = true:=c16
    (try (have c16b1 : decide (t113 = t117) = false:=by simpa using c16))
    (try (have c16b2 : (t113 == t117) = false:=by simpa using c16))
    (try (have c16b3 : ¬ (t113 = t117):=by simpa using c16))
    clear c16
    (first | rw [c16b0] | (simp only [i64_w,i32_w];rw [c16b0]) | skip)
    first | with_reducible exact (laws_FnPeople.j0_no H ht_.out).elim | with_reducible exact (laws_FnPeople.j4_no H ht_.out).elim | with_reducible exact (laws_FnPeople.j7_no H ht_.out).elim | with_reducible exact (laws_FnPeople.j1_no H ht_.out).elim
   ·rw [if_neg c16] at H;have c16b0 : (t113 != t117) = false:=by simpa using c16
    (try (have c16b1 : decide (t113 = t117) = true:=by simpa using c16))
    (try (have c16b2 : (t113 == t117) = true:=by simpa using c16))
    clear c16
    (first | rw [c16b0] | (simp only [i64_w,i32_w];rw [c16b0]) | skip)
    replace H:=Option.bind_eq_some_iff.mp H;obtain ⟨t118,A170,H⟩:=H;(try dsimp only at H);have A17:=Aside0.mk A170;clear A170;by_cases c18 : t118 = true
    ·subst c18;have H1 : (if t113 = true then (if (t114.length : Int) = (wrap64 ((t102.length : Int) + 1)) then ((impl_ArePeople.f k t110).bind fun t119=>(if t119 = true then ((impl_IsPerson.f k t105 t106 t107 t108).bind fun t120=>(laws_FnPeople.j0 k l1 t110 t113 t114 (!t120) t105 t106 t107 t108)) else (laws_FnPeople.j0 k l1 t110 t113 t114 true t105 t106 t107 t108))) else (laws_FnPeople.j0 k l1 t110 t113 t114 true t105 t106 t107 t108)) else (laws_FnPeople.j0 k l1 t110 t113 t114 false t105 t106 t107 t108)) = some r:=by rw [if_pos rfl] at H;exact H
     clear H;have H:=H1;clear H1;by_cases c19 : t113 = true
     ·subst c19;have H1 : (if (t114.length : Int) = (wrap64 ((t102.length : Int) + 1)) then ((impl_ArePeople.f k t110).bind fun t119=>(if t119 = true then ((impl_IsPerson.f k t105 t106 t107 t108).bind fun t120=>(laws_FnPeople.j0 k l1 t110 true t114 (!t120) t105 t106 t107 t108)) else (laws_FnPeople.j0 k l1 t110 true t114 true t105 t106 t107 t108))) else (laws_FnPeople.j0 k l1 t110 true t114 true t105 t106 t107 t108)) = some r:=by rw [if_pos rfl] at H;exact H
      clear H;have H:=H1;clear H1;by_cases c20 : (t114.length : Int) = (wrap64 ((t102.length : Int) + 1))
      ·rw [if_pos c20] at H;have c20b0 : ((t114.length : Int) == (wrap64 ((t102.length : Int) + 1))) = true:=beq_iff_eq.mpr c20;have c20b1 : ((t114.length : Int) != (wrap64 ((t102.length : Int) + 1))) = false:=bne_eq_false_iff_eq.mpr c20;clear c20;replace H:=Option.bind_eq_some_iff.mp H;obtain ⟨t119,A210,H⟩:=H;(try dsimp only at H);have A21:=Aside0.mk A210;clear A210;by_cases c22 : t119 = true
       ·subst c22;have H1 : ((impl_IsPerson.f k t105 t106 t107 t108).bind fun t120=>(laws_FnPeople.j0 k l1 t110 true t114 (!t120) t105 t106 t107 t108)) = some r:=by rw [if_pos rfl] at H;exact H
        clear H;have H:=H1;clear H1;replace H:=Option.bind_eq_some_iff.mp H;obtain ⟨t120,A230,H⟩:=H;(try dsimp only at H);have A23:=Aside0.mk A230;clear A230;have H' := Aside0.mk H;clear H;obtain ⟨Ao24,co24,eo24⟩:=Kd.R_slice HO112.out;subst eo24;obtain ⟨Ao25,co25,eo25⟩:=Kd.R_slice HO116.out;subst eo25;go_wp2_with (first | (go_at_call 11;(with_reducible refine (laws_pSamePeople.calls k _ _ t110 _ _ t114 true _ ?side1 ?side2 ?side3 ?side4 A17.out).mono ?_);(case side1=>exact cX_ (Kd.R_reads' HO112.out).2.2);(case side2=>exact (Kd.R_reads' HO112.out).2.1);(case side3=>exact cX_ (Kd.R_reads' HO116.out).2.2);(case side4=>exact (Kd.R_reads' HO116.out).2.1);rintro e w' ⟨rfl,⟨nd,rfl⟩⟩;(try first | exact ⟨rfl,_,World.drewN_drewN _ _ _⟩ | exact ⟨rfl,_,Eq.trans (World.drewN_drewN _ _ _) (congrArg (World.drewN _) (Nat.add_assoc _ _ _))⟩)) | (go_at_call 12;(with_reducible refine (impl_ArePeople.calls k _ _ t110 true _ ?side1 ?side2 A21.out).mono ?_);(case side1=>exact cX_ (Kd.R_reads' HO112.out).2.2);(case side2=>exact (Kd.R_reads' HO112.out).2.1);rintro e w26 ⟨rfl,hb⟩;replace HO104:=rB_ HO104 hb;replace HO112:=rB_ HO112 hb;replace HO116:=rB_ HO116 hb;replace BK109:=bkB_ BK109 hb;replace HB:=Aside0.mk (below_step (q43_) hb);(try clear hb);have hcz27_0 : w26.cell? ⟨gb109,0,none⟩ = some (.string t105):=(blk_cell BK109.out 0).trans rfl;have hcz27_1 : w26.cell? ⟨gb109,1,none⟩ = some (.int .i64 t106):=(blk_cell BK109.out 1).trans rfl;have hcz27_2 : w26.cell? ⟨gb109,2,none⟩ = some (.int .i64 t107):=(blk_cell BK109.out 2).trans rfl;have hcz27_3 : w26.cell? ⟨gb109,3,none⟩ = some (.int .i64 t108):=(blk_cell BK109.out 3).trans rfl;have hfz27_0:=blk_frozen BK109.out 0;have hal27_0:=MAlive.alive_of hcz27_0;have hfz27_1:=blk_frozen BK109.out 1;have hal27_1:=MAlive.alive_of hcz27_1;have hfz27_2:=blk_frozen BK109.out 2;have hal27_2:=MAlive.alive_of hcz27_2;have hfz27_3:=blk_frozen BK109.out 3;have hal27_3:=MAlive.alive_of hcz27_3) | (go_at_call 13;(with_reducible refine (impl_IsPerson.calls k t105 t106 t107 t108 t120 _ A23.out).mono ?_);rintro e w28 ⟨rfl,hb⟩;replace HO104:=rB_ HO104 hb;replace HO112:=rB_ HO112 hb;replace HO116:=rB_ HO116 hb;replace BK109:=bkB_ BK109 hb;replace HB:=Aside0.mk (below_step (q43_) hb);(try clear hb)))
        repeat (go_quiet (first | (go_at_call 11;(with_reducible refine (laws_pSamePeople.calls k _ _ t110 _ _ t114 true _ ?side1 ?side2 ?side3 ?side4 A17.out).mono ?_);(case side1=>exact cX_ (Kd.R_reads' HO112.out).2.2);(case side2=>exact (Kd.R_reads' HO112.out).2.1);(case side3=>exact cX_ (Kd.R_reads' HO116.out).2.2);(case side4=>exact (Kd.R_reads' HO116.out).2.1);rintro e w' ⟨rfl,⟨nd,rfl⟩⟩;(try first | exact ⟨rfl,_,World.drewN_drewN _ _ _⟩ | exact ⟨rfl,_,Eq.trans (World.drewN_drewN _ _ _) (congrArg (World.drewN _) (Nat.add_assoc _ _ _))⟩)) | (go_at_call 12;(with_reducible refine (impl_ArePeople.calls k _ _ t110 true _ ?side1 ?side2 A21.out).mono ?_);(case side1=>exact cX_ (Kd.R_reads' HO112.out).2.2);(case side2=>exact (Kd.R_reads' HO112.out).2.1);rintro e w26 ⟨rfl,hb⟩;replace HO104:=rB_ HO104 hb;replace HO112:=rB_ HO112 hb;replace HO116:=rB_ HO116 hb;replace BK109:=bkB_ BK109 hb;replace HB:=Aside0.mk (below_step (q43_) hb);(try clear hb);have hcz27_0 : w26.cell? ⟨gb109,0,none⟩ = some (.string t105):=(blk_cell BK109.out 0).trans rfl;have hcz27_1 : w26.cell? ⟨gb109,1,none⟩ = some (.int .i64 t106):=(blk_cell BK109.out 1).trans rfl;have hcz27_2 : w26.cell? ⟨gb109,2,none⟩ = some (.int .i64 t107):=(blk_cell BK109.out 2).trans rfl;have hcz27_3 : w26.cell? ⟨gb109,3,none⟩ = some (.int .i64 t108):=(blk_cell BK109.out 3).trans rfl;have hfz27_0:=blk_frozen BK109.out 0;have hal27_0:=MAlive.alive_of hcz27_0;have hfz27_1:=blk_frozen BK109.out 1;have hal27_1:=MAlive.alive_of hcz27_1;have hfz27_2:=blk_frozen BK109.out 2;have hal27_2:=MAlive.alive_of hcz27_2;have hfz27_3:=blk_frozen BK109.out 3;have hal27_3:=MAlive.alive_of hcz27_3) | (go_at_call 13;(with_reducible refine (impl_IsPerson.calls k t105 t106 t107 t108 t120 _ A23.out).mono ?_);rintro e w28 ⟨rfl,hb⟩;replace HO104:=rB_ HO104 hb;replace HO112:=rB_ HO112 hb;replace HO116:=rB_ HO116 hb;replace BK109:=bkB_ BK109 hb;replace HB:=Aside0.mk (below_step (q43_) hb);(try clear hb)));try go_wp2_with (first | (go_at_call 11;(with_reducible refine (laws_pSamePeople.calls k _ _ t110 _ _ t114 true _ ?side1 ?side2 ?side3 ?side4 A17.out).mono ?_);(case side1=>exact cX_ (Kd.R_reads' HO112.out).2.2);(case side2=>exact (Kd.R_reads' HO112.out).2.1);(case side3=>exact cX_ (Kd.R_reads' HO116.out).2.2);(case side4=>exact (Kd.R_reads' HO116.out).2.1);rintro e w' ⟨rfl,⟨nd,rfl⟩⟩;(try first | exact ⟨rfl,_,World.drewN_drewN _ _ _⟩ | exact ⟨rfl,_,Eq.trans (World.drewN_drewN _ _ _) (congrArg (World.drewN _) (Nat.add_assoc _ _ _))⟩)) | (go_at_call 12;(with_reducible refine (impl_ArePeople.calls k _ _ t110 true _ ?side1 ?side2 A21.out).mono ?_);(case side1=>exact cX_ (Kd.R_reads' HO112.out).2.2);(case side2=>exact (Kd.R_reads' HO112.out).2.1);rintro e w26 ⟨rfl,hb⟩;replace HO104:=rB_ HO104 hb;replace HO112:=rB_ HO112 hb;replace HO116:=rB_ HO116 hb;replace BK109:=bkB_ BK109 hb;replace HB:=Aside0.mk (below_step (q43_) hb);(try clear hb);have hcz27_0 : w26.cell? ⟨gb109,0,none⟩ = some (.string t105):=(blk_cell BK109.out 0).trans rfl;have hcz27_1 : w26.cell? ⟨gb109,1,none⟩ = some (.int .i64 t106):=(blk_cell BK109.out 1).trans rfl;have hcz27_2 : w26.cell? ⟨gb109,2,none⟩ = some (.int .i64 t107):=(blk_cell BK109.out 2).trans rfl;have hcz27_3 : w26.cell? ⟨gb109,3,none⟩ = some (.int .i64 t108):=(blk_cell BK109.out 3).trans rfl;have hfz27_0:=blk_frozen BK109.out 0;have hal27_0:=MAlive.alive_of hcz27_0;have hfz27_1:=blk_frozen BK109.out 1;have hal27_1:=MAlive.alive_of hcz27_1;have hfz27_2:=blk_frozen BK109.out 2;have hal27_2:=MAlive.alive_of hcz27_2;have hfz27_3:=blk_frozen BK109.out 3;have hal27_3:=MAlive.alive_of hcz27_3) | (go_at_call 13;(with_reducible refine (impl_IsPerson.calls k t105 t106 t107 t108 t120 _ A23.out).mono ?_);rintro e w28 ⟨rfl,hb⟩;replace HO104:=rB_ HO104 hb;replace HO112:=rB_ HO112 hb;replace HO116:=rB_ HO116 hb;replace BK109:=bkB_ BK109 hb;replace HB:=Aside0.mk (below_step (q43_) hb);(try clear hb))))
        go_meet
        case rel=>exact ⟨_,(!t120),(q1_),H', ⟨by first | omega | exact Nat.le_refl _⟩,⟨by (with_reducible repeat (first | apply Kd.R_alloc | apply Kd.R_drewN | apply Kd.R_drew));exact Kd.R_mono HO112.out (fun _ hk=>⟨hk.2,hk.1.2⟩)⟩,⟨q37_⟩,⟨q19_⟩,⟨q43_⟩⟩
       ·replace c22:=Bool.eq_false_iff.mpr c22;subst c22;have H1 : (laws_FnPeople.j0 k l1 t110 true t114 true t105 t106 t107 t108) = some r:=by rw [if_neg (show ¬ (false = true) by decide)] at H;exact H
        clear H;have H:=H1;clear H1;first | with_reducible exact (laws_FnPeople.j0_no H ht_.out).elim | with_reducible exact (laws_FnPeople.j4_no H ht_.out).elim | with_reducible exact (laws_FnPeople.j7_no H ht_.out).elim | with_reducible exact (laws_FnPeople.j1_no H ht_.out).elim
      ·rw [if_neg c20] at H;have c20b0 : ((t114.length : Int) == (wrap64 ((t102.length : Int) + 1))) = false:=beq_eq_false_iff_ne.mpr c20;have c20b1 : ((t114.length : Int) != (wrap64 ((t102.length : Int) + 1))) = true:=bne_iff_ne.mpr c20;first | with_reducible exact (laws_FnPeople.j0_no H ht_.out).elim | with_reducible exact (laws_FnPeople.j4_no H ht_.out).elim | with_reducible exact (laws_FnPeople.j7_no H ht_.out).elim | with_reducible exact (laws_FnPeople.j1_no H ht_.out).elim
     ·replace c19:=Bool.eq_false_iff.mpr c19;subst c19;have H1 : (laws_FnPeople.j0 k l1 t110 false t114 false t105 t106 t107 t108) = some r:=by rw [if_neg (show ¬ (false = true) by decide)] at H;exact H
      clear H;have H:=H1;clear H1;have H' := Aside0.mk H;clear H;obtain ⟨Ao34,co34,eo34⟩:=Kd.R_slice HO112.out;subst eo34;obtain ⟨Ao35,co35,eo35⟩:=Kd.R_slice HO116.out;subst eo35;go_wp2_with (first | (go_at_call 11;(with_reducible refine (laws_pSamePeople.calls k _ _ t110 _ _ t114 true _ ?side1 ?side2 ?side3 ?side4 A17.out).mono ?_);(case side1=>exact cX_ (Kd.R_reads' HO112.out).2.2);(case side2=>exact (Kd.R_reads' HO112.out).2.1);(case side3=>exact cX_ (Kd.R_reads' HO116.out).2.2);(case side4=>exact (Kd.R_reads' HO116.out).2.1);rintro e w' ⟨rfl,⟨nd,rfl⟩⟩;(try first | exact ⟨rfl,_,World.drewN_drewN _ _ _⟩ | exact ⟨rfl,_,Eq.trans (World.drewN_drewN _ _ _) (congrArg (World.drewN _) (Nat.add_assoc _ _ _))⟩)))
      repeat (go_quiet (first | (go_at_call 11;(with_reducible refine (laws_pSamePeople.calls k _ _ t110 _ _ t114 true _ ?side1 ?side2 ?side3 ?side4 A17.out).mono ?_);(case side1=>exact cX_ (Kd.R_reads' HO112.out).2.2);(case side2=>exact (Kd.R_reads' HO112.out).2.1);(case side3=>exact cX_ (Kd.R_reads' HO116.out).2.2);(case side4=>exact (Kd.R_reads' HO116.out).2.1);rintro e w' ⟨rfl,⟨nd,rfl⟩⟩;(try first | exact ⟨rfl,_,World.drewN_drewN _ _ _⟩ | exact ⟨rfl,_,Eq.trans (World.drewN_drewN _ _ _) (congrArg (World.drewN _) (Nat.add_assoc _ _ _))⟩)));try go_wp2_with (first | (go_at_call 11;(with_reducible refine (laws_pSamePeople.calls k _ _ t110 _ _ t114 true _ ?side1 ?side2 ?side3 ?side4 A17.out).mono ?_);(case side1=>exact cX_ (Kd.R_reads' HO112.out).2.2);(case side2=>exact (Kd.R_reads' HO112.out).2.1);(case side3=>exact cX_ (Kd.R_reads' HO116.out).2.2);(case side4=>exact (Kd.R_reads' HO116.out).2.1);rintro e w' ⟨rfl,⟨nd,rfl⟩⟩;(try first | exact ⟨rfl,_,World.drewN_drewN _ _ _⟩ | exact ⟨rfl,_,Eq.trans (World.drewN_drewN _ _ _) (congrArg (World.drewN _) (Nat.add_assoc _ _ _))⟩))))
      go_meet
      case rel=>exact ⟨_,(false),(q1_),H', ⟨by first | omega | exact Nat.le_refl _⟩,⟨by (with_reducible repeat (first | apply Kd.R_alloc | apply Kd.R_drewN | apply Kd.R_drew));exact Kd.R_mono HO112.out (fun _ hk=>⟨hk.2,hk.1.2⟩)⟩,⟨q37_⟩,⟨q19_⟩,⟨q43_⟩⟩
    ·replace c18:=Bool.eq_false_iff.mpr c18;subst c18;have H1 : (laws_FnPeople.j0 k l1 t110 t113 t114 true t105 t106 t107 t108) = some r:=by rw [if_neg (show ¬ (false = true) by decide)] at H;exact H
     clear H;have H:=H1;clear H1;first | with_reducible exact (laws_FnPeople.j0_no H ht_.out).elim | with_reducible exact (laws_FnPeople.j4_no H ht_.out).elim | with_reducible exact (laws_FnPeople.j7_no H ht_.out).elim | with_reducible exact (laws_FnPeople.j1_no H ht_.out).elim
  case rest=>as_aux_lemma =>
   clear HC8;try clear c1
   try clear c4
   try clear c16
   try clear c16b0
   try clear c16b1
   try clear c16b2
   try clear c18
   try clear c19
   try clear c20
   try clear c20b0
   try clear c20b1
   try clear c22
   try clear hcz11_0
   try clear hcz11_1
   try clear hcz11_2
   try clear hcz11_3
   try clear hcz14_0
   try clear hcz14_1
   try clear hcz14_2
   try clear hcz14_3
   try clear hcz27_0
   try clear hcz27_1
   try clear hcz27_2
   try clear hcz27_3
   try clear hfz11_0
   try clear hfz11_1
   try clear hfz11_2
   try clear hfz11_3
   try clear hfz14_0
   try clear hfz14_1
   try clear hfz14_2
   try clear hfz14_3
   try clear hfz27_0
   try clear hfz27_1
   try clear hfz27_2
   try clear hfz27_3
   obtain ⟨kq,x89_7,rfl,HA,HJ7,HO_7,HO_9,BK109,HB⟩:=hcut;cases kq with
   | zero=>exact absurd HA.out (by simp [laws_FnPeople.j0])
   | succ kj7 =>
    have H:=HA.out;clear HA;simp only [laws_FnPeople.j0] at H;by_cases c38 : x89_7 = true
    ·subst c38;have H1 : (some false) = some r:=by rw [if_pos rfl] at H;exact H
     clear H;have H:=H1;clear H1;exact absurd (Option.some.inj H) (by rw [ht_.out];decide)
    ·replace c38:=Bool.eq_false_iff.mpr c38;subst c38;have H1 : (if t113 = true then ((impl_WhoIs.f kj7 t110 t106 t107).bind fun bt121=>((spec_WhoIs.f kj7 t114 t106 t107).bind fun bt125=>(if bt121.2 = true then (if bt125.2 = true then ((laws_sameInts.f kj7 bt121.1 bt125.1).bind fun t129=>(laws_FnPeople.j1 kj7 l1 t114 bt125.1 (!t129) t105 t106 t107 t108)) else (laws_FnPeople.j1 kj7 l1 t114 bt125.1 true t105 t106 t107 t108)) else (laws_FnPeople.j1 kj7 l1 t114 bt125.1 true t105 t106 t107 t108)))) else (laws_FnPeople.j3 kj7 l1)) = some r:=by rw [if_neg (show ¬ (false = true) by decide)] at H;exact H
     clear H;have H:=H1;clear H1;have HC39:=Aside0.mk H;clear H;go_upto_if 90 with (fail)
     repeat (go_quiet (fail);go_upto_if 90 with (fail))
     go_cut [] (fun wc=>∃ (kq : Nat),Aside0 (laws_FnPeople.j3 kq l1 = some r) ∧ Aside0 (kq ≤ kj7) ∧ Aside0 (wc.heap[gb109]? = some (.cells #[.string t105,.int .i64 t106,.int .i64 t107,.int .i64 t108] 26 (0,0))) ∧ Aside0 (Below w.heap.size w wc))
     case first=>as_aux_lemma =>
      have H:=HC39.out;clear HC39;by_cases c40 : t113 = true
      ·subst c40;have H1 : ((impl_WhoIs.f kj7 t110 t106 t107).bind fun bt121=>((spec_WhoIs.f kj7 t114 t106 t107).bind fun bt125=>(if bt121.2 = true then (if bt125.2 = true then ((laws_sameInts.f kj7 bt121.1 bt125.1).bind fun t129=>(laws_FnPeople.j1 kj7 l1 t114 bt125.1 (!t129) t105 t106 t107 t108)) else (laws_FnPeople.j1 kj7 l1 t114 bt125.1 true t105 t106 t107 t108)) else (laws_FnPeople.j1 kj7 l1 t114 bt125.1 true t105 t106 t107 t108)))) = some r:=by rw [if_pos rfl] at H;exact H
       clear H;have H:=H1;clear H1;replace H:=Option.bind_eq_some_iff.mp H;obtain ⟨⟨t121,t122⟩,A410,H⟩:=H;(try dsimp only at H);have A41:=Aside0.mk A410;clear A410;replace H:=Option.bind_eq_some_iff.mp H;obtain ⟨⟨t125,t126⟩,A420,H⟩:=H;(try dsimp only at H);have A42:=Aside0.mk A420;clear A420;have HC43:=Aside0.mk H;clear H;have hcz44_0 : wc.cell? ⟨gb109,0,none⟩ = some (.string t105):=(blk_cell BK109.out 0).trans rfl;have hcz44_1 : wc.cell? ⟨gb109,1,none⟩ = some (.int .i64 t106):=(blk_cell BK109.out 1).trans rfl;have hcz44_2 : wc.cell? ⟨gb109,2,none⟩ = some (.int .i64 t107):=(blk_cell BK109.out 2).trans rfl;have hcz44_3 : wc.cell? ⟨gb109,3,none⟩ = some (.int .i64 t108):=(blk_cell BK109.out 3).trans rfl;have hfz44_0:=blk_frozen BK109.out 0;have hal44_0:=MAlive.alive_of hcz44_0;have hfz44_1:=blk_frozen BK109.out 1;have hal44_1:=MAlive.alive_of hcz44_1;have hfz44_2:=blk_frozen BK109.out 2;have hal44_2:=MAlive.alive_of hcz44_2;have hfz44_3:=blk_frozen BK109.out 3;have hal44_3:=MAlive.alive_of hcz44_3;obtain ⟨Ao45,co45,eo45⟩:=Kd.R_slice HO_7.out;subst eo45;go_upto_region 11 with (first | (go_at_call 14;(with_reducible refine (impl_WhoIs.calls kj7 _ _ t110 t106 t107 t121 t122 _ ?side1 ?side2 A41.out).mono ?_);(case side1=>exact cX_ (Kd.R_reads' HO_7.out).2.2);(case side2=>exact (Kd.R_reads' HO_7.out).2.1);rintro e w46 ⟨v123,rfl,ho0,hb⟩;replace HO_7:=rB_ HO_7 hb;replace HO_9:=rB_ HO_9 hb;have HO124:=Aside0.mk (Kd.R_lower ho0 (below_size (q43_)));replace BK109:=bkB_ BK109 hb;replace HB:=Aside0.mk (below_step (q43_) hb);(try clear hb);(try clear ho0);have hcz47_0 : w46.cell? ⟨gb109,0,none⟩ = some (.string t105):=(blk_cell BK109.out 0).trans rfl;have hcz47_1 : w46.cell? ⟨gb109,1,none⟩ = some (.int .i64 t106):=(blk_cell BK109.out 1).trans rfl;have hcz47_2 : w46.cell? ⟨gb109,2,none⟩ = some (.int .i64 t107):=(blk_cell BK109.out 2).trans rfl;have hcz47_3 : w46.cell? ⟨gb109,3,none⟩ = some (.int .i64 t108):=(blk_cell BK109.out 3).trans rfl;have hfz47_0:=blk_frozen BK109.out 0;have hal47_0:=MAlive.alive_of hcz47_0;have hfz47_1:=blk_frozen BK109.out 1;have hal47_1:=MAlive.alive_of hcz47_1;have hfz47_2:=blk_frozen BK109.out 2;have hal47_2:=MAlive.alive_of hcz47_2;have hfz47_3:=blk_frozen BK109.out 3;have hal47_3:=MAlive.alive_of hcz47_3;obtain ⟨Ao48,co48,eo48⟩:=Kd.R_slice HO_9.out;subst eo48) | (go_at_call 15;(with_reducible refine (spec_WhoIs.calls kj7 _ _ t114 t106 t107 t125 t126 _ ?side1 ?side2 A42.out).mono ?_);(case side1=>exact cX_ (Kd.R_reads' HO_9.out).2.2);(case side2=>exact (Kd.R_reads' HO_9.out).2.1);rintro e w49 ⟨v127,rfl,ho0,hb⟩;replace HO_7:=rB_ HO_7 hb;replace HO_9:=rB_ HO_9 hb;have HO128:=Aside0.mk (Kd.R_lower (Kd.R_new' ho0 (Kd.R_lt (by (with_reducible repeat (first | apply Kd.R_alloc | apply Kd.R_drewN | apply Kd.R_drew));exact HO124.out))) (below_size (q43_)));replace HO124:=rE_ HO124 ho0 hb;replace BK109:=bkB_ BK109 hb;replace HB:=Aside0.mk (below_step (q43_) hb);(try clear hb);(try clear ho0)))
       repeat (go_quiet (first | (go_at_call 14;(with_reducible refine (impl_WhoIs.calls kj7 _ _ t110 t106 t107 t121 t122 _ ?side1 ?side2 A41.out).mono ?_);(case side1=>exact cX_ (Kd.R_reads' HO_7.out).2.2);(case side2=>exact (Kd.R_reads' HO_7.out).2.1);rintro e w46 ⟨v123,rfl,ho0,hb⟩;replace HO_7:=rB_ HO_7 hb;replace HO_9:=rB_ HO_9 hb;have HO124:=Aside0.mk (Kd.R_lower ho0 (below_size (q43_)));replace BK109:=bkB_ BK109 hb;replace HB:=Aside0.mk (below_step (q43_) hb);(try clear hb);(try clear ho0);have hcz47_0 : w46.cell? ⟨gb109,0,none⟩ = some (.string t105):=(blk_cell BK109.out 0).trans rfl;have hcz47_1 : w46.cell? ⟨gb109,1,none⟩ = some (.int .i64 t106):=(blk_cell BK109.out 1).trans rfl;have hcz47_2 : w46.cell? ⟨gb109,2,none⟩ = some (.int .i64 t107):=(blk_cell BK109.out 2).trans rfl;have hcz47_3 : w46.cell? ⟨gb109,3,none⟩ = some (.int .i64 t108):=(blk_cell BK109.out 3).trans rfl;have hfz47_0:=blk_frozen BK109.out 0;have hal47_0:=MAlive.alive_of hcz47_0;have hfz47_1:=blk_frozen BK109.out 1;have hal47_1:=MAlive.alive_of hcz47_1;have hfz47_2:=blk_frozen BK109.out 2;have hal47_2:=MAlive.alive_of hcz47_2;have hfz47_3:=blk_frozen BK109.out 3;have hal47_3:=MAlive.alive_of hcz47_3;obtain ⟨Ao48,co48,eo48⟩:=Kd.R_slice HO_9.out;subst eo48) | (go_at_call 15;(with_reducible refine (spec_WhoIs.calls kj7 _ _ t114 t106 t107 t125 t126 _ ?side1 ?side2 A42.out).mono ?_);(case side1=>exact cX_ (Kd.R_reads' HO_9.out).2.2);(case side2=>exact (Kd.R_reads' HO_9.out).2.1);rintro e w49 ⟨v127,rfl,ho0,hb⟩;replace HO_7:=rB_ HO_7 hb;replace HO_9:=rB_ HO_9 hb;have HO128:=Aside0.mk (Kd.R_lower (Kd.R_new' ho0 (Kd.R_lt (by (with_reducible repeat (first | apply Kd.R_alloc | apply Kd.R_drewN | apply Kd.R_drew));exact HO124.out))) (below_size (q43_)));replace HO124:=rE_ HO124 ho0 hb;replace BK109:=bkB_ BK109 hb;replace HB:=Aside0.mk (below_step (q43_) hb);(try clear hb);(try clear ho0)));go_upto_region 11 with (first | (go_at_call 14;(with_reducible refine (impl_WhoIs.calls kj7 _ _ t110 t106 t107 t121 t122 _ ?side1 ?side2 A41.out).mono ?_);(case side1=>exact cX_ (Kd.R_reads' HO_7.out).2.2);(case side2=>exact (Kd.R_reads' HO_7.out).2.1);rintro e w46 ⟨v123,rfl,ho0,hb⟩;replace HO_7:=rB_ HO_7 hb;replace HO_9:=rB_ HO_9 hb;have HO124:=Aside0.mk (Kd.R_lower ho0 (below_size (q43_)));replace BK109:=bkB_ BK109 hb;replace HB:=Aside0.mk (below_step (q43_) hb);(try clear hb);(try clear ho0);have hcz47_0 : w46.cell? ⟨gb109,0,none⟩ = some (.string t105):=(blk_cell BK109.out 0).trans rfl;have hcz47_1 : w46.cell? ⟨gb109,1,none⟩ = some (.int .i64 t106):=(blk_cell BK109.out 1).trans rfl;have hcz47_2 : w46.cell? ⟨gb109,2,none⟩ = some (.int .i64 t107):=(blk_cell BK109.out 2).trans rfl;have hcz47_3 : w46.cell? ⟨gb109,3,none⟩ = some (.int .i64 t108):=(blk_cell BK109.out 3).trans rfl;have hfz47_0:=blk_frozen BK109.out 0;have hal47_0:=MAlive.alive_of hcz47_0;have hfz47_1:=blk_frozen BK109.out 1;have hal47_1:=MAlive.alive_of hcz47_1;have hfz47_2:=blk_frozen BK109.out 2;have hal47_2:=MAlive.alive_of hcz47_2;have hfz47_3:=blk_frozen BK109.out 3;have hal47_3:=MAlive.alive_of hcz47_3;obtain ⟨Ao48,co48,eo48⟩:=Kd.R_slice HO_9.out;subst eo48) | (go_at_call 15;(with_reducible refine (spec_WhoIs.calls kj7 _ _ t114 t106 t107 t125 t126 _ ?side1 ?side2 A42.out).mono ?_);(case side1=>exact cX_ (Kd.R_reads' HO_9.out).2.2);(case side2=>exact (Kd.R_reads' HO_9.out).2.1);rintro e w49 ⟨v127,rfl,ho0,hb⟩;replace HO_7:=rB_ HO_7 hb;replace HO_9:=rB_ HO_9 hb;have HO128:=Aside0.mk (Kd.R_lower (Kd.R_new' ho0 (Kd.R_lt (by (with_reducible repeat (first | apply Kd.R_alloc | apply Kd.R_drewN | apply Kd.R_drew));exact HO124.out))) (below_size (q43_)));replace HO124:=rE_ HO124 ho0 hb;replace BK109:=bkB_ BK109 hb;replace HB:=Aside0.mk (below_step (q43_) hb);(try clear hb);(try clear ho0))))
       (try simp only [Act.put,List.setIfInBounds_toArray,List.set_cons_zero,List.set_cons_succ])
       go_cut [120] (fun v120 wc=>∃ (kq : Nat) (x120_42 : Bool),v120 = .bool x120_42 ∧ Aside0 (laws_FnPeople.j1 kq l1 t114 t125 x120_42 t105 t106 t107 t108 = some r) ∧ Aside0 (kq ≤ kj7) ∧ Aside0 (Kd.R k26 26 wc w.heap.size (fun k_=>k_ ≠ gb109) (.slice Ao48 t114.length co48) t114) ∧ Aside0 (Kd.R (Kd.int .i64) 3 wc w.heap.size (fun _=>True) v127 t125) ∧ Aside0 (wc.heap[gb109]? = some (.cells #[.string t105,.int .i64 t106,.int .i64 t107,.int .i64 t108] 26 (0,0))) ∧ Aside0 (Below w.heap.size w wc))
       case first=>as_aux_lemma =>
        have H:=HC43.out;clear HC43;by_cases c50 : t122 = true
        ·subst c50;have H1 : (if t126 = true then ((laws_sameInts.f kj7 t121 t125).bind fun t129=>(laws_FnPeople.j1 kj7 l1 t114 t125 (!t129) t105 t106 t107 t108)) else (laws_FnPeople.j1 kj7 l1 t114 t125 true t105 t106 t107 t108)) = some r:=by rw [if_pos rfl] at H;exact H
         clear H;have H:=H1;clear H1;by_cases c51 : t126 = true
         ·subst c51;have H1 : ((laws_sameInts.f kj7 t121 t125).bind fun t129=>(laws_FnPeople.j1 kj7 l1 t114 t125 (!t129) t105 t106 t107 t108)) = some r:=by rw [if_pos rfl] at H;exact H
          clear H;have H:=H1;clear H1;replace H:=Option.bind_eq_some_iff.mp H;obtain ⟨t129,A520,H⟩:=H;(try dsimp only at H);have A52:=Aside0.mk A520;clear A520;have H' := Aside0.mk H;clear H;obtain ⟨Ao53,co53,eo53⟩:=Kd.R_slice HO124.out;subst eo53;obtain ⟨Ao54,co54,eo54⟩:=Kd.R_slice HO128.out;subst eo54;go_wp2_with (first | (go_at_call 16;(with_reducible refine (laws_sameInts.calls kj7 _ _ t121 _ _ t125 t129 _ ?side1 ?side2 ?side3 ?side4 A52.out).mono ?_);(case side1=>exact cX_ (Kd.R_reads' HO124.out).2.2);(case side2=>exact (Kd.R_reads' HO124.out).2.1);(case side3=>exact cX_ (Kd.R_reads' HO128.out).2.2);(case side4=>exact (Kd.R_reads' HO128.out).2.1);rintro e w' ⟨rfl,⟨nd,rfl⟩⟩;(try first | exact ⟨rfl,_,World.drewN_drewN _ _ _⟩ | exact ⟨rfl,_,Eq.trans (World.drewN_drewN _ _ _) (congrArg (World.drewN _) (Nat.add_assoc _ _ _))⟩)))
          repeat (go_quiet (first | (go_at_call 16;(with_reducible refine (laws_sameInts.calls kj7 _ _ t121 _ _ t125 t129 _ ?side1 ?side2 ?side3 ?side4 A52.out).mono ?_);(case side1=>exact cX_ (Kd.R_reads' HO124.out).2.2);(case side2=>exact (Kd.R_reads' HO124.out).2.1);(case side3=>exact cX_ (Kd.R_reads' HO128.out).2.2);(case side4=>exact (Kd.R_reads' HO128.out).2.1);rintro e w' ⟨rfl,⟨nd,rfl⟩⟩;(try first | exact ⟨rfl,_,World.drewN_drewN _ _ _⟩ | exact ⟨rfl,_,Eq.trans (World.drewN_drewN _ _ _) (congrArg (World.drewN _) (Nat.add_assoc _ _ _))⟩)));try go_wp2_with (first | (go_at_call 16;(with_reducible refine (laws_sameInts.calls kj7 _ _ t121 _ _ t125 t129 _ ?side1 ?side2 ?side3 ?side4 A52.out).mono ?_);(case side1=>exact cX_ (Kd.R_reads' HO124.out).2.2);(case side2=>exact (Kd.R_reads' HO124.out).2.1);(case side3=>exact cX_ (Kd.R_reads' HO128.out).2.2);(case side4=>exact (Kd.R_reads' HO128.out).2.1);rintro e w' ⟨rfl,⟨nd,rfl⟩⟩;(try first | exact ⟨rfl,_,World.drewN_drewN _ _ _⟩ | exact ⟨rfl,_,Eq.trans (World.drewN_drewN _ _ _) (congrArg (World.drewN _) (Nat.add_assoc _ _ _))⟩))))
          go_meet
          case rel=>exact ⟨_,(!t129),(q1_),H', ⟨by have:=HJ7.out;first | omega | exact Nat.le_refl _⟩,⟨by (with_reducible repeat (first | apply Kd.R_alloc | apply Kd.R_drewN | apply Kd.R_drew));exact Kd.R_mono HO_9.out (fun _ hk=>hk.2)⟩,⟨by (with_reducible repeat (first | apply Kd.R_alloc | apply Kd.R_drewN | apply Kd.R_drew));exact Kd.R_mono HO128.out (fun _ hk=>trivial)⟩,⟨q19_⟩,⟨q43_⟩⟩
         ·replace c51:=Bool.eq_false_iff.mpr c51;subst c51;have H1 : (laws_FnPeople.j1 kj7 l1 t114 t125 true t105 t106 t107 t108) = some r:=by rw [if_neg (show ¬ (false = true) by decide)] at H;exact H
          clear H;have H:=H1;clear H1;first | with_reducible exact (laws_FnPeople.j0_no H ht_.out).elim | with_reducible exact (laws_FnPeople.j4_no H ht_.out).elim | with_reducible exact (laws_FnPeople.j7_no H ht_.out).elim | with_reducible exact (laws_FnPeople.j1_no H ht_.out).elim
        ·replace c50:=Bool.eq_false_iff.mpr c50;subst c50;have H1 : (laws_FnPeople.j1 kj7 l1 t114 t125 true t105 t106 t107 t108) = some r:=by rw [if_neg (show ¬ (false = true) by decide)] at H;exact H
         clear H;have H:=H1;clear H1;first | with_reducible exact (laws_FnPeople.j0_no H ht_.out).elim | with_reducible exact (laws_FnPeople.j4_no H ht_.out).elim | with_reducible exact (laws_FnPeople.j7_no H ht_.out).elim | with_reducible exact (laws_FnPeople.j1_no H ht_.out).elim
       case rest=>as_aux_lemma =>
        clear HC43;try clear c1
        try clear c4
        try clear c16
        try clear c16b0
        try clear c16b1
        try clear c16b2
        try clear c18
        try clear c19
        try clear c20
        try clear c20b0
        try clear c20b1
        try clear c22
        try clear c38
        try clear c40
        try clear c50
        try clear c51
        try clear hcz11_0
        try clear hcz11_1
        try clear hcz11_2
        try clear hcz11_3
        try clear hcz14_0
        try clear hcz14_1
        try clear hcz14_2
        try clear hcz14_3
        try clear hcz27_0
        try clear hcz27_1
        try clear hcz27_2
        try clear hcz27_3
        try clear hcz44_0
        try clear hcz44_1
        try clear hcz44_2
        try clear hcz44_3
        try clear hcz47_0
        try clear hcz47_1
        try clear hcz47_2
        try clear hcz47_3
        try clear hfz11_0
        try clear hfz11_1
        try clear hfz11_2
        try clear hfz11_3
        try clear hfz14_0
        try clear hfz14_1
        try clear hfz14_2
        try clear hfz14_3
        try clear hfz27_0
        try clear hfz27_1
        try clear hfz27_2
        try clear hfz27_3
        try clear hfz44_0
        try clear hfz44_1
        try clear hfz44_2
        try clear hfz44_3
        try clear hfz47_0
        try clear hfz47_1
        try clear hfz47_2
        try clear hfz47_3
        obtain ⟨kq,x120_42,rfl,HA,HJ42,HO_9,HO_13,BK109,HB⟩:=hcut;cases kq with
        | zero=>exact absurd HA.out (by simp [laws_FnPeople.j1])
        | succ kj42 =>
         have H:=HA.out;clear HA;simp only [laws_FnPeople.j1] at H;by_cases c55 : x120_42 = true
         ·subst c55;have H1 : (some false) = some r:=by rw [if_pos rfl] at H;exact H
          clear H;have H:=H1;clear H1;exact absurd (Option.some.inj H) (by rw [ht_.out];decide)
         ·replace c55:=Bool.eq_false_iff.mpr c55;subst c55;have H1 : (laws_FnPeople.l0 kj42 l1 t114 false t125 (t125.length : Int) 0 t105 t106 t107 t108) = some r:=by rw [if_neg (show ¬ (false = true) by decide)] at H;exact H
          clear H;have H:=H1;clear H1;have H' := Aside0.mk H;clear H;obtain ⟨Ao56,co56,eo56⟩:=Kd.R_slice HO_13.out;subst eo56;go_wp2;repeat (go_quiet (fail);try go_wp2)
          go_loopg [15,123] kj42 (fun kq v15 v123 w' => ∃ (x15_3 : Bool) (x123_3 : Int),v15 = .bool x15_3 ∧ v123 = .int .i64 x123_3 ∧ Aside0 (laws_FnPeople.l0 kq l1 t114 x15_3 t125 (t125.length : Int) x123_3 t105 t106 t107 t108 = some r) ∧ Aside0 (kq ≤ kj42) ∧ Aside0 (Kd.R k26 26 w' w.heap.size (fun k_=>k_ ≠ gb109) (.slice Ao48 t114.length co48) t114) ∧ Aside0 (Kd.R (Kd.int .i64) 3 w' w.heap.size (fun _=>True) (.slice Ao56 t125.length co56) t125) ∧ Aside0 (w'.heap[gb109]? = some (.cells #[.string t105,.int .i64 t106,.int .i64 t107,.int .i64 t108] 26 (0,0))) ∧ Aside0 (Below w.heap.size w w'))
          case atStart=>exact ⟨(false),(0),(q1_),(q1_),H', ⟨Nat.le_refl _⟩,⟨by (with_reducible repeat (first | apply Kd.R_alloc | apply Kd.R_drewN | apply Kd.R_drew));exact HO_9.out⟩,⟨by (with_reducible repeat (first | apply Kd.R_alloc | apply Kd.R_drewN | apply Kd.R_drew));exact HO_13.out⟩,⟨q19_⟩,⟨q43_⟩⟩
          case round =>
           clear H';try clear c1
           try clear c4
           try clear c16
           try clear c16b0
           try clear c16b1
           try clear c16b2
           try clear c18
           try clear c19
           try clear c20
           try clear c20b0
           try clear c20b1
           try clear c22
           try clear c38
           try clear c40
           try clear c50
           try clear c51
           try clear c55
           try clear hcz11_0
           try clear hcz11_1
           try clear hcz11_2
           try clear hcz11_3
           try clear hcz14_0
           try clear hcz14_1
           try clear hcz14_2
           try clear hcz14_3
           try clear hcz27_0
           try clear hcz27_1
           try clear hcz27_2
           try clear hcz27_3
           try clear hcz44_0
           try clear hcz44_1
           try clear hcz44_2
           try clear hcz44_3
           try clear hcz47_0
           try clear hcz47_1
           try clear hcz47_2
           try clear hcz47_3
           try clear hfz11_0
           try clear hfz11_1
           try clear hfz11_2
           try clear hfz11_3
           try clear hfz14_0
           try clear hfz14_1
           try clear hfz14_2
           try clear hfz14_3
           try clear hfz27_0
           try clear hfz27_1
           try clear hfz27_2
           try clear hfz27_3
           try clear hfz44_0
           try clear hfz44_1
           try clear hfz44_2
           try clear hfz44_3
           try clear hfz47_0
           try clear hfz47_1
           try clear hfz47_2
           try clear hfz47_3
           obtain ⟨x15_3,x123_3,rfl,rfl,HA,HK3,HO_9,HO_121,BK109,HB⟩:=hrel;cases gk with
           | zero=>exact absurd HA.out (by simp [laws_FnPeople.l0])
           | succ k3 =>
            have H:=HA.out;clear HA;simp only [laws_FnPeople.l0] at H;by_cases c57 : x123_3 < (t125.length : Int)
            ·rw [if_pos c57] at H;have c57b0 : decide (x123_3 < (t125.length : Int)) = true:=decide_eq_true c57;clear c57;by_cases c58 : 0 ≤ x123_3
             ·rw [if_pos c58] at H;have c58b0 : decide (0 ≤ x123_3) = true:=decide_eq_true c58;clear c58;by_cases c59 : x123_3 < (t125.length : Int)
              ·rw [if_pos c59] at H;have c59b0 : decide (x123_3 < (t125.length : Int)) = true:=decide_eq_true c59;clear c59;by_cases c60 : x15_3 = true
               ·subst c60;have H1 : (laws_FnPeople.l0 k3 l1 t114 true t125 (t125.length : Int) (wrap64 (x123_3 + 1)) t105 t106 t107 t108) = some r:=by rw [if_pos rfl] at H;exact H
                clear H;have H:=H1;clear H1;have H' := Aside0.mk H;clear H;have p130 : 0 ≤ (x123_3 : Int):=of_decide_eq_true (q2_);have q130 : x123_3 < (t125.length : Int):=of_decide_eq_true (q2_);obtain ⟨ad130,e130,hx130_0⟩:=Kd.at_int (Kd.R_reads' HO_121.out).2.2 x123_3 p130 q130;cases e130;replace p130:=eq_true p130;replace q130:=eq_true q130;go_wp2;repeat (go_quiet (fail);try go_wp2)
                go_roundg k3
                case measure=>have:=HJ7.out;have:=HJ42.out;have:=HK3.out;omega
                case rel=>exact ⟨(true),(wrap64 (x123_3 + 1)),(q1_),(q1_),H', ⟨by have:=HJ7.out;have:=HJ42.out;have:=HK3.out;omega⟩,⟨by (with_reducible repeat (first | apply Kd.R_alloc | apply Kd.R_drewN | apply Kd.R_drew));exact HO_9.out⟩,⟨by (with_reducible repeat (first | apply Kd.R_alloc | apply Kd.R_drewN | apply Kd.R_drew));exact HO_121.out⟩,⟨q19_⟩,⟨q43_⟩⟩
               ·replace c60:=Bool.eq_false_iff.mpr c60;subst c60;have H1 : (if 0 ≤ (rd t125 x123_3) then (if (rd t125 x123_3) < (t114.length : Int) then (laws_FnPeople.l0 k3 l1 t114 ((((rd_T26 t114 (rd t125 x123_3)).f0).toList) == t105.toList && (((rd_T26 t114 (rd t125 x123_3)).f1) == t106 && (((rd_T26 t114 (rd t125 x123_3)).f2) == t107 && (((rd_T26 t114 (rd t125 x123_3)).f3) == t108)))) t125 (t125.length : Int) (wrap64 (x123_3 + 1)) t105 t106 t107 t108) else (none)) else (none)) = some r:=by rw [if_neg (show ¬ (false = true) by decide)] at H;exact H
                clear H;have H:=H1;clear H1;by_cases c61 : 0 ≤ (rd t125 x123_3)
                ·rw [if_pos c61] at H;have c61b0 : decide (0 ≤ (rd t125 x123_3)) = true:=decide_eq_true c61;clear c61;by_cases c62 : (rd t125 x123_3) < (t114.length : Int)
                 ·rw [if_pos c62] at H;have c62b0 : decide ((rd t125 x123_3) < (t114.length : Int)) = true:=decide_eq_true c62;clear c62;have H' := Aside0.mk H;clear H;have p130 : 0 ≤ (x123_3 : Int):=of_decide_eq_true (q2_);have q130 : x123_3 < (t125.length : Int):=of_decide_eq_true (q2_);obtain ⟨ad130,e130,hx130_0⟩:=Kd.at_int (Kd.R_reads' HO_121.out).2.2 x123_3 p130 q130;cases e130;replace p130:=eq_true p130;replace q130:=eq_true q130;have p131 : 0 ≤ ((rd t125 x123_3) : Int):=of_decide_eq_true (q2_);have q131 : (rd t125 x123_3) < (t114.length : Int):=of_decide_eq_true (q2_);obtain ⟨ad131,e131,hx131_0,hx131_1,hx131_2,hx131_3⟩:=at_T26 (Kd.R_reads' HO_9.out).2.2 (rd t125 x123_3) p131 q131;cases e131;replace p131:=eq_true p131;replace q131:=eq_true q131;have hcz63_0 : wr.cell? ⟨gb109,0,none⟩ = some (.string t105):=(blk_cell BK109.out 0).trans rfl;have hcz63_1 : wr.cell? ⟨gb109,1,none⟩ = some (.int .i64 t106):=(blk_cell BK109.out 1).trans rfl;have hcz63_2 : wr.cell? ⟨gb109,2,none⟩ = some (.int .i64 t107):=(blk_cell BK109.out 2).trans rfl;have hcz63_3 : wr.cell? ⟨gb109,3,none⟩ = some (.int .i64 t108):=(blk_cell BK109.out 3).trans rfl;have hfz63_0:=blk_frozen BK109.out 0;have hal63_0:=MAlive.alive_of hcz63_0;have hfz63_1:=blk_frozen BK109.out 1;have hal63_1:=MAlive.alive_of hcz63_1;have hfz63_2:=blk_frozen BK109.out 2;have hal63_2:=MAlive.alive_of hcz63_2;have hfz63_3:=blk_frozen BK109.out 3;have hal63_3:=MAlive.alive_of hcz63_3;go_wp2;repeat (go_quiet (fail);try go_wp2)
                  go_roundg k3
                  case measure=>have:=HJ7.out;have:=HJ42.out;have:=HK3.out;omega
                  case rel=>exact ⟨(((((rd_T26 t114 (rd t125 x123_3)).f0).toList) == t105.toList && (((rd_T26 t114 (rd t125 x123_3)).f1) == t106 && (((rd_T26 t114 (rd t125 x123_3)).f2) == t107 && (((rd_T26 t114 (rd t125 x123_3)).f3) == t108))))),(wrap64 (x123_3 + 1)),(q1_),(q1_),H', ⟨by have:=HJ7.out;have:=HJ42.out;have:=HK3.out;omega⟩,⟨by (with_reducible repeat (first | apply Kd.R_alloc | apply Kd.R_drewN | apply Kd.R_drew));exact HO_9.out⟩,⟨by (with_reducible repeat (first | apply Kd.R_alloc | apply Kd.R_drewN | apply Kd.R_drew));exact HO_121.out⟩,⟨q19_⟩,⟨q43_⟩⟩
                 ·rw [if_neg c62] at H;exact absurd H (by simp)
                ·rw [if_neg c61] at H;exact absurd H (by simp)
              ·rw [if_neg c59] at H;exact absurd H (by simp)
             ·rw [if_neg c58] at H;exact absurd H (by simp)
            ·rw [if_neg c57] at H;have c57b0 : decide (x123_3 < (t125.length : Int)) = false:=decide_eq_false c57;clear c57;by_cases c64 : x15_3 = true
             ·subst c64;have H1 : (laws_FnPeople.j3 k3 l1) = some r:=by rw [if_pos rfl] at H;exact H
              clear H;have H:=H1;clear H1;have H' := Aside0.mk H;clear H;go_wp2;repeat (go_quiet (fail);try go_wp2)
              go_meet
              case rel=>exact ⟨_,H', ⟨by have:=HJ7.out;have:=HJ42.out;have:=HK3.out;first | omega | exact Nat.le_refl _⟩,⟨q19_⟩,⟨q43_⟩⟩
             ·replace c64:=Bool.eq_false_iff.mpr c64;subst c64;have H1 : (some false) = some r:=by rw [if_neg (show ¬ (false = true) by decide)] at H;exact H
              clear H;have H:=H1;clear H1;exact absurd (Option.some.inj H) (by rw [ht_.out];decide)
      ·replace c40:=Bool.eq_false_iff.mpr c40;subst c40;have H1 : (laws_FnPeople.j3 kj7 l1) = some r:=by rw [if_neg (show ¬ (false = true) by decide)] at H;exact H
       clear H;have H:=H1;clear H1;have H' := Aside0.mk H;clear H;go_wp2;repeat (go_quiet (fail);try go_wp2)
       go_meet
       case rel=>exact ⟨_,H', ⟨by have:=HJ7.out;first | omega | exact Nat.le_refl _⟩,⟨q19_⟩,⟨q43_⟩⟩
     case rest=>as_aux_lemma =>
      clear HC39;try clear c1
      try clear c4
      try clear c16
      try clear c16b0
      try clear c16b1
      try clear c16b2
      try clear c18
      try clear c19
      try clear c20
      try clear c20b0
      try clear c20b1
      try clear c22
      try clear c38
      try clear c40
      try clear c50
      try clear c51
      try clear c55
      try clear c57
      try clear c57b0
      try clear c58
      try clear c58b0
      try clear c59
      try clear c59b0
      try clear c60
      try clear c61
      try clear c61b0
      try clear c62
      try clear c62b0
      try clear c64
      try clear hcz11_0
      try clear hcz11_1
      try clear hcz11_2
      try clear hcz11_3
      try clear hcz14_0
      try clear hcz14_1
      try clear hcz14_2
      try clear hcz14_3
      try clear hcz27_0
      try clear hcz27_1
      try clear hcz27_2
      try clear hcz27_3
      try clear hcz44_0
      try clear hcz44_1
      try clear hcz44_2
      try clear hcz44_3
      try clear hcz47_0
      try clear hcz47_1
      try clear hcz47_2
      try clear hcz47_3
      try clear hcz63_0
      try clear hcz63_1
      try clear hcz63_2
      try clear hcz63_3
      try clear hfz11_0
      try clear hfz11_1
      try clear hfz11_2
      try clear hfz11_3
      try clear hfz14_0
      try clear hfz14_1
      try clear hfz14_2
      try clear hfz14_3
      try clear hfz27_0
      try clear hfz27_1
      try clear hfz27_2
      try clear hfz27_3
      try clear hfz44_0
      try clear hfz44_1
      try clear hfz44_2
      try clear hfz44_3
      try clear hfz47_0
      try clear hfz47_1
      try clear hfz47_2
      try clear hfz47_3
      try clear hfz63_0
      try clear hfz63_1
      try clear hfz63_2
      try clear hfz63_3
      try clear hx130_0
      try clear hx131_0
      try clear hx131_1
      try clear hx131_2
      try clear hx131_3
      try clear p130
      try clear p131
      try clear q130
      try clear q131
      obtain ⟨kq,HA,HJ38,BK109,HB⟩:=hcut;cases kq with
      | zero=>exact absurd HA.out (by simp [laws_FnPeople.j3])
      | succ kj38 =>
       have H:=HA.out;clear HA;simp only [laws_FnPeople.j3] at H;replace H:=Option.bind_eq_some_iff.mp H;obtain ⟨⟨t132,t133⟩,A650,H⟩:=H;(try dsimp only at H);have A65:=Aside0.mk A650;clear A650;replace H:=Option.bind_eq_some_iff.mp H;obtain ⟨⟨t136,t137⟩,A660,H⟩:=H;(try dsimp only at H);have A66:=Aside0.mk A660;clear A660;replace H:=Option.bind_eq_some_iff.mp H;obtain ⟨⟨t138,t139⟩,A670,H⟩:=H;(try dsimp only at H);have A67:=Aside0.mk A670;clear A670;have HC68:=Aside0.mk H;clear H;go_upto_region 24 with (first | (go_at_call 17;(with_reducible refine (spec_DrawOldestFor.calls kj38 _ _ l1 t132 t133 _ ?side1 ?side2 A65.out).mono ?_);(case side1=>exact cX_ (Kd.C_below HR1.out HB.out));(case side2=>exact HC1.out);rintro e w69 ⟨v134,rfl,ho0,hb⟩;have HO135:=Aside0.mk (Kd.R_lower (Kd.R_newB ho0 (g:=gb109) (o:=.cells #[.string t105,.int .i64 t106,.int .i64 t107,.int .i64 t108] 26 (0,0)) (q19_)) (below_size (q43_)));replace BK109:=bkB_ BK109 hb;replace HB:=Aside0.mk (below_step (q43_) hb);(try clear hb);(try clear ho0);obtain ⟨Ao70,co70,eo70⟩:=Kd.R_slice HO135.out;subst eo70) | (go_at_call 18;(with_reducible refine (impl_OldestFor.calls kj38 _ _ t132 t133 t136 t137 _ ?side1 ?side2 A66.out).mono ?_);(case side1=>exact cX_ (Kd.R_reads' HO135.out).2.2);(case side2=>exact (Kd.R_reads' HO135.out).2.1);rintro e w71 ⟨rfl,hb⟩;replace HO135:=rB_ HO135 hb;replace BK109:=bkB_ BK109 hb;replace HB:=Aside0.mk (below_step (q43_) hb);(try clear hb)) | (go_at_call 19;(with_reducible refine (spec_OldestFor.calls kj38 _ _ t132 t133 t138 t139 _ ?side1 ?side2 A67.out).mono ?_);(case side1=>exact cX_ (Kd.R_reads' HO135.out).2.2);(case side2=>exact (Kd.R_reads' HO135.out).2.1);rintro e w72 ⟨rfl,hb⟩;replace HO135:=rB_ HO135 hb;replace BK109:=bkB_ BK109 hb;replace HB:=Aside0.mk (below_step (q43_) hb);(try clear hb)))
       repeat (go_quiet (first | (go_at_call 17;(with_reducible refine (spec_DrawOldestFor.calls kj38 _ _ l1 t132 t133 _ ?side1 ?side2 A65.out).mono ?_);(case side1=>exact cX_ (Kd.C_below HR1.out HB.out));(case side2=>exact HC1.out);rintro e w69 ⟨v134,rfl,ho0,hb⟩;have HO135:=Aside0.mk (Kd.R_lower (Kd.R_newB ho0 (g:=gb109) (o:=.cells #[.string t105,.int .i64 t106,.int .i64 t107,.int .i64 t108] 26 (0,0)) (q19_)) (below_size (q43_)));replace BK109:=bkB_ BK109 hb;replace HB:=Aside0.mk (below_step (q43_) hb);(try clear hb);(try clear ho0);obtain ⟨Ao70,co70,eo70⟩:=Kd.R_slice HO135.out;subst eo70) | (go_at_call 18;(with_reducible refine (impl_OldestFor.calls kj38 _ _ t132 t133 t136 t137 _ ?side1 ?side2 A66.out).mono ?_);(case side1=>exact cX_ (Kd.R_reads' HO135.out).2.2);(case side2=>exact (Kd.R_reads' HO135.out).2.1);rintro e w71 ⟨rfl,hb⟩;replace HO135:=rB_ HO135 hb;replace BK109:=bkB_ BK109 hb;replace HB:=Aside0.mk (below_step (q43_) hb);(try clear hb)) | (go_at_call 19;(with_reducible refine (spec_OldestFor.calls kj38 _ _ t132 t133 t138 t139 _ ?side1 ?side2 A67.out).mono ?_);(case side1=>exact cX_ (Kd.R_reads' HO135.out).2.2);(case side2=>exact (Kd.R_reads' HO135.out).2.1);rintro e w72 ⟨rfl,hb⟩;replace HO135:=rB_ HO135 hb;replace BK109:=bkB_ BK109 hb;replace HB:=Aside0.mk (below_step (q43_) hb);(try clear hb)));go_upto_region 24 with (first | (go_at_call 17;(with_reducible refine (spec_DrawOldestFor.calls kj38 _ _ l1 t132 t133 _ ?side1 ?side2 A65.out).mono ?_);(case side1=>exact cX_ (Kd.C_below HR1.out HB.out));(case side2=>exact HC1.out);rintro e w69 ⟨v134,rfl,ho0,hb⟩;have HO135:=Aside0.mk (Kd.R_lower (Kd.R_newB ho0 (g:=gb109) (o:=.cells #[.string t105,.int .i64 t106,.int .i64 t107,.int .i64 t108] 26 (0,0)) (q19_)) (below_size (q43_)));replace BK109:=bkB_ BK109 hb;replace HB:=Aside0.mk (below_step (q43_) hb);(try clear hb);(try clear ho0);obtain ⟨Ao70,co70,eo70⟩:=Kd.R_slice HO135.out;subst eo70) | (go_at_call 18;(with_reducible refine (impl_OldestFor.calls kj38 _ _ t132 t133 t136 t137 _ ?side1 ?side2 A66.out).mono ?_);(case side1=>exact cX_ (Kd.R_reads' HO135.out).2.2);(case side2=>exact (Kd.R_reads' HO135.out).2.1);rintro e w71 ⟨rfl,hb⟩;replace HO135:=rB_ HO135 hb;replace BK109:=bkB_ BK109 hb;replace HB:=Aside0.mk (below_step (q43_) hb);(try clear hb)) | (go_at_call 19;(with_reducible refine (spec_OldestFor.calls kj38 _ _ t132 t133 t138 t139 _ ?side1 ?side2 A67.out).mono ?_);(case side1=>exact cX_ (Kd.R_reads' HO135.out).2.2);(case side2=>exact (Kd.R_reads' HO135.out).2.1);rintro e w72 ⟨rfl,hb⟩;replace HO135:=rB_ HO135 hb;replace BK109:=bkB_ BK109 hb;replace HB:=Aside0.mk (below_step (q43_) hb);(try clear hb))))
       (try simp only [Act.put,List.setIfInBounds_toArray,List.set_cons_zero,List.set_cons_succ])
       go_cut [163] (fun v163 wc=>∃ (kq : Nat) (x163_67 : Bool),v163 = .bool x163_67 ∧ Aside0 (laws_FnPeople.j4 kq l1 t132 t133 t137 t138 x163_67 = some r) ∧ Aside0 (kq ≤ kj38) ∧ Aside0 (Kd.R k26 26 wc w.heap.size (fun k_=>k_ ≠ gb109) (.slice Ao70 t132.length co70) t132) ∧ Aside0 (wc.heap[gb109]? = some (.cells #[.string t105,.int .i64 t106,.int .i64 t107,.int .i64 t108] 26 (0,0))) ∧ Aside0 (Below w.heap.size w wc))
       case first=>as_aux_lemma =>
        have H:=HC68.out;clear HC68;by_cases c73 : (t137 != t139) = true
        ·rw [if_pos c73] at H;have c73b0 : (t137 != t139) = true:=c73
         (try (have c73b1 : decide (t137 = t139) = false:=by simpa using c73))
         (try (have c73b2 : (t137 == t139) = false:=by simpa using c73))
         (try (have c73b3 : ¬ (t137 = t139):=by simpa using c73))
         clear c73
         (first | rw [c73b0] | (simp only [i64_w,i32_w];rw [c73b0]) | skip)
         first | with_reducible exact (laws_FnPeople.j0_no H ht_.out).elim | with_reducible exact (laws_FnPeople.j4_no H ht_.out).elim | with_reducible exact (laws_FnPeople.j7_no H ht_.out).elim | with_reducible exact (laws_FnPeople.j1_no H ht_.out).elim
        ·rw [if_neg c73] at H;have c73b0 : (t137 != t139) = false:=by simpa using c73
         (try (have c73b1 : decide (t137 = t139) = true:=by simpa using c73))
         (try (have c73b2 : (t137 == t139) = true:=by simpa using c73))
         clear c73
         (first | rw [c73b0] | (simp only [i64_w,i32_w];rw [c73b0]) | skip)
         have H' := Aside0.mk H;clear H;go_wp2;repeat (go_quiet (fail);try go_wp2)
         go_meet
         case rel=>exact ⟨_,((t136 != t138)),(q1_),H', ⟨by have:=HJ7.out;have:=HJ38.out;first | omega | exact Nat.le_refl _⟩,⟨by (with_reducible repeat (first | apply Kd.R_alloc | apply Kd.R_drewN | apply Kd.R_drew));exact Kd.R_mono HO135.out (fun _ hk=>hk.2)⟩,⟨q19_⟩,⟨q43_⟩⟩
       case rest=>as_aux_lemma =>
        clear HC68;try clear c1
        try clear c4
        try clear c16
        try clear c16b0
        try clear c16b1
        try clear c16b2
        try clear c18
        try clear c19
        try clear c20
        try clear c20b0
        try clear c20b1
        try clear c22
        try clear c38
        try clear c40
        try clear c50
        try clear c51
        try clear c55
        try clear c57
        try clear c57b0
        try clear c58
        try clear c58b0
        try clear c59
        try clear c59b0
        try clear c60
        try clear c61
        try clear c61b0
        try clear c62
        try clear c62b0
        try clear c64
        try clear c73
        try clear c73b0
        try clear c73b1
        try clear c73b2
        try clear hcz11_0
        try clear hcz11_1
        try clear hcz11_2
        try clear hcz11_3
        try clear hcz14_0
        try clear hcz14_1
        try clear hcz14_2
        try clear hcz14_3
        try clear hcz27_0
        try clear hcz27_1
        try clear hcz27_2
        try clear hcz27_3
        try clear hcz44_0
        try clear hcz44_1
        try clear hcz44_2
        try clear hcz44_3
        try clear hcz47_0
        try clear hcz47_1
        try clear hcz47_2
        try clear hcz47_3
        try clear hcz63_0
        try clear hcz63_1
        try clear hcz63_2
        try clear hcz63_3
        try clear hfz11_0
        try clear hfz11_1
        try clear hfz11_2
        try clear hfz11_3
        try clear hfz14_0
        try clear hfz14_1
        try clear hfz14_2
        try clear hfz14_3
        try clear hfz27_0
        try clear hfz27_1
        try clear hfz27_2
        try clear hfz27_3
        try clear hfz44_0
        try clear hfz44_1
        try clear hfz44_2
        try clear hfz44_3
        try clear hfz47_0
        try clear hfz47_1
        try clear hfz47_2
        try clear hfz47_3
        try clear hfz63_0
        try clear hfz63_1
        try clear hfz63_2
        try clear hfz63_3
        try clear hx130_0
        try clear hx131_0
        try clear hx131_1
        try clear hx131_2
        try clear hx131_3
        try clear p130
        try clear p131
        try clear q130
        try clear q131
        obtain ⟨kq,x163_67,rfl,HA,HJ67,HO_18,BK109,HB⟩:=hcut;cases kq with
        | zero=>exact absurd HA.out (by simp [laws_FnPeople.j4])
        | succ kj67 =>
         have H:=HA.out;clear HA;simp only [laws_FnPeople.j4] at H;by_cases c74 : x163_67 = true
         ·subst c74;have H1 : (some false) = some r:=by rw [if_pos rfl] at H;exact H
          clear H;have H:=H1;clear H1;exact absurd (Option.some.inj H) (by rw [ht_.out];decide)
         ·replace c74:=Bool.eq_false_iff.mpr c74;subst c74;have H1 : (if t137 = true then (laws_FnPeople.l1 kj67 l1 t132 t133 t138 t132 (t132.length : Int) 0) else (laws_FnPeople.j6 kj67 l1)) = some r:=by rw [if_neg (show ¬ (false = true) by decide)] at H;exact H
          clear H;have H:=H1;clear H1;have HC75:=Aside0.mk H;clear H;go_upto_if 164 with (fail)
          repeat (go_quiet (fail);go_upto_if 164 with (fail))
          go_cut [] (fun wc=>∃ (kq : Nat),Aside0 (laws_FnPeople.j6 kq l1 = some r) ∧ Aside0 (kq ≤ kj67) ∧ Aside0 (wc.heap[gb109]? = some (.cells #[.string t105,.int .i64 t106,.int .i64 t107,.int .i64 t108] 26 (0,0))) ∧ Aside0 (Below w.heap.size w wc))
          case first=>as_aux_lemma =>
           have H:=HC75.out;clear HC75;by_cases c76 : t137 = true
           ·subst c76;have H1 : (laws_FnPeople.l1 kj67 l1 t132 t133 t138 t132 (t132.length : Int) 0) = some r:=by rw [if_pos rfl] at H;exact H
            clear H;have H:=H1;clear H1;have H' := Aside0.mk H;clear H;go_wp2;repeat (go_quiet (fail);try go_wp2)
            go_loopg [167] kj67 (fun kq v167 w' => ∃ (x167_4 : Int),v167 = .int .i64 x167_4 ∧ Aside0 (laws_FnPeople.l1 kq l1 t132 t133 t138 t132 (t132.length : Int) x167_4 = some r) ∧ Aside0 (kq ≤ kj67) ∧ Aside0 (Kd.R k26 26 w' w.heap.size (fun k_=>k_ ≠ gb109) (.slice Ao70 t132.length co70) t132) ∧ Aside0 (Kd.R k26 26 w' w.heap.size (fun k_=>k_ ≠ gb109) (.slice Ao70 t132.length co70) t132) ∧ Aside0 (w'.heap[gb109]? = some (.cells #[.string t105,.int .i64 t106,.int .i64 t107,.int .i64 t108] 26 (0,0))) ∧ Aside0 (Below w.heap.size w w'))
            case atStart=>exact ⟨(0),(q1_),H', ⟨Nat.le_refl _⟩,⟨q16_⟩,⟨q16_⟩,⟨q19_⟩,⟨q43_⟩⟩
            case round =>
             clear H';try clear c1
             try clear c4
             try clear c16
             try clear c16b0
             try clear c16b1
             try clear c16b2
             try clear c18
             try clear c19
             try clear c20
             try clear c20b0
             try clear c20b1
             try clear c22
             try clear c38
             try clear c40
             try clear c50
             try clear c51
             try clear c55
             try clear c57
             try clear c57b0
             try clear c58
             try clear c58b0
             try clear c59
             try clear c59b0
             try clear c60
             try clear c61
             try clear c61b0
             try clear c62
             try clear c62b0
             try clear c64
             try clear c73
             try clear c73b0
             try clear c73b1
             try clear c73b2
             try clear c74
             try clear c76
             try clear hcz11_0
             try clear hcz11_1
             try clear hcz11_2
             try clear hcz11_3
             try clear hcz14_0
             try clear hcz14_1
             try clear hcz14_2
             try clear hcz14_3
             try clear hcz27_0
             try clear hcz27_1
             try clear hcz27_2
             try clear hcz27_3
             try clear hcz44_0
             try clear hcz44_1
             try clear hcz44_2
             try clear hcz44_3
             try clear hcz47_0
             try clear hcz47_1
             try clear hcz47_2
             try clear hcz47_3
             try clear hcz63_0
             try clear hcz63_1
             try clear hcz63_2
             try clear hcz63_3
             try clear hfz11_0
             try clear hfz11_1
             try clear hfz11_2
             try clear hfz11_3
             try clear hfz14_0
             try clear hfz14_1
             try clear hfz14_2
             try clear hfz14_3
             try clear hfz27_0
             try clear hfz27_1
             try clear hfz27_2
             try clear hfz27_3
             try clear hfz44_0
             try clear hfz44_1
             try clear hfz44_2
             try clear hfz44_3
             try clear hfz47_0
             try clear hfz47_1
             try clear hfz47_2
             try clear hfz47_3
             try clear hfz63_0
             try clear hfz63_1
             try clear hfz63_2
             try clear hfz63_3
             try clear hx130_0
             try clear hx131_0
             try clear hx131_1
             try clear hx131_2
             try clear hx131_3
             try clear p130
             try clear p131
             try clear q130
             try clear q131
             obtain ⟨x167_4,rfl,HA,HK4,HO_18,HO_165,BK109,HB⟩:=hrel;cases gk with
             | zero=>exact absurd HA.out (by simp [laws_FnPeople.l1])
             | succ k4 =>
              have H:=HA.out;clear HA;simp only [laws_FnPeople.l1] at H;by_cases c77 : x167_4 < (t132.length : Int)
              ·rw [if_pos c77] at H;have c77b0 : decide (x167_4 < (t132.length : Int)) = true:=decide_eq_true c77;clear c77
               (first | rw [c77b0] | (simp only [i64_w,i32_w];rw [c77b0]) | skip)
               by_cases c78 : 0 ≤ x167_4
               ·rw [if_pos c78] at H;have c78b0 : decide (0 ≤ x167_4) = true:=decide_eq_true c78;clear c78;by_cases c79 : x167_4 < (t132.length : Int)
                ·rw [if_pos c79] at H;have c79b0 : decide (x167_4 < (t132.length : Int)) = true:=decide_eq_true c79;clear c79;by_cases c80 : ((rd_T26 t132 x167_4).f1) = t133
                 ·rw [if_pos c80] at H;have c80b0 : (((rd_T26 t132 x167_4).f1) == t133) = true:=beq_iff_eq.mpr c80;have c80b1 : (((rd_T26 t132 x167_4).f1) != t133) = false:=bne_eq_false_iff_eq.mpr c80;clear c80;by_cases c81 : 0 ≤ t138
                  ·rw [if_pos c81] at H;have c81b0 : decide (0 ≤ t138) = true:=decide_eq_true c81;clear c81;by_cases c82 : t138 < (t132.length : Int)
                   ·rw [if_pos c82] at H;have c82b0 : decide (t138 < (t132.length : Int)) = true:=decide_eq_true c82;clear c82;by_cases c83 : ((rd_T26 t132 x167_4).f3) < ((rd_T26 t132 t138).f3)
                    ·rw [if_pos c83] at H;have c83b0 : decide (((rd_T26 t132 x167_4).f3) < ((rd_T26 t132 t138).f3)) = true:=decide_eq_true c83;clear c83;exact absurd (Option.some.inj H) (by rw [ht_.out];decide)
                    ·rw [if_neg c83] at H;have c83b0 : decide (((rd_T26 t132 x167_4).f3) < ((rd_T26 t132 t138).f3)) = false:=decide_eq_false c83;clear c83;by_cases c84 : ((rd_T26 t132 x167_4).f3) = ((rd_T26 t132 t138).f3)
                     ·rw [if_pos c84] at H;have c84b0 : (((rd_T26 t132 x167_4).f3) == ((rd_T26 t132 t138).f3)) = true:=beq_iff_eq.mpr c84;have c84b1 : (((rd_T26 t132 x167_4).f3) != ((rd_T26 t132 t138).f3)) = false:=bne_eq_false_iff_eq.mpr c84;clear c84;by_cases c85 : x167_4 < t138
                      ·rw [if_pos c85] at H;have c85b0 : decide (x167_4 < t138) = true:=decide_eq_true c85;clear c85;exact absurd (Option.some.inj H) (by rw [ht_.out];decide)
                      ·rw [if_neg c85] at H;have c85b0 : decide (x167_4 < t138) = false:=decide_eq_false c85;clear c85;have H' := Aside0.mk H;clear H;have p140 : 0 ≤ (x167_4 : Int):=of_decide_eq_true (q2_);have q140 : x167_4 < (t132.length : Int):=of_decide_eq_true (q2_);obtain ⟨ad140,e140,hx140_0,hx140_1,hx140_2,hx140_3⟩:=at_T26 (Kd.R_reads' HO_165.out).2.2 x167_4 p140 q140;cases e140;replace p140:=eq_true p140;replace q140:=eq_true q140;go_wp2_with (first | ((with_reducible refine gate_dst (N:=25) rfl ?_);(try (refine gate_guard (by rfl) ?_;dsimp only));refine box_event ?hg (N:=25) ?hd (cs:=#[.string (⟨#[]⟩ : ByteArray),.int .i64 0,.int .i64 0,.int .i64 0]) (t:=26) ?hr ?_;(case hd=>rfl);(case hg=>rfl);(case hr=>first | (go_simp;done) | (go_simp;rfl));intro gb141 hg w86 hbox hb;replace HO_18:=Aside0.mk (Kd.R_below (Kd.R_elderB (q16_) gb141 (Nat.le_of_eq hg.symm)) hb);replace HO_165:=Aside0.mk (Kd.R_below (Kd.R_elderB (q17_) gb141 (Nat.le_of_eq hg.symm)) hb);have BK141:=Aside0.mk (hbox);have GW141:=Aside0.mk ((by rw [hg];exact (below_size (q43_)) : w.heap.size ≤ gb141));have GE141:=Aside0.mk ((by rw [hg];exact (below_size (q43_)) : w.heap.size ≤ gb141));replace HB:=Aside0.mk (below_step (q43_) hb);have NB109_141:=Aside0.mk ((q65_ : gb109 ≠ gb141));have NB141_109:=Aside0.mk ((q66_ : gb141 ≠ gb109));replace BK109:=bkB_ BK109 hb;clear hb hbox hg;have hnb87:=NB141_109.out;have hnc87:=NB109_141.out;have hcz88_0 : w86.cell? ⟨gb141,0,none⟩ = some (.string (⟨#[]⟩ : ByteArray)):=(blk_cell BK141.out 0).trans rfl;have hcz88_1 : w86.cell? ⟨gb141,1,none⟩ = some (.int .i64 0):=(blk_cell BK141.out 1).trans rfl;have hcz88_2 : w86.cell? ⟨gb141,2,none⟩ = some (.int .i64 0):=(blk_cell BK141.out 2).trans rfl;have hcz88_3 : w86.cell? ⟨gb141,3,none⟩ = some (.int .i64 0):=(blk_cell BK141.out 3).trans rfl;have hfz88_0:=blk_frozen BK141.out 0;have hal88_0:=MAlive.alive_of hcz88_0;have hfz88_1:=blk_frozen BK141.out 1;have hal88_1:=MAlive.alive_of hcz88_1;have hfz88_2:=blk_frozen BK141.out 2;have hal88_2:=MAlive.alive_of hcz88_2;have hfz88_3:=blk_frozen BK141.out 3;have hal88_3:=MAlive.alive_of hcz88_3;have p142 : 0 ≤ (t138 : Int):=of_decide_eq_true (q2_);have q142 : t138 < (t132.length : Int):=of_decide_eq_true (q2_);obtain ⟨ad142,e142,hx142_0,hx142_1,hx142_2,hx142_3⟩:=at_T26 (Kd.R_reads' HO_18.out).2.2 t138 p142 q142;obtain rfl : ad140 = ad142:=(by injection e142);have hn142_0 : ad140.block ≠ gb141:=(HO_18.out.1 _ rfl).2;have hn142_1 : ad140.block ≠ gb141:=(HO_18.out.1 _ rfl).2;have hn142_2 : ad140.block ≠ gb141:=(HO_18.out.1 _ rfl).2;have hn142_3 : ad140.block ≠ gb141:=(HO_18.out.1 _ rfl).2;replace hx142_0:=(cell_far (p:=⟨gb141,0,none⟩) (q20_) (.string ((rd_T26 t132 x167_4).f0))).trans hx142_0;replace hx142_1:=(cell_far (p:=⟨gb141,0,none⟩) (q20_) (.string ((rd_T26 t132 x167_4).f0))).trans hx142_1;replace hx142_2:=(cell_far (p:=⟨gb141,0,none⟩) (q20_) (.string ((rd_T26 t132 x167_4).f0))).trans hx142_2;replace hx142_3:=(cell_far (p:=⟨gb141,0,none⟩) (q20_) (.string ((rd_T26 t132 x167_4).f0))).trans hx142_3;replace hx142_0:=(cell_far (p:=⟨gb141,1,none⟩) (q21_) (.int .i64 ((rd_T26 t132 x167_4).f1))).trans hx142_0;replace hx142_1:=(cell_far (p:=⟨gb141,1,none⟩) (q21_) (.int .i64 ((rd_T26 t132 x167_4).f1))).trans hx142_1;replace hx142_2:=(cell_far (p:=⟨gb141,1,none⟩) (q21_) (.int .i64 ((rd_T26 t132 x167_4).f1))).trans hx142_2;replace hx142_3:=(cell_far (p:=⟨gb141,1,none⟩) (q21_) (.int .i64 ((rd_T26 t132 x167_4).f1))).trans hx142_3;replace hx142_0:=(cell_far (p:=⟨gb141,2,none⟩) (q22_) (.int .i64 ((rd_T26 t132 x167_4).f2))).trans hx142_0;replace hx142_1:=(cell_far (p:=⟨gb141,2,none⟩) (q22_) (.int .i64 ((rd_T26 t132 x167_4).f2))).trans hx142_1;replace hx142_2:=(cell_far (p:=⟨gb141,2,none⟩) (q22_) (.int .i64 ((rd_T26 t132 x167_4).f2))).trans hx142_2;replace hx142_3:=(cell_far (p:=⟨gb141,2,none⟩) (q22_) (.int .i64 ((rd_T26 t132 x167_4).f2))).trans hx142_3;replace hx142_0:=(cell_far (p:=⟨gb141,3,none⟩) (q23_) (.int .i64 ((rd_T26 t132 x167_4).f3))).trans hx142_0;replace hx142_1:=(cell_far (p:=⟨gb141,3,none⟩) (q23_) (.int .i64 ((rd_T26 t132 x167_4).f3))).trans hx142_1;replace hx142_2:=(cell_far (p:=⟨gb141,3,none⟩) (q23_) (.int .i64 ((rd_T26 t132 x167_4).f3))).trans hx142_2;replace hx142_3:=(cell_far (p:=⟨gb141,3,none⟩) (q23_) (.int .i64 ((rd_T26 t132 x167_4).f3))).trans hx142_3;(try have hy142_0:=fun (n_ : Nat)=>(show ((((((w86.drewN n_).setCell ⟨gb141,0,none⟩ (.string ((rd_T26 t132 x167_4).f0))).setCell ⟨gb141,1,none⟩ (.int .i64 ((rd_T26 t132 x167_4).f1))).setCell ⟨gb141,2,none⟩ (.int .i64 ((rd_T26 t132 x167_4).f2))).setCell ⟨gb141,3,none⟩ (.int .i64 ((rd_T26 t132 x167_4).f3)))).cell? _ = some _ from hx142_0));(try have hy142_1:=fun (n_ : Nat)=>(show ((((((w86.drewN n_).setCell ⟨gb141,0,none⟩ (.string ((rd_T26 t132 x167_4).f0))).setCell ⟨gb141,1,none⟩ (.int .i64 ((rd_T26 t132 x167_4).f1))).setCell ⟨gb141,2,none⟩ (.int .i64 ((rd_T26 t132 x167_4).f2))).setCell ⟨gb141,3,none⟩ (.int .i64 ((rd_T26 t132 x167_4).f3)))).cell? _ = some _ from hx142_1));(try have hy142_2:=fun (n_ : Nat)=>(show ((((((w86.drewN n_).setCell ⟨gb141,0,none⟩ (.string ((rd_T26 t132 x167_4).f0))).setCell ⟨gb141,1,none⟩ (.int .i64 ((rd_T26 t132 x167_4).f1))).setCell ⟨gb141,2,none⟩ (.int .i64 ((rd_T26 t132 x167_4).f2))).setCell ⟨gb141,3,none⟩ (.int .i64 ((rd_T26 t132 x167_4).f3)))).cell? _ = some _ from hx142_2));(try have hy142_3:=fun (n_ : Nat)=>(show ((((((w86.drewN n_).setCell ⟨gb141,0,none⟩ (.string ((rd_T26 t132 x167_4).f0))).setCell ⟨gb141,1,none⟩ (.int .i64 ((rd_T26 t132 x167_4).f1))).setCell ⟨gb141,2,none⟩ (.int .i64 ((rd_T26 t132 x167_4).f2))).setCell ⟨gb141,3,none⟩ (.int .i64 ((rd_T26 t132 x167_4).f3)))).cell? _ = some _ from hx142_3));clear hn142_0;clear hn142_1;clear hn142_2;clear hn142_3;replace p142:=eq_true p142;replace q142:=eq_true q142;have p143 : 0 ≤ (t138 : Int):=of_decide_eq_true (q2_);have q143 : t138 < (t132.length : Int):=of_decide_eq_true (q2_);obtain ⟨ad143,e143,hx143_0,hx143_1,hx143_2,hx143_3⟩:=at_T26 (Kd.R_reads' HO_18.out).2.2 t138 p143 q143;obtain rfl : ad140 = ad143:=(by injection e143);have hn143_0 : ad140.block ≠ gb141:=(HO_18.out.1 _ rfl).2;have hn143_1 : ad140.block ≠ gb141:=(HO_18.out.1 _ rfl).2;have hn143_2 : ad140.block ≠ gb141:=(HO_18.out.1 _ rfl).2;have hn143_3 : ad140.block ≠ gb141:=(HO_18.out.1 _ rfl).2;replace hx143_0:=(cell_far (p:=⟨gb141,0,none⟩) (q24_) (.string ((rd_T26 t132 x167_4).f0))).trans hx143_0;replace hx143_1:=(cell_far (p:=⟨gb141,0,none⟩) (q24_) (.string ((rd_T26 t132 x167_4).f0))).trans hx143_1;replace hx143_2:=(cell_far (p:=⟨gb141,0,none⟩) (q24_) (.string ((rd_T26 t132 x167_4).f0))).trans hx143_2;replace hx143_3:=(cell_far (p:=⟨gb141,0,none⟩) (q24_) (.string ((rd_T26 t132 x167_4).f0))).trans hx143_3;replace hx143_0:=(cell_far (p:=⟨gb141,1,none⟩) (q25_) (.int .i64 ((rd_T26 t132 x167_4).f1))).trans hx143_0;replace hx143_1:=(cell_far (p:=⟨gb141,1,none⟩) (q25_) (.int .i64 ((rd_T26 t132 x167_4).f1))).trans hx143_1;replace hx143_2:=(cell_far (p:=⟨gb141,1,none⟩) (q25_) (.int .i64 ((rd_T26 t132 x167_4).f1))).trans hx143_2;replace hx143_3:=(cell_far (p:=⟨gb141,1,none⟩) (q25_) (.int .i64 ((rd_T26 t132 x167_4).f1))).trans hx143_3;replace hx143_0:=(cell_far (p:=⟨gb141,2,none⟩) (q26_) (.int .i64 ((rd_T26 t132 x167_4).f2))).trans hx143_0;replace hx143_1:=(cell_far (p:=⟨gb141,2,none⟩) (q26_) (.int .i64 ((rd_T26 t132 x167_4).f2))).trans hx143_1;replace hx143_2:=(cell_far (p:=⟨gb141,2,none⟩) (q26_) (.int .i64 ((rd_T26 t132 x167_4).f2))).trans hx143_2;replace hx143_3:=(cell_far (p:=⟨gb141,2,none⟩) (q26_) (.int .i64 ((rd_T26 t132 x167_4).f2))).trans hx143_3;replace hx143_0:=(cell_far (p:=⟨gb141,3,none⟩) (q27_) (.int .i64 ((rd_T26 t132 x167_4).f3))).trans hx143_0;replace hx143_1:=(cell_far (p:=⟨gb141,3,none⟩) (q27_) (.int .i64 ((rd_T26 t132 x167_4).f3))).trans hx143_1;replace hx143_2:=(cell_far (p:=⟨gb141,3,none⟩) (q27_) (.int .i64 ((rd_T26 t132 x167_4).f3))).trans hx143_2;replace hx143_3:=(cell_far (p:=⟨gb141,3,none⟩) (q27_) (.int .i64 ((rd_T26 t132 x167_4).f3))).trans hx143_3;(try have hy143_0:=fun (n_ : Nat)=>(show ((((((w86.drewN n_).setCell ⟨gb141,0,none⟩ (.string ((rd_T26 t132 x167_4).f0))).setCell ⟨gb141,1,none⟩ (.int .i64 ((rd_T26 t132 x167_4).f1))).setCell ⟨gb141,2,none⟩ (.int .i64 ((rd_T26 t132 x167_4).f2))).setCell ⟨gb141,3,none⟩ (.int .i64 ((rd_T26 t132 x167_4).f3)))).cell? _ = some _ from hx143_0));(try have hy143_1:=fun (n_ : Nat)=>(show ((((((w86.drewN n_).setCell ⟨gb141,0,none⟩ (.string ((rd_T26 t132 x167_4).f0))).setCell ⟨gb141,1,none⟩ (.int .i64 ((rd_T26 t132 x167_4).f1))).setCell ⟨gb141,2,none⟩ (.int .i64 ((rd_T26 t132 x167_4).f2))).setCell ⟨gb141,3,none⟩ (.int .i64 ((rd_T26 t132 x167_4).f3)))).cell? _ = some _ from hx143_1));(try have hy143_2:=fun (n_ : Nat)=>(show ((((((w86.drewN n_).setCell ⟨gb141,0,none⟩ (.string ((rd_T26 t132 x167_4).f0))).setCell ⟨gb141,1,none⟩ (.int .i64 ((rd_T26 t132 x167_4).f1))).setCell ⟨gb141,2,none⟩ (.int .i64 ((rd_T26 t132 x167_4).f2))).setCell ⟨gb141,3,none⟩ (.int .i64 ((rd_T26 t132 x167_4).f3)))).cell? _ = some _ from hx143_2));(try have hy143_3:=fun (n_ : Nat)=>(show ((((((w86.drewN n_).setCell ⟨gb141,0,none⟩ (.string ((rd_T26 t132 x167_4).f0))).setCell ⟨gb141,1,none⟩ (.int .i64 ((rd_T26 t132 x167_4).f1))).setCell ⟨gb141,2,none⟩ (.int .i64 ((rd_T26 t132 x167_4).f2))).setCell ⟨gb141,3,none⟩ (.int .i64 ((rd_T26 t132 x167_4).f3)))).cell? _ = some _ from hx143_3));clear hn143_0;clear hn143_1;clear hn143_2;clear hn143_3;replace p143:=eq_true p143;replace q143:=eq_true q143))
                       repeat (go_quiet (first | ((with_reducible refine gate_dst (N:=25) rfl ?_);(try (refine gate_guard (by rfl) ?_;dsimp only));refine box_event ?hg (N:=25) ?hd (cs:=#[.string (⟨#[]⟩ : ByteArray),.int .i64 0,.int .i64 0,.int .i64 0]) (t:=26) ?hr ?_;(case hd=>rfl);(case hg=>rfl);(case hr=>first | (go_simp;done) | (go_simp;rfl));intro gb141 hg w86 hbox hb;replace HO_18:=Aside0.mk (Kd.R_below (Kd.R_elderB (q16_) gb141 (Nat.le_of_eq hg.symm)) hb);replace HO_165:=Aside0.mk (Kd.R_below (Kd.R_elderB (q17_) gb141 (Nat.le_of_eq hg.symm)) hb);have BK141:=Aside0.mk (hbox);have GW141:=Aside0.mk ((by rw [hg];exact (below_size (q43_)) : w.heap.size ≤ gb141));have GE141:=Aside0.mk ((by rw [hg];exact (below_size (q43_)) : w.heap.size ≤ gb141));replace HB:=Aside0.mk (below_step (q43_) hb);have NB109_141:=Aside0.mk ((q65_ : gb109 ≠ gb141));have NB141_109:=Aside0.mk ((q66_ : gb141 ≠ gb109));replace BK109:=bkB_ BK109 hb;clear hb hbox hg;have hnb87:=NB141_109.out;have hnc87:=NB109_141.out;have hcz88_0 : w86.cell? ⟨gb141,0,none⟩ = some (.string (⟨#[]⟩ : ByteArray)):=(blk_cell BK141.out 0).trans rfl;have hcz88_1 : w86.cell? ⟨gb141,1,none⟩ = some (.int .i64 0):=(blk_cell BK141.out 1).trans rfl;have hcz88_2 : w86.cell? ⟨gb141,2,none⟩ = some (.int .i64 0):=(blk_cell BK141.out 2).trans rfl;have hcz88_3 : w86.cell? ⟨gb141,3,none⟩ = some (.int .i64 0):=(blk_cell BK141.out 3).trans rfl;have hfz88_0:=blk_frozen BK141.out 0;have hal88_0:=MAlive.alive_of hcz88_0;have hfz88_1:=blk_frozen BK141.out 1;have hal88_1:=MAlive.alive_of hcz88_1;have hfz88_2:=blk_frozen BK141.out 2;have hal88_2:=MAlive.alive_of hcz88_2;have hfz88_3:=blk_frozen BK141.out 3;have hal88_3:=MAlive.alive_of hcz88_3;have p142 : 0 ≤ (t138 : Int):=of_decide_eq_true (q2_);have q142 : t138 < (t132.length : Int):=of_decide_eq_true (q2_);obtain ⟨ad142,e142,hx142_0,hx142_1,hx142_2,hx142_3⟩:=at_T26 (Kd.R_reads' HO_18.out).2.2 t138 p142 q142;obtain rfl : ad140 = ad142:=(by injection e142);have hn142_0 : ad140.block ≠ gb141:=(HO_18.out.1 _ rfl).2;have hn142_1 : ad140.block ≠ gb141:=(HO_18.out.1 _ rfl).2;have hn142_2 : ad140.block ≠ gb141:=(HO_18.out.1 _ rfl).2;have hn142_3 : ad140.block ≠ gb141:=(HO_18.out.1 _ rfl).2;replace hx142_0:=(cell_far (p:=⟨gb141,0,none⟩) (q20_) (.string ((rd_T26 t132 x167_4).f0))).trans hx142_0;replace hx142_1:=(cell_far (p:=⟨gb141,0,none⟩) (q20_) (.string ((rd_T26 t132 x167_4).f0))).trans hx142_1;replace hx142_2:=(cell_far (p:=⟨gb141,0,none⟩) (q20_) (.string ((rd_T26 t132 x167_4).f0))).trans hx142_2;replace hx142_3:=(cell_far (p:=⟨gb141,0,none⟩) (q20_) (.string ((rd_T26 t132 x167_4).f0))).trans hx142_3;replace hx142_0:=(cell_far (p:=⟨gb141,1,none⟩) (q21_) (.int .i64 ((rd_T26 t132 x167_4).f1))).trans hx142_0;replace hx142_1:=(cell_far (p:=⟨gb141,1,none⟩) (q21_) (.int .i64 ((rd_T26 t132 x167_4).f1))).trans hx142_1;replace hx142_2:=(cell_far (p:=⟨gb141,1,none⟩) (q21_) (.int .i64 ((rd_T26 t132 x167_4).f1))).trans hx142_2;replace hx142_3:=(cell_far (p:=⟨gb141,1,none⟩) (q21_) (.int .i64 ((rd_T26 t132 x167_4).f1))).trans hx142_3;replace hx142_0:=(cell_far (p:=⟨gb141,2,none⟩) (q22_) (.int .i64 ((rd_T26 t132 x167_4).f2))).trans hx142_0;replace hx142_1:=(cell_far (p:=⟨gb141,2,none⟩) (q22_) (.int .i64 ((rd_T26 t132 x167_4).f2))).trans hx142_1;replace hx142_2:=(cell_far (p:=⟨gb141,2,none⟩) (q22_) (.int .i64 ((rd_T26 t132 x167_4).f2))).trans hx142_2;replace hx142_3:=(cell_far (p:=⟨gb141,2,none⟩) (q22_) (.int .i64 ((rd_T26 t132 x167_4).f2))).trans hx142_3;replace hx142_0:=(cell_far (p:=⟨gb141,3,none⟩) (q23_) (.int .i64 ((rd_T26 t132 x167_4).f3))).trans hx142_0;replace hx142_1:=(cell_far (p:=⟨gb141,3,none⟩) (q23_) (.int .i64 ((rd_T26 t132 x167_4).f3))).trans hx142_1;replace hx142_2:=(cell_far (p:=⟨gb141,3,none⟩) (q23_) (.int .i64 ((rd_T26 t132 x167_4).f3))).trans hx142_2;replace hx142_3:=(cell_far (p:=⟨gb141,3,none⟩) (q23_) (.int .i64 ((rd_T26 t132 x167_4).f3))).trans hx142_3;(try have hy142_0:=fun (n_ : Nat)=>(show ((((((w86.drewN n_).setCell ⟨gb141,0,none⟩ (.string ((rd_T26 t132 x167_4).f0))).setCell ⟨gb141,1,none⟩ (.int .i64 ((rd_T26 t132 x167_4).f1))).setCell ⟨gb141,2,none⟩ (.int .i64 ((rd_T26 t132 x167_4).f2))).setCell ⟨gb141,3,none⟩ (.int .i64 ((rd_T26 t132 x167_4).f3)))).cell? _ = some _ from hx142_0));(try have hy142_1:=fun (n_ : Nat)=>(show ((((((w86.drewN n_).setCell ⟨gb141,0,none⟩ (.string ((rd_T26 t132 x167_4).f0))).setCell ⟨gb141,1,none⟩ (.int .i64 ((rd_T26 t132 x167_4).f1))).setCell ⟨gb141,2,none⟩ (.int .i64 ((rd_T26 t132 x167_4).f2))).setCell ⟨gb141,3,none⟩ (.int .i64 ((rd_T26 t132 x167_4).f3)))).cell? _ = some _ from hx142_1));(try have hy142_2:=fun (n_ : Nat)=>(show ((((((w86.drewN n_).setCell ⟨gb141,0,none⟩ (.string ((rd_T26 t132 x167_4).f0))).setCell ⟨gb141,1,none⟩ (.int .i64 ((rd_T26 t132 x167_4).f1))).setCell ⟨gb141,2,none⟩ (.int .i64 ((rd_T26 t132 x167_4).f2))).setCell ⟨gb141,3,none⟩ (.int .i64 ((rd_T26 t132 x167_4).f3)))).cell? _ = some _ from hx142_2));(try have hy142_3:=fun (n_ : Nat)=>(show ((((((w86.drewN n_).setCell ⟨gb141,0,none⟩ (.string ((rd_T26 t132 x167_4).f0))).setCell ⟨gb141,1,none⟩ (.int .i64 ((rd_T26 t132 x167_4).f1))).setCell ⟨gb141,2,none⟩ (.int .i64 ((rd_T26 t132 x167_4).f2))).setCell ⟨gb141,3,none⟩ (.int .i64 ((rd_T26 t132 x167_4).f3)))).cell? _ = some _ from hx142_3));clear hn142_0;clear hn142_1;clear hn142_2;clear hn142_3;replace p142:=eq_true p142;replace q142:=eq_true q142;have p143 : 0 ≤ (t138 : Int):=of_decide_eq_true (q2_);have q143 : t138 < (t132.length : Int):=of_decide_eq_true (q2_);obtain ⟨ad143,e143,hx143_0,hx143_1,hx143_2,hx143_3⟩:=at_T26 (Kd.R_reads' HO_18.out).2.2 t138 p143 q143;obtain rfl : ad140 = ad143:=(by injection e143);have hn143_0 : ad140.block ≠ gb141:=(HO_18.out.1 _ rfl).2;have hn143_1 : ad140.block ≠ gb141:=(HO_18.out.1 _ rfl).2;have hn143_2 : ad140.block ≠ gb141:=(HO_18.out.1 _ rfl).2;have hn143_3 : ad140.block ≠ gb141:=(HO_18.out.1 _ rfl).2;replace hx143_0:=(cell_far (p:=⟨gb141,0,none⟩) (q24_) (.string ((rd_T26 t132 x167_4).f0))).trans hx143_0;replace hx143_1:=(cell_far (p:=⟨gb141,0,none⟩) (q24_) (.string ((rd_T26 t132 x167_4).f0))).trans hx143_1;replace hx143_2:=(cell_far (p:=⟨gb141,0,none⟩) (q24_) (.string ((rd_T26 t132 x167_4).f0))).trans hx143_2;replace hx143_3:=(cell_far (p:=⟨gb141,0,none⟩) (q24_) (.string ((rd_T26 t132 x167_4).f0))).trans hx143_3;replace hx143_0:=(cell_far (p:=⟨gb141,1,none⟩) (q25_) (.int .i64 ((rd_T26 t132 x167_4).f1))).trans hx143_0;replace hx143_1:=(cell_far (p:=⟨gb141,1,none⟩) (q25_) (.int .i64 ((rd_T26 t132 x167_4).f1))).trans hx143_1;replace hx143_2:=(cell_far (p:=⟨gb141,1,none⟩) (q25_) (.int .i64 ((rd_T26 t132 x167_4).f1))).trans hx143_2;replace hx143_3:=(cell_far (p:=⟨gb141,1,none⟩) (q25_) (.int .i64 ((rd_T26 t132 x167_4).f1))).trans hx143_3;replace hx143_0:=(cell_far (p:=⟨gb141,2,none⟩) (q26_) (.int .i64 ((rd_T26 t132 x167_4).f2))).trans hx143_0;replace hx143_1:=(cell_far (p:=⟨gb141,2,none⟩) (q26_) (.int .i64 ((rd_T26 t132 x167_4).f2))).trans hx143_1;replace hx143_2:=(cell_far (p:=⟨gb141,2,none⟩) (q26_) (.int .i64 ((rd_T26 t132 x167_4).f2))).trans hx143_2;replace hx143_3:=(cell_far (p:=⟨gb141,2,none⟩) (q26_) (.int .i64 ((rd_T26 t132 x167_4).f2))).trans hx143_3;replace hx143_0:=(cell_far (p:=⟨gb141,3,none⟩) (q27_) (.int .i64 ((rd_T26 t132 x167_4).f3))).trans hx143_0;replace hx143_1:=(cell_far (p:=⟨gb141,3,none⟩) (q27_) (.int .i64 ((rd_T26 t132 x167_4).f3))).trans hx143_1;replace hx143_2:=(cell_far (p:=⟨gb141,3,none⟩) (q27_) (.int .i64 ((rd_T26 t132 x167_4).f3))).trans hx143_2;replace hx143_3:=(cell_far (p:=⟨gb141,3,none⟩) (q27_) (.int .i64 ((rd_T26 t132 x167_4).f3))).trans hx143_3;(try have hy143_0:=fun (n_ : Nat)=>(show ((((((w86.drewN n_).setCell ⟨gb141,0,none⟩ (.string ((rd_T26 t132 x167_4).f0))).setCell ⟨gb141,1,none⟩ (.int .i64 ((rd_T26 t132 x167_4).f1))).setCell ⟨gb141,2,none⟩ (.int .i64 ((rd_T26 t132 x167_4).f2))).setCell ⟨gb141,3,none⟩ (.int .i64 ((rd_T26 t132 x167_4).f3)))).cell? _ = some _ from hx143_0));(try have hy143_1:=fun (n_ : Nat)=>(show ((((((w86.drewN n_).setCell ⟨gb141,0,none⟩ (.string ((rd_T26 t132 x167_4).f0))).setCell ⟨gb141,1,none⟩ (.int .i64 ((rd_T26 t132 x167_4).f1))).setCell ⟨gb141,2,none⟩ (.int .i64 ((rd_T26 t132 x167_4).f2))).setCell ⟨gb141,3,none⟩ (.int .i64 ((rd_T26 t132 x167_4).f3)))).cell? _ = some _ from hx143_1));(try have hy143_2:=fun (n_ : Nat)=>(show ((((((w86.drewN n_).setCell ⟨gb141,0,none⟩ (.string ((rd_T26 t132 x167_4).f0))).setCell ⟨gb141,1,none⟩ (.int .i64 ((rd_T26 t132 x167_4).f1))).setCell ⟨gb141,2,none⟩ (.int .i64 ((rd_T26 t132 x167_4).f2))).setCell ⟨gb141,3,none⟩ (.int .i64 ((rd_T26 t132 x167_4).f3)))).cell? _ = some _ from hx143_2));(try have hy143_3:=fun (n_ : Nat)=>(show ((((((w86.drewN n_).setCell ⟨gb141,0,none⟩ (.string ((rd_T26 t132 x167_4).f0))).setCell ⟨gb141,1,none⟩ (.int .i64 ((rd_T26 t132 x167_4).f1))).setCell ⟨gb141,2,none⟩ (.int .i64 ((rd_T26 t132 x167_4).f2))).setCell ⟨gb141,3,none⟩ (.int .i64 ((rd_T26 t132 x167_4).f3)))).cell? _ = some _ from hx143_3));clear hn143_0;clear hn143_1;clear hn143_2;clear hn143_3;replace p143:=eq_true p143;replace q143:=eq_true q143));try go_wp2_with (first | ((with_reducible refine gate_dst (N:=25) rfl ?_);(try (refine gate_guard (by rfl) ?_;dsimp only));refine box_event ?hg (N:=25) ?hd (cs:=#[.string (⟨#[]⟩ : ByteArray),.int .i64 0,.int .i64 0,.int .i64 0]) (t:=26) ?hr ?_;(case hd=>rfl);(case hg=>rfl);(case hr=>first | (go_simp;done) | (go_simp;rfl));intro gb141 hg w86 hbox hb;replace HO_18:=Aside0.mk (Kd.R_below (Kd.R_elderB (q16_) gb141 (Nat.le_of_eq hg.symm)) hb);replace HO_165:=Aside0.mk (Kd.R_below (Kd.R_elderB (q17_) gb141 (Nat.le_of_eq hg.symm)) hb);have BK141:=Aside0.mk (hbox);have GW141:=Aside0.mk ((by rw [hg];exact (below_size (q43_)) : w.heap.size ≤ gb141));have GE141:=Aside0.mk ((by rw [hg];exact (below_size (q43_)) : w.heap.size ≤ gb141));replace HB:=Aside0.mk (below_step (q43_) hb);have NB109_141:=Aside0.mk ((q65_ : gb109 ≠ gb141));have NB141_109:=Aside0.mk ((q66_ : gb141 ≠ gb109));replace BK109:=bkB_ BK109 hb;clear hb hbox hg;have hnb87:=NB141_109.out;have hnc87:=NB109_141.out;have hcz88_0 : w86.cell? ⟨gb141,0,none⟩ = some (.string (⟨#[]⟩ : ByteArray)):=(blk_cell BK141.out 0).trans rfl;have hcz88_1 : w86.cell? ⟨gb141,1,none⟩ = some (.int .i64 0):=(blk_cell BK141.out 1).trans rfl;have hcz88_2 : w86.cell? ⟨gb141,2,none⟩ = some (.int .i64 0):=(blk_cell BK141.out 2).trans rfl;have hcz88_3 : w86.cell? ⟨gb141,3,none⟩ = some (.int .i64 0):=(blk_cell BK141.out 3).trans rfl;have hfz88_0:=blk_frozen BK141.out 0;have hal88_0:=MAlive.alive_of hcz88_0;have hfz88_1:=blk_frozen BK141.out 1;have hal88_1:=MAlive.alive_of hcz88_1;have hfz88_2:=blk_frozen BK141.out 2;have hal88_2:=MAlive.alive_of hcz88_2;have hfz88_3:=blk_frozen BK141.out 3;have hal88_3:=MAlive.alive_of hcz88_3;have p142 : 0 ≤ (t138 : Int):=of_decide_eq_true (q2_);have q142 : t138 < (t132.length : Int):=of_decide_eq_true (q2_);obtain ⟨ad142,e142,hx142_0,hx142_1,hx142_2,hx142_3⟩:=at_T26 (Kd.R_reads' HO_18.out).2.2 t138 p142 q142;obtain rfl : ad140 = ad142:=(by injection e142);have hn142_0 : ad140.block ≠ gb141:=(HO_18.out.1 _ rfl).2;have hn142_1 : ad140.block ≠ gb141:=(HO_18.out.1 _ rfl).2;have hn142_2 : ad140.block ≠ gb141:=(HO_18.out.1 _ rfl).2;have hn142_3 : ad140.block ≠ gb141:=(HO_18.out.1 _ rfl).2;replace hx142_0:=(cell_far (p:=⟨gb141,0,none⟩) (q20_) (.string ((rd_T26 t132 x167_4).f0))).trans hx142_0;replace hx142_1:=(cell_far (p:=⟨gb141,0,none⟩) (q20_) (.string ((rd_T26 t132 x167_4).f0))).trans hx142_1;replace hx142_2:=(cell_far (p:=⟨gb141,0,none⟩) (q20_) (.string ((rd_T26 t132 x167_4).f0))).trans hx142_2;replace hx142_3:=(cell_far (p:=⟨gb141,0,none⟩) (q20_) (.string ((rd_T26 t132 x167_4).f0))).trans hx142_3;replace hx142_0:=(cell_far (p:=⟨gb141,1,none⟩) (q21_) (.int .i64 ((rd_T26 t132 x167_4).f1))).trans hx142_0;replace hx142_1:=(cell_far (p:=⟨gb141,1,none⟩) (q21_) (.int .i64 ((rd_T26 t132 x167_4).f1))).trans hx142_1;replace hx142_2:=(cell_far (p:=⟨gb141,1,none⟩) (q21_) (.int .i64 ((rd_T26 t132 x167_4).f1))).trans hx142_2;replace hx142_3:=(cell_far (p:=⟨gb141,1,none⟩) (q21_) (.int .i64 ((rd_T26 t132 x167_4).f1))).trans hx142_3;replace hx142_0:=(cell_far (p:=⟨gb141,2,none⟩) (q22_) (.int .i64 ((rd_T26 t132 x167_4).f2))).trans hx142_0;replace hx142_1:=(cell_far (p:=⟨gb141,2,none⟩) (q22_) (.int .i64 ((rd_T26 t132 x167_4).f2))).trans hx142_1;replace hx142_2:=(cell_far (p:=⟨gb141,2,none⟩) (q22_) (.int .i64 ((rd_T26 t132 x167_4).f2))).trans hx142_2;replace hx142_3:=(cell_far (p:=⟨gb141,2,none⟩) (q22_) (.int .i64 ((rd_T26 t132 x167_4).f2))).trans hx142_3;replace hx142_0:=(cell_far (p:=⟨gb141,3,none⟩) (q23_) (.int .i64 ((rd_T26 t132 x167_4).f3))).trans hx142_0;replace hx142_1:=(cell_far (p:=⟨gb141,3,none⟩) (q23_) (.int .i64 ((rd_T26 t132 x167_4).f3))).trans hx142_1;replace hx142_2:=(cell_far (p:=⟨gb141,3,none⟩) (q23_) (.int .i64 ((rd_T26 t132 x167_4).f3))).trans hx142_2;replace hx142_3:=(cell_far (p:=⟨gb141,3,none⟩) (q23_) (.int .i64 ((rd_T26 t132 x167_4).f3))).trans hx142_3;(try have hy142_0:=fun (n_ : Nat)=>(show ((((((w86.drewN n_).setCell ⟨gb141,0,none⟩ (.string ((rd_T26 t132 x167_4).f0))).setCell ⟨gb141,1,none⟩ (.int .i64 ((rd_T26 t132 x167_4).f1))).setCell ⟨gb141,2,none⟩ (.int .i64 ((rd_T26 t132 x167_4).f2))).setCell ⟨gb141,3,none⟩ (.int .i64 ((rd_T26 t132 x167_4).f3)))).cell? _ = some _ from hx142_0));(try have hy142_1:=fun (n_ : Nat)=>(show ((((((w86.drewN n_).setCell ⟨gb141,0,none⟩ (.string ((rd_T26 t132 x167_4).f0))).setCell ⟨gb141,1,none⟩ (.int .i64 ((rd_T26 t132 x167_4).f1))).setCell ⟨gb141,2,none⟩ (.int .i64 ((rd_T26 t132 x167_4).f2))).setCell ⟨gb141,3,none⟩ (.int .i64 ((rd_T26 t132 x167_4).f3)))).cell? _ = some _ from hx142_1));(try have hy142_2:=fun (n_ : Nat)=>(show ((((((w86.drewN n_).setCell ⟨gb141,0,none⟩ (.string ((rd_T26 t132 x167_4).f0))).setCell ⟨gb141,1,none⟩ (.int .i64 ((rd_T26 t132 x167_4).f1))).setCell ⟨gb141,2,none⟩ (.int .i64 ((rd_T26 t132 x167_4).f2))).setCell ⟨gb141,3,none⟩ (.int .i64 ((rd_T26 t132 x167_4).f3)))).cell? _ = some _ from hx142_2));(try have hy142_3:=fun (n_ : Nat)=>(show ((((((w86.drewN n_).setCell ⟨gb141,0,none⟩ (.string ((rd_T26 t132 x167_4).f0))).setCell ⟨gb141,1,none⟩ (.int .i64 ((rd_T26 t132 x167_4).f1))).setCell ⟨gb141,2,none⟩ (.int .i64 ((rd_T26 t132 x167_4).f2))).setCell ⟨gb141,3,none⟩ (.int .i64 ((rd_T26 t132 x167_4).f3)))).cell? _ = some _ from hx142_3));clear hn142_0;clear hn142_1;clear hn142_2;clear hn142_3;replace p142:=eq_true p142;replace q142:=eq_true q142;have p143 : 0 ≤ (t138 : Int):=of_decide_eq_true (q2_);have q143 : t138 < (t132.length : Int):=of_decide_eq_true (q2_);obtain ⟨ad143,e143,hx143_0,hx143_1,hx143_2,hx143_3⟩:=at_T26 (Kd.R_reads' HO_18.out).2.2 t138 p143 q143;obtain rfl : ad140 = ad143:=(by injection e143);have hn143_0 : ad140.block ≠ gb141:=(HO_18.out.1 _ rfl).2;have hn143_1 : ad140.block ≠ gb141:=(HO_18.out.1 _ rfl).2;have hn143_2 : ad140.block ≠ gb141:=(HO_18.out.1 _ rfl).2;have hn143_3 : ad140.block ≠ gb141:=(HO_18.out.1 _ rfl).2;replace hx143_0:=(cell_far (p:=⟨gb141,0,none⟩) (q24_) (.string ((rd_T26 t132 x167_4).f0))).trans hx143_0;replace hx143_1:=(cell_far (p:=⟨gb141,0,none⟩) (q24_) (.string ((rd_T26 t132 x167_4).f0))).trans hx143_1;replace hx143_2:=(cell_far (p:=⟨gb141,0,none⟩) (q24_) (.string ((rd_T26 t132 x167_4).f0))).trans hx143_2;replace hx143_3:=(cell_far (p:=⟨gb141,0,none⟩) (q24_) (.string ((rd_T26 t132 x167_4).f0))).trans hx143_3;replace hx143_0:=(cell_far (p:=⟨gb141,1,none⟩) (q25_) (.int .i64 ((rd_T26 t132 x167_4).f1))).trans hx143_0;replace hx143_1:=(cell_far (p:=⟨gb141,1,none⟩) (q25_) (.int .i64 ((rd_T26 t132 x167_4).f1))).trans hx143_1;replace hx143_2:=(cell_far (p:=⟨gb141,1,none⟩) (q25_) (.int .i64 ((rd_T26 t132 x167_4).f1))).trans hx143_2;replace hx143_3:=(cell_far (p:=⟨gb141,1,none⟩) (q25_) (.int .i64 ((rd_T26 t132 x167_4).f1))).trans hx143_3;replace hx143_0:=(cell_far (p:=⟨gb141,2,none⟩) (q26_) (.int .i64 ((rd_T26 t132 x167_4).f2))).trans hx143_0;replace hx143_1:=(cell_far (p:=⟨gb141,2,none⟩) (q26_) (.int .i64 ((rd_T26 t132 x167_4).f2))).trans hx143_1;replace hx143_2:=(cell_far (p:=⟨gb141,2,none⟩) (q26_) (.int .i64 ((rd_T26 t132 x167_4).f2))).trans hx143_2;replace hx143_3:=(cell_far (p:=⟨gb141,2,none⟩) (q26_) (.int .i64 ((rd_T26 t132 x167_4).f2))).trans hx143_3;replace hx143_0:=(cell_far (p:=⟨gb141,3,none⟩) (q27_) (.int .i64 ((rd_T26 t132 x167_4).f3))).trans hx143_0;replace hx143_1:=(cell_far (p:=⟨gb141,3,none⟩) (q27_) (.int .i64 ((rd_T26 t132 x167_4).f3))).trans hx143_1;replace hx143_2:=(cell_far (p:=⟨gb141,3,none⟩) (q27_) (.int .i64 ((rd_T26 t132 x167_4).f3))).trans hx143_2;replace hx143_3:=(cell_far (p:=⟨gb141,3,none⟩) (q27_) (.int .i64 ((rd_T26 t132 x167_4).f3))).trans hx143_3;(try have hy143_0:=fun (n_ : Nat)=>(show ((((((w86.drewN n_).setCell ⟨gb141,0,none⟩ (.string ((rd_T26 t132 x167_4).f0))).setCell ⟨gb141,1,none⟩ (.int .i64 ((rd_T26 t132 x167_4).f1))).setCell ⟨gb141,2,none⟩ (.int .i64 ((rd_T26 t132 x167_4).f2))).setCell ⟨gb141,3,none⟩ (.int .i64 ((rd_T26 t132 x167_4).f3)))).cell? _ = some _ from hx143_0));(try have hy143_1:=fun (n_ : Nat)=>(show ((((((w86.drewN n_).setCell ⟨gb141,0,none⟩ (.string ((rd_T26 t132 x167_4).f0))).setCell ⟨gb141,1,none⟩ (.int .i64 ((rd_T26 t132 x167_4).f1))).setCell ⟨gb141,2,none⟩ (.int .i64 ((rd_T26 t132 x167_4).f2))).setCell ⟨gb141,3,none⟩ (.int .i64 ((rd_T26 t132 x167_4).f3)))).cell? _ = some _ from hx143_1));(try have hy143_2:=fun (n_ : Nat)=>(show ((((((w86.drewN n_).setCell ⟨gb141,0,none⟩ (.string ((rd_T26 t132 x167_4).f0))).setCell ⟨gb141,1,none⟩ (.int .i64 ((rd_T26 t132 x167_4).f1))).setCell ⟨gb141,2,none⟩ (.int .i64 ((rd_T26 t132 x167_4).f2))).setCell ⟨gb141,3,none⟩ (.int .i64 ((rd_T26 t132 x167_4).f3)))).cell? _ = some _ from hx143_2));(try have hy143_3:=fun (n_ : Nat)=>(show ((((((w86.drewN n_).setCell ⟨gb141,0,none⟩ (.string ((rd_T26 t132 x167_4).f0))).setCell ⟨gb141,1,none⟩ (.int .i64 ((rd_T26 t132 x167_4).f1))).setCell ⟨gb141,2,none⟩ (.int .i64 ((rd_T26 t132 x167_4).f2))).setCell ⟨gb141,3,none⟩ (.int .i64 ((rd_T26 t132 x167_4).f3)))).cell? _ = some _ from hx143_3));clear hn143_0;clear hn143_1;clear hn143_2;clear hn143_3;replace p143:=eq_true p143;replace q143:=eq_true q143)))
                       go_roundg k4
                       case measure=>have:=HJ7.out;have:=HJ38.out;have:=HJ67.out;have:=HK4.out;omega
                       case rel=>exact ⟨(wrap64 (x167_4 + 1)),(q1_),H', ⟨by have:=HJ7.out;have:=HJ38.out;have:=HJ67.out;have:=HK4.out;omega⟩,⟨by (with_reducible repeat (first | apply Kd.R_alloc | apply Kd.R_drewN | apply Kd.R_drew));exact Kd.R_mono (Kd.R_far (p:=⟨gb141,3,none⟩) (Kd.R_far (p:=⟨gb141,2,none⟩) (Kd.R_far (p:=⟨gb141,1,none⟩) (Kd.R_far (p:=⟨gb141,0,none⟩) (Kd.R_mono HO_18.out (fun k_ hk=>(⟨hk,hk.2⟩ : _ ∧ k_ ≠ gb141))) (fun _ hk=>hk.2) (.string ((rd_T26 t132 x167_4).f0))) (fun _ hk=>hk.2) (.int .i64 ((rd_T26 t132 x167_4).f1))) (fun _ hk=>hk.2) (.int .i64 ((rd_T26 t132 x167_4).f2))) (fun _ hk=>hk.2) (.int .i64 ((rd_T26 t132 x167_4).f3))) (fun _ hk=>hk.1.1)⟩,⟨by (with_reducible repeat (first | apply Kd.R_alloc | apply Kd.R_drewN | apply Kd.R_drew));exact Kd.R_mono (Kd.R_far (p:=⟨gb141,3,none⟩) (Kd.R_far (p:=⟨gb141,2,none⟩) (Kd.R_far (p:=⟨gb141,1,none⟩) (Kd.R_far (p:=⟨gb141,0,none⟩) (Kd.R_mono HO_165.out (fun k_ hk=>(⟨hk,hk.2⟩ : _ ∧ k_ ≠ gb141))) (fun _ hk=>hk.2) (.string ((rd_T26 t132 x167_4).f0))) (fun _ hk=>hk.2) (.int .i64 ((rd_T26 t132 x167_4).f1))) (fun _ hk=>hk.2) (.int .i64 ((rd_T26 t132 x167_4).f2))) (fun _ hk=>hk.2) (.int .i64 ((rd_T26 t132 x167_4).f3))) (fun _ hk=>hk.1.1)⟩,⟨by (with_reducible repeat (first | refine blk_drewN ?_ _ | refine blk_drew ?_ | refine blk_alloc ?_ _));refine blk_far ?_ NB109_141.out _;(with_reducible repeat (first | refine blk_drewN ?_ _ | refine blk_drew ?_ | refine blk_alloc ?_ _));refine blk_far ?_ NB109_141.out _;(with_reducible repeat (first | refine blk_drewN ?_ _ | refine blk_drew ?_ | refine blk_alloc ?_ _));refine blk_far ?_ NB109_141.out _;(with_reducible repeat (first | refine blk_drewN ?_ _ | refine blk_drew ?_ | refine blk_alloc ?_ _));refine blk_far ?_ NB109_141.out _;(with_reducible repeat (first | refine blk_drewN ?_ _ | refine blk_drew ?_ | refine blk_alloc ?_ _));exact BK109.out⟩,⟨by repeat (first | (with_reducible first | exact HB.out | apply below_alloc | apply pw_below_drewN | apply below_drew1 | refine below_set ?_ GE109.out | refine below_set ?_ GE141.out) | exact HB.out)⟩⟩
                     ·rw [if_neg c84] at H;have c84b0 : (((rd_T26 t132 x167_4).f3) == ((rd_T26 t132 t138).f3)) = false:=beq_eq_false_iff_ne.mpr c84;have c84b1 : (((rd_T26 t132 x167_4).f3) != ((rd_T26 t132 t138).f3)) = true:=bne_iff_ne.mpr c84;have H' := Aside0.mk H;clear H;have p140 : 0 ≤ (x167_4 : Int):=of_decide_eq_true (q2_);have q140 : x167_4 < (t132.length : Int):=of_decide_eq_true (q2_);obtain ⟨ad140,e140,hx140_0,hx140_1,hx140_2,hx140_3⟩:=at_T26 (Kd.R_reads' HO_165.out).2.2 x167_4 p140 q140;cases e140;replace p140:=eq_true p140;replace q140:=eq_true q140;go_wp2_with (first | ((with_reducible refine gate_dst (N:=25) rfl ?_);(try (refine gate_guard (by rfl) ?_;dsimp only));refine box_event ?hg (N:=25) ?hd (cs:=#[.string (⟨#[]⟩ : ByteArray),.int .i64 0,.int .i64 0,.int .i64 0]) (t:=26) ?hr ?_;(case hd=>rfl);(case hg=>rfl);(case hr=>first | (go_simp;done) | (go_simp;rfl));intro gb141 hg w89 hbox hb;replace HO_18:=Aside0.mk (Kd.R_below (Kd.R_elderB (q16_) gb141 (Nat.le_of_eq hg.symm)) hb);replace HO_165:=Aside0.mk (Kd.R_below (Kd.R_elderB (q17_) gb141 (Nat.le_of_eq hg.symm)) hb);have BK141:=Aside0.mk (hbox);have GW141:=Aside0.mk ((by rw [hg];exact (below_size (q43_)) : w.heap.size ≤ gb141));have GE141:=Aside0.mk ((by rw [hg];exact (below_size (q43_)) : w.heap.size ≤ gb141));replace HB:=Aside0.mk (below_step (q43_) hb);have NB109_141:=Aside0.mk ((q65_ : gb109 ≠ gb141));have NB141_109:=Aside0.mk ((q66_ : gb141 ≠ gb109));replace BK109:=bkB_ BK109 hb;clear hb hbox hg;have hnb90:=NB141_109.out;have hnc90:=NB109_141.out;have hcz91_0 : w89.cell? ⟨gb141,0,none⟩ = some (.string (⟨#[]⟩ : ByteArray)):=(blk_cell BK141.out 0).trans rfl;have hcz91_1 : w89.cell? ⟨gb141,1,none⟩ = some (.int .i64 0):=(blk_cell BK141.out 1).trans rfl;have hcz91_2 : w89.cell? ⟨gb141,2,none⟩ = some (.int .i64 0):=(blk_cell BK141.out 2).trans rfl;have hcz91_3 : w89.cell? ⟨gb141,3,none⟩ = some (.int .i64 0):=(blk_cell BK141.out 3).trans rfl;have hfz91_0:=blk_frozen BK141.out 0;have hal91_0:=MAlive.alive_of hcz91_0;have hfz91_1:=blk_frozen BK141.out 1;have hal91_1:=MAlive.alive_of hcz91_1;have hfz91_2:=blk_frozen BK141.out 2;have hal91_2:=MAlive.alive_of hcz91_2;have hfz91_3:=blk_frozen BK141.out 3;have hal91_3:=MAlive.alive_of hcz91_3;have p142 : 0 ≤ (t138 : Int):=of_decide_eq_true (q2_);have q142 : t138 < (t132.length : Int):=of_decide_eq_true (q2_);obtain ⟨ad142,e142,hx142_0,hx142_1,hx142_2,hx142_3⟩:=at_T26 (Kd.R_reads' HO_18.out).2.2 t138 p142 q142;obtain rfl : ad140 = ad142:=(by injection e142);have hn142_0 : ad140.block ≠ gb141:=(HO_18.out.1 _ rfl).2;have hn142_1 : ad140.block ≠ gb141:=(HO_18.out.1 _ rfl).2;have hn142_2 : ad140.block ≠ gb141:=(HO_18.out.1 _ rfl).2;have hn142_3 : ad140.block ≠ gb141:=(HO_18.out.1 _ rfl).2;replace hx142_0:=(cell_far (p:=⟨gb141,0,none⟩) (q20_) (.string ((rd_T26 t132 x167_4).f0))).trans hx142_0;replace hx142_1:=(cell_far (p:=⟨gb141,0,none⟩) (q20_) (.string ((rd_T26 t132 x167_4).f0))).trans hx142_1;replace hx142_2:=(cell_far (p:=⟨gb141,0,none⟩) (q20_) (.string ((rd_T26 t132 x167_4).f0))).trans hx142_2;replace hx142_3:=(cell_far (p:=⟨gb141,0,none⟩) (q20_) (.string ((rd_T26 t132 x167_4).f0))).trans hx142_3;replace hx142_0:=(cell_far (p:=⟨gb141,1,none⟩) (q21_) (.int .i64 ((rd_T26 t132 x167_4).f1))).trans hx142_0;replace hx142_1:=(cell_far (p:=⟨gb141,1,none⟩) (q21_) (.int .i64 ((rd_T26 t132 x167_4).f1))).trans hx142_1;replace hx142_2:=(cell_far (p:=⟨gb141,1,none⟩) (q21_) (.int .i64 ((rd_T26 t132 x167_4).f1))).trans hx142_2;replace hx142_3:=(cell_far (p:=⟨gb141,1,none⟩) (q21_) (.int .i64 ((rd_T26 t132 x167_4).f1))).trans hx142_3;replace hx142_0:=(cell_far (p:=⟨gb141,2,none⟩) (q22_) (.int .i64 ((rd_T26 t132 x167_4).f2))).trans hx142_0;replace hx142_1:=(cell_far (p:=⟨gb141,2,none⟩) (q22_) (.int .i64 ((rd_T26 t132 x167_4).f2))).trans hx142_1;replace hx142_2:=(cell_far (p:=⟨gb141,2,none⟩) (q22_) (.int .i64 ((rd_T26 t132 x167_4).f2))).trans hx142_2;replace hx142_3:=(cell_far (p:=⟨gb141,2,none⟩) (q22_) (.int .i64 ((rd_T26 t132 x167_4).f2))).trans hx142_3;replace hx142_0:=(cell_far (p:=⟨gb141,3,none⟩) (q23_) (.int .i64 ((rd_T26 t132 x167_4).f3))).trans hx142_0;replace hx142_1:=(cell_far (p:=⟨gb141,3,none⟩) (q23_) (.int .i64 ((rd_T26 t132 x167_4).f3))).trans hx142_1;replace hx142_2:=(cell_far (p:=⟨gb141,3,none⟩) (q23_) (.int .i64 ((rd_T26 t132 x167_4).f3))).trans hx142_2;replace hx142_3:=(cell_far (p:=⟨gb141,3,none⟩) (q23_) (.int .i64 ((rd_T26 t132 x167_4).f3))).trans hx142_3;(try have hy142_0:=fun (n_ : Nat)=>(show ((((((w89.drewN n_).setCell ⟨gb141,0,none⟩ (.string ((rd_T26 t132 x167_4).f0))).setCell ⟨gb141,1,none⟩ (.int .i64 ((rd_T26 t132 x167_4).f1))).setCell ⟨gb141,2,none⟩ (.int .i64 ((rd_T26 t132 x167_4).f2))).setCell ⟨gb141,3,none⟩ (.int .i64 ((rd_T26 t132 x167_4).f3)))).cell? _ = some _ from hx142_0));(try have hy142_1:=fun (n_ : Nat)=>(show ((((((w89.drewN n_).setCell ⟨gb141,0,none⟩ (.string ((rd_T26 t132 x167_4).f0))).setCell ⟨gb141,1,none⟩ (.int .i64 ((rd_T26 t132 x167_4).f1))).setCell ⟨gb141,2,none⟩ (.int .i64 ((rd_T26 t132 x167_4).f2))).setCell ⟨gb141,3,none⟩ (.int .i64 ((rd_T26 t132 x167_4).f3)))).cell? _ = some _ from hx142_1));(try have hy142_2:=fun (n_ : Nat)=>(show ((((((w89.drewN n_).setCell ⟨gb141,0,none⟩ (.string ((rd_T26 t132 x167_4).f0))).setCell ⟨gb141,1,none⟩ (.int .i64 ((rd_T26 t132 x167_4).f1))).setCell ⟨gb141,2,none⟩ (.int .i64 ((rd_T26 t132 x167_4).f2))).setCell ⟨gb141,3,none⟩ (.int .i64 ((rd_T26 t132 x167_4).f3)))).cell? _ = some _ from hx142_2));(try have hy142_3:=fun (n_ : Nat)=>(show ((((((w89.drewN n_).setCell ⟨gb141,0,none⟩ (.string ((rd_T26 t132 x167_4).f0))).setCell ⟨gb141,1,none⟩ (.int .i64 ((rd_T26 t132 x167_4).f1))).setCell ⟨gb141,2,none⟩ (.int .i64 ((rd_T26 t132 x167_4).f2))).setCell ⟨gb141,3,none⟩ (.int .i64 ((rd_T26 t132 x167_4).f3)))).cell? _ = some _ from hx142_3));clear hn142_0;clear hn142_1;clear hn142_2;clear hn142_3;replace p142:=eq_true p142;replace q142:=eq_true q142;have p143 : 0 ≤ (t138 : Int):=of_decide_eq_true (q2_);have q143 : t138 < (t132.length : Int):=of_decide_eq_true (q2_);obtain ⟨ad143,e143,hx143_0,hx143_1,hx143_2,hx143_3⟩:=at_T26 (Kd.R_reads' HO_18.out).2.2 t138 p143 q143;obtain rfl : ad140 = ad143:=(by injection e143);have hn143_0 : ad140.block ≠ gb141:=(HO_18.out.1 _ rfl).2;have hn143_1 : ad140.block ≠ gb141:=(HO_18.out.1 _ rfl).2;have hn143_2 : ad140.block ≠ gb141:=(HO_18.out.1 _ rfl).2;have hn143_3 : ad140.block ≠ gb141:=(HO_18.out.1 _ rfl).2;replace hx143_0:=(cell_far (p:=⟨gb141,0,none⟩) (q24_) (.string ((rd_T26 t132 x167_4).f0))).trans hx143_0;replace hx143_1:=(cell_far (p:=⟨gb141,0,none⟩) (q24_) (.string ((rd_T26 t132 x167_4).f0))).trans hx143_1;replace hx143_2:=(cell_far (p:=⟨gb141,0,none⟩) (q24_) (.string ((rd_T26 t132 x167_4).f0))).trans hx143_2;replace hx143_3:=(cell_far (p:=⟨gb141,0,none⟩) (q24_) (.string ((rd_T26 t132 x167_4).f0))).trans hx143_3;replace hx143_0:=(cell_far (p:=⟨gb141,1,none⟩) (q25_) (.int .i64 ((rd_T26 t132 x167_4).f1))).trans hx143_0;replace hx143_1:=(cell_far (p:=⟨gb141,1,none⟩) (q25_) (.int .i64 ((rd_T26 t132 x167_4).f1))).trans hx143_1;replace hx143_2:=(cell_far (p:=⟨gb141,1,none⟩) (q25_) (.int .i64 ((rd_T26 t132 x167_4).f1))).trans hx143_2;replace hx143_3:=(cell_far (p:=⟨gb141,1,none⟩) (q25_) (.int .i64 ((rd_T26 t132 x167_4).f1))).trans hx143_3;replace hx143_0:=(cell_far (p:=⟨gb141,2,none⟩) (q26_) (.int .i64 ((rd_T26 t132 x167_4).f2))).trans hx143_0;replace hx143_1:=(cell_far (p:=⟨gb141,2,none⟩) (q26_) (.int .i64 ((rd_T26 t132 x167_4).f2))).trans hx143_1;replace hx143_2:=(cell_far (p:=⟨gb141,2,none⟩) (q26_) (.int .i64 ((rd_T26 t132 x167_4).f2))).trans hx143_2;replace hx143_3:=(cell_far (p:=⟨gb141,2,none⟩) (q26_) (.int .i64 ((rd_T26 t132 x167_4).f2))).trans hx143_3;replace hx143_0:=(cell_far (p:=⟨gb141,3,none⟩) (q27_) (.int .i64 ((rd_T26 t132 x167_4).f3))).trans hx143_0;replace hx143_1:=(cell_far (p:=⟨gb141,3,none⟩) (q27_) (.int .i64 ((rd_T26 t132 x167_4).f3))).trans hx143_1;replace hx143_2:=(cell_far (p:=⟨gb141,3,none⟩) (q27_) (.int .i64 ((rd_T26 t132 x167_4).f3))).trans hx143_2;replace hx143_3:=(cell_far (p:=⟨gb141,3,none⟩) (q27_) (.int .i64 ((rd_T26 t132 x167_4).f3))).trans hx143_3;(try have hy143_0:=fun (n_ : Nat)=>(show ((((((w89.drewN n_).setCell ⟨gb141,0,none⟩ (.string ((rd_T26 t132 x167_4).f0))).setCell ⟨gb141,1,none⟩ (.int .i64 ((rd_T26 t132 x167_4).f1))).setCell ⟨gb141,2,none⟩ (.int .i64 ((rd_T26 t132 x167_4).f2))).setCell ⟨gb141,3,none⟩ (.int .i64 ((rd_T26 t132 x167_4).f3)))).cell? _ = some _ from hx143_0));(try have hy143_1:=fun (n_ : Nat)=>(show ((((((w89.drewN n_).setCell ⟨gb141,0,none⟩ (.string ((rd_T26 t132 x167_4).f0))).setCell ⟨gb141,1,none⟩ (.int .i64 ((rd_T26 t132 x167_4).f1))).setCell ⟨gb141,2,none⟩ (.int .i64 ((rd_T26 t132 x167_4).f2))).setCell ⟨gb141,3,none⟩ (.int .i64 ((rd_T26 t132 x167_4).f3)))).cell? _ = some _ from hx143_1));(try have hy143_2:=fun (n_ : Nat)=>(show ((((((w89.drewN n_).setCell ⟨gb141,0,none⟩ (.string ((rd_T26 t132 x167_4).f0))).setCell ⟨gb141,1,none⟩ (.int .i64 ((rd_T26 t132 x167_4).f1))).setCell ⟨gb141,2,none⟩ (.int .i64 ((rd_T26 t132 x167_4).f2))).setCell ⟨gb141,3,none⟩ (.int .i64 ((rd_T26 t132 x167_4).f3)))).cell? _ = some _ from hx143_2));(try have hy143_3:=fun (n_ : Nat)=>(show ((((((w89.drewN n_).setCell ⟨gb141,0,none⟩ (.string ((rd_T26 t132 x167_4).f0))).setCell ⟨gb141,1,none⟩ (.int .i64 ((rd_T26 t132 x167_4).f1))).setCell ⟨gb141,2,none⟩ (.int .i64 ((rd_T26 t132 x167_4).f2))).setCell ⟨gb141,3,none⟩ (.int .i64 ((rd_T26 t132 x167_4).f3)))).cell? _ = some _ from hx143_3));clear hn143_0;clear hn143_1;clear hn143_2;clear hn143_3;replace p143:=eq_true p143;replace q143:=eq_true q143))
                      repeat (go_quiet (first | ((with_reducible refine gate_dst (N:=25) rfl ?_);(try (refine gate_guard (by rfl) ?_;dsimp only));refine box_event ?hg (N:=25) ?hd (cs:=#[.string (⟨#[]⟩ : ByteArray),.int .i64 0,.int .i64 0,.int .i64 0]) (t:=26) ?hr ?_;(case hd=>rfl);(case hg=>rfl);(case hr=>first | (go_simp;done) | (go_simp;rfl));intro gb141 hg w89 hbox hb;replace HO_18:=Aside0.mk (Kd.R_below (Kd.R_elderB (q16_) gb141 (Nat.le_of_eq hg.symm)) hb);replace HO_165:=Aside0.mk (Kd.R_below (Kd.R_elderB (q17_) gb141 (Nat.le_of_eq hg.symm)) hb);have BK141:=Aside0.mk (hbox);have GW141:=Aside0.mk ((by rw [hg];exact (below_size (q43_)) : w.heap.size ≤ gb141));have GE141:=Aside0.mk ((by rw [hg];exact (below_size (q43_)) : w.heap.size ≤ gb141));replace HB:=Aside0.mk (below_step (q43_) hb);have NB109_141:=Aside0.mk ((q65_ : gb109 ≠ gb141));have NB141_109:=Aside0.mk ((q66_ : gb141 ≠ gb109));replace BK109:=bkB_ BK109 hb;clear hb hbox hg;have hnb90:=NB141_109.out;have hnc90:=NB109_141.out;have hcz91_0 : w89.cell? ⟨gb141,0,none⟩ = some (.string (⟨#[]⟩ : ByteArray)):=(blk_cell BK141.out 0).trans rfl;have hcz91_1 : w89.cell? ⟨gb141,1,none⟩ = some (.int .i64 0):=(blk_cell BK141.out 1).trans rfl;have hcz91_2 : w89.cell? ⟨gb141,2,none⟩ = some (.int .i64 0):=(blk_cell BK141.out 2).trans rfl;have hcz91_3 : w89.cell? ⟨gb141,3,none⟩ = some (.int .i64 0):=(blk_cell BK141.out 3).trans rfl;have hfz91_0:=blk_frozen BK141.out 0;have hal91_0:=MAlive.alive_of hcz91_0;have hfz91_1:=blk_frozen BK141.out 1;have hal91_1:=MAlive.alive_of hcz91_1;have hfz91_2:=blk_frozen BK141.out 2;have hal91_2:=MAlive.alive_of hcz91_2;have hfz91_3:=blk_frozen BK141.out 3;have hal91_3:=MAlive.alive_of hcz91_3;have p142 : 0 ≤ (t138 : Int):=of_decide_eq_true (q2_);have q142 : t138 < (t132.length : Int):=of_decide_eq_true (q2_);obtain ⟨ad142,e142,hx142_0,hx142_1,hx142_2,hx142_3⟩:=at_T26 (Kd.R_reads' HO_18.out).2.2 t138 p142 q142;obtain rfl : ad140 = ad142:=(by injection e142);have hn142_0 : ad140.block ≠ gb141:=(HO_18.out.1 _ rfl).2;have hn142_1 : ad140.block ≠ gb141:=(HO_18.out.1 _ rfl).2;have hn142_2 : ad140.block ≠ gb141:=(HO_18.out.1 _ rfl).2;have hn142_3 : ad140.block ≠ gb141:=(HO_18.out.1 _ rfl).2;replace hx142_0:=(cell_far (p:=⟨gb141,0,none⟩) (q20_) (.string ((rd_T26 t132 x167_4).f0))).trans hx142_0;replace hx142_1:=(cell_far (p:=⟨gb141,0,none⟩) (q20_) (.string ((rd_T26 t132 x167_4).f0))).trans hx142_1;replace hx142_2:=(cell_far (p:=⟨gb141,0,none⟩) (q20_) (.string ((rd_T26 t132 x167_4).f0))).trans hx142_2;replace hx142_3:=(cell_far (p:=⟨gb141,0,none⟩) (q20_) (.string ((rd_T26 t132 x167_4).f0))).trans hx142_3;replace hx142_0:=(cell_far (p:=⟨gb141,1,none⟩) (q21_) (.int .i64 ((rd_T26 t132 x167_4).f1))).trans hx142_0;replace hx142_1:=(cell_far (p:=⟨gb141,1,none⟩) (q21_) (.int .i64 ((rd_T26 t132 x167_4).f1))).trans hx142_1;replace hx142_2:=(cell_far (p:=⟨gb141,1,none⟩) (q21_) (.int .i64 ((rd_T26 t132 x167_4).f1))).trans hx142_2;replace hx142_3:=(cell_far (p:=⟨gb141,1,none⟩) (q21_) (.int .i64 ((rd_T26 t132 x167_4).f1))).trans hx142_3;replace hx142_0:=(cell_far (p:=⟨gb141,2,none⟩) (q22_) (.int .i64 ((rd_T26 t132 x167_4).f2))).trans hx142_0;replace hx142_1:=(cell_far (p:=⟨gb141,2,none⟩) (q22_) (.int .i64 ((rd_T26 t132 x167_4).f2))).trans hx142_1;replace hx142_2:=(cell_far (p:=⟨gb141,2,none⟩) (q22_) (.int .i64 ((rd_T26 t132 x167_4).f2))).trans hx142_2;replace hx142_3:=(cell_far (p:=⟨gb141,2,none⟩) (q22_) (.int .i64 ((rd_T26 t132 x167_4).f2))).trans hx142_3;replace hx142_0:=(cell_far (p:=⟨gb141,3,none⟩) (q23_) (.int .i64 ((rd_T26 t132 x167_4).f3))).trans hx142_0;replace hx142_1:=(cell_far (p:=⟨gb141,3,none⟩) (q23_) (.int .i64 ((rd_T26 t132 x167_4).f3))).trans hx142_1;replace hx142_2:=(cell_far (p:=⟨gb141,3,none⟩) (q23_) (.int .i64 ((rd_T26 t132 x167_4).f3))).trans hx142_2;replace hx142_3:=(cell_far (p:=⟨gb141,3,none⟩) (q23_) (.int .i64 ((rd_T26 t132 x167_4).f3))).trans hx142_3;(try have hy142_0:=fun (n_ : Nat)=>(show ((((((w89.drewN n_).setCell ⟨gb141,0,none⟩ (.string ((rd_T26 t132 x167_4).f0))).setCell ⟨gb141,1,none⟩ (.int .i64 ((rd_T26 t132 x167_4).f1))).setCell ⟨gb141,2,none⟩ (.int .i64 ((rd_T26 t132 x167_4).f2))).setCell ⟨gb141,3,none⟩ (.int .i64 ((rd_T26 t132 x167_4).f3)))).cell? _ = some _ from hx142_0));(try have hy142_1:=fun (n_ : Nat)=>(show ((((((w89.drewN n_).setCell ⟨gb141,0,none⟩ (.string ((rd_T26 t132 x167_4).f0))).setCell ⟨gb141,1,none⟩ (.int .i64 ((rd_T26 t132 x167_4).f1))).setCell ⟨gb141,2,none⟩ (.int .i64 ((rd_T26 t132 x167_4).f2))).setCell ⟨gb141,3,none⟩ (.int .i64 ((rd_T26 t132 x167_4).f3)))).cell? _ = some _ from hx142_1));(try have hy142_2:=fun (n_ : Nat)=>(show ((((((w89.drewN n_).setCell ⟨gb141,0,none⟩ (.string ((rd_T26 t132 x167_4).f0))).setCell ⟨gb141,1,none⟩ (.int .i64 ((rd_T26 t132 x167_4).f1))).setCell ⟨gb141,2,none⟩ (.int .i64 ((rd_T26 t132 x167_4).f2))).setCell ⟨gb141,3,none⟩ (.int .i64 ((rd_T26 t132 x167_4).f3)))).cell? _ = some _ from hx142_2));(try have hy142_3:=fun (n_ : Nat)=>(show ((((((w89.drewN n_).setCell ⟨gb141,0,none⟩ (.string ((rd_T26 t132 x167_4).f0))).setCell ⟨gb141,1,none⟩ (.int .i64 ((rd_T26 t132 x167_4).f1))).setCell ⟨gb141,2,none⟩ (.int .i64 ((rd_T26 t132 x167_4).f2))).setCell ⟨gb141,3,none⟩ (.int .i64 ((rd_T26 t132 x167_4).f3)))).cell? _ = some _ from hx142_3));clear hn142_0;clear hn142_1;clear hn142_2;clear hn142_3;replace p142:=eq_true p142;replace q142:=eq_true q142;have p143 : 0 ≤ (t138 : Int):=of_decide_eq_true (q2_);have q143 : t138 < (t132.length : Int):=of_decide_eq_true (q2_);obtain ⟨ad143,e143,hx143_0,hx143_1,hx143_2,hx143_3⟩:=at_T26 (Kd.R_reads' HO_18.out).2.2 t138 p143 q143;obtain rfl : ad140 = ad143:=(by injection e143);have hn143_0 : ad140.block ≠ gb141:=(HO_18.out.1 _ rfl).2;have hn143_1 : ad140.block ≠ gb141:=(HO_18.out.1 _ rfl).2;have hn143_2 : ad140.block ≠ gb141:=(HO_18.out.1 _ rfl).2;have hn143_3 : ad140.block ≠ gb141:=(HO_18.out.1 _ rfl).2;replace hx143_0:=(cell_far (p:=⟨gb141,0,none⟩) (q24_) (.string ((rd_T26 t132 x167_4).f0))).trans hx143_0;replace hx143_1:=(cell_far (p:=⟨gb141,0,none⟩) (q24_) (.string ((rd_T26 t132 x167_4).f0))).trans hx143_1;replace hx143_2:=(cell_far (p:=⟨gb141,0,none⟩) (q24_) (.string ((rd_T26 t132 x167_4).f0))).trans hx143_2;replace hx143_3:=(cell_far (p:=⟨gb141,0,none⟩) (q24_) (.string ((rd_T26 t132 x167_4).f0))).trans hx143_3;replace hx143_0:=(cell_far (p:=⟨gb141,1,none⟩) (q25_) (.int .i64 ((rd_T26 t132 x167_4).f1))).trans hx143_0;replace hx143_1:=(cell_far (p:=⟨gb141,1,none⟩) (q25_) (.int .i64 ((rd_T26 t132 x167_4).f1))).trans hx143_1;replace hx143_2:=(cell_far (p:=⟨gb141,1,none⟩) (q25_) (.int .i64 ((rd_T26 t132 x167_4).f1))).trans hx143_2;replace hx143_3:=(cell_far (p:=⟨gb141,1,none⟩) (q25_) (.int .i64 ((rd_T26 t132 x167_4).f1))).trans hx143_3;replace hx143_0:=(cell_far (p:=⟨gb141,2,none⟩) (q26_) (.int .i64 ((rd_T26 t132 x167_4).f2))).trans hx143_0;replace hx143_1:=(cell_far (p:=⟨gb141,2,none⟩) (q26_) (.int .i64 ((rd_T26 t132 x167_4).f2))).trans hx143_1;replace hx143_2:=(cell_far (p:=⟨gb141,2,none⟩) (q26_) (.int .i64 ((rd_T26 t132 x167_4).f2))).trans hx143_2;replace hx143_3:=(cell_far (p:=⟨gb141,2,none⟩) (q26_) (.int .i64 ((rd_T26 t132 x167_4).f2))).trans hx143_3;replace hx143_0:=(cell_far (p:=⟨gb141,3,none⟩) (q27_) (.int .i64 ((rd_T26 t132 x167_4).f3))).trans hx143_0;replace hx143_1:=(cell_far (p:=⟨gb141,3,none⟩) (q27_) (.int .i64 ((rd_T26 t132 x167_4).f3))).trans hx143_1;replace hx143_2:=(cell_far (p:=⟨gb141,3,none⟩) (q27_) (.int .i64 ((rd_T26 t132 x167_4).f3))).trans hx143_2;replace hx143_3:=(cell_far (p:=⟨gb141,3,none⟩) (q27_) (.int .i64 ((rd_T26 t132 x167_4).f3))).trans hx143_3;(try have hy143_0:=fun (n_ : Nat)=>(show ((((((w89.drewN n_).setCell ⟨gb141,0,none⟩ (.string ((rd_T26 t132 x167_4).f0))).setCell ⟨gb141,1,none⟩ (.int .i64 ((rd_T26 t132 x167_4).f1))).setCell ⟨gb141,2,none⟩ (.int .i64 ((rd_T26 t132 x167_4).f2))).setCell ⟨gb141,3,none⟩ (.int .i64 ((rd_T26 t132 x167_4).f3)))).cell? _ = some _ from hx143_0));(try have hy143_1:=fun (n_ : Nat)=>(show ((((((w89.drewN n_).setCell ⟨gb141,0,none⟩ (.string ((rd_T26 t132 x167_4).f0))).setCell ⟨gb141,1,none⟩ (.int .i64 ((rd_T26 t132 x167_4).f1))).setCell ⟨gb141,2,none⟩ (.int .i64 ((rd_T26 t132 x167_4).f2))).setCell ⟨gb141,3,none⟩ (.int .i64 ((rd_T26 t132 x167_4).f3)))).cell? _ = some _ from hx143_1));(try have hy143_2:=fun (n_ : Nat)=>(show ((((((w89.drewN n_).setCell ⟨gb141,0,none⟩ (.string ((rd_T26 t132 x167_4).f0))).setCell ⟨gb141,1,none⟩ (.int .i64 ((rd_T26 t132 x167_4).f1))).setCell ⟨gb141,2,none⟩ (.int .i64 ((rd_T26 t132 x167_4).f2))).setCell ⟨gb141,3,none⟩ (.int .i64 ((rd_T26 t132 x167_4).f3)))).cell? _ = some _ from hx143_2));(try have hy143_3:=fun (n_ : Nat)=>(show ((((((w89.drewN n_).setCell ⟨gb141,0,none⟩ (.string ((rd_T26 t132 x167_4).f0))).setCell ⟨gb141,1,none⟩ (.int .i64 ((rd_T26 t132 x167_4).f1))).setCell ⟨gb141,2,none⟩ (.int .i64 ((rd_T26 t132 x167_4).f2))).setCell ⟨gb141,3,none⟩ (.int .i64 ((rd_T26 t132 x167_4).f3)))).cell? _ = some _ from hx143_3));clear hn143_0;clear hn143_1;clear hn143_2;clear hn143_3;replace p143:=eq_true p143;replace q143:=eq_true q143));try go_wp2_with (first | ((with_reducible refine gate_dst (N:=25) rfl ?_);(try (refine gate_guard (by rfl) ?_;dsimp only));refine box_event ?hg (N:=25) ?hd (cs:=#[.string (⟨#[]⟩ : ByteArray),.int .i64 0,.int .i64 0,.int .i64 0]) (t:=26) ?hr ?_;(case hd=>rfl);(case hg=>rfl);(case hr=>first | (go_simp;done) | (go_simp;rfl));intro gb141 hg w89 hbox hb;replace HO_18:=Aside0.mk (Kd.R_below (Kd.R_elderB (q16_) gb141 (Nat.le_of_eq hg.symm)) hb);replace HO_165:=Aside0.mk (Kd.R_below (Kd.R_elderB (q17_) gb141 (Nat.le_of_eq hg.symm)) hb);have BK141:=Aside0.mk (hbox);have GW141:=Aside0.mk ((by rw [hg];exact (below_size (q43_)) : w.heap.size ≤ gb141));have GE141:=Aside0.mk ((by rw [hg];exact (below_size (q43_)) : w.heap.size ≤ gb141));replace HB:=Aside0.mk (below_step (q43_) hb);have NB109_141:=Aside0.mk ((q65_ : gb109 ≠ gb141));have NB141_109:=Aside0.mk ((q66_ : gb141 ≠ gb109));replace BK109:=bkB_ BK109 hb;clear hb hbox hg;have hnb90:=NB141_109.out;have hnc90:=NB109_141.out;have hcz91_0 : w89.cell? ⟨gb141,0,none⟩ = some (.string (⟨#[]⟩ : ByteArray)):=(blk_cell BK141.out 0).trans rfl;have hcz91_1 : w89.cell? ⟨gb141,1,none⟩ = some (.int .i64 0):=(blk_cell BK141.out 1).trans rfl;have hcz91_2 : w89.cell? ⟨gb141,2,none⟩ = some (.int .i64 0):=(blk_cell BK141.out 2).trans rfl;have hcz91_3 : w89.cell? ⟨gb141,3,none⟩ = some (.int .i64 0):=(blk_cell BK141.out 3).trans rfl;have hfz91_0:=blk_frozen BK141.out 0;have hal91_0:=MAlive.alive_of hcz91_0;have hfz91_1:=blk_frozen BK141.out 1;have hal91_1:=MAlive.alive_of hcz91_1;have hfz91_2:=blk_frozen BK141.out 2;have hal91_2:=MAlive.alive_of hcz91_2;have hfz91_3:=blk_frozen BK141.out 3;have hal91_3:=MAlive.alive_of hcz91_3;have p142 : 0 ≤ (t138 : Int):=of_decide_eq_true (q2_);have q142 : t138 < (t132.length : Int):=of_decide_eq_true (q2_);obtain ⟨ad142,e142,hx142_0,hx142_1,hx142_2,hx142_3⟩:=at_T26 (Kd.R_reads' HO_18.out).2.2 t138 p142 q142;obtain rfl : ad140 = ad142:=(by injection e142);have hn142_0 : ad140.block ≠ gb141:=(HO_18.out.1 _ rfl).2;have hn142_1 : ad140.block ≠ gb141:=(HO_18.out.1 _ rfl).2;have hn142_2 : ad140.block ≠ gb141:=(HO_18.out.1 _ rfl).2;have hn142_3 : ad140.block ≠ gb141:=(HO_18.out.1 _ rfl).2;replace hx142_0:=(cell_far (p:=⟨gb141,0,none⟩) (q20_) (.string ((rd_T26 t132 x167_4).f0))).trans hx142_0;replace hx142_1:=(cell_far (p:=⟨gb141,0,none⟩) (q20_) (.string ((rd_T26 t132 x167_4).f0))).trans hx142_1;replace hx142_2:=(cell_far (p:=⟨gb141,0,none⟩) (q20_) (.string ((rd_T26 t132 x167_4).f0))).trans hx142_2;replace hx142_3:=(cell_far (p:=⟨gb141,0,none⟩) (q20_) (.string ((rd_T26 t132 x167_4).f0))).trans hx142_3;replace hx142_0:=(cell_far (p:=⟨gb141,1,none⟩) (q21_) (.int .i64 ((rd_T26 t132 x167_4).f1))).trans hx142_0;replace hx142_1:=(cell_far (p:=⟨gb141,1,none⟩) (q21_) (.int .i64 ((rd_T26 t132 x167_4).f1))).trans hx142_1;replace hx142_2:=(cell_far (p:=⟨gb141,1,none⟩) (q21_) (.int .i64 ((rd_T26 t132 x167_4).f1))).trans hx142_2;replace hx142_3:=(cell_far (p:=⟨gb141,1,none⟩) (q21_) (.int .i64 ((rd_T26 t132 x167_4).f1))).trans hx142_3;replace hx142_0:=(cell_far (p:=⟨gb141,2,none⟩) (q22_) (.int .i64 ((rd_T26 t132 x167_4).f2))).trans hx142_0;replace hx142_1:=(cell_far (p:=⟨gb141,2,none⟩) (q22_) (.int .i64 ((rd_T26 t132 x167_4).f2))).trans hx142_1;replace hx142_2:=(cell_far (p:=⟨gb141,2,none⟩) (q22_) (.int .i64 ((rd_T26 t132 x167_4).f2))).trans hx142_2;replace hx142_3:=(cell_far (p:=⟨gb141,2,none⟩) (q22_) (.int .i64 ((rd_T26 t132 x167_4).f2))).trans hx142_3;replace hx142_0:=(cell_far (p:=⟨gb141,3,none⟩) (q23_) (.int .i64 ((rd_T26 t132 x167_4).f3))).trans hx142_0;replace hx142_1:=(cell_far (p:=⟨gb141,3,none⟩) (q23_) (.int .i64 ((rd_T26 t132 x167_4).f3))).trans hx142_1;replace hx142_2:=(cell_far (p:=⟨gb141,3,none⟩) (q23_) (.int .i64 ((rd_T26 t132 x167_4).f3))).trans hx142_2;replace hx142_3:=(cell_far (p:=⟨gb141,3,none⟩) (q23_) (.int .i64 ((rd_T26 t132 x167_4).f3))).trans hx142_3;(try have hy142_0:=fun (n_ : Nat)=>(show ((((((w89.drewN n_).setCell ⟨gb141,0,none⟩ (.string ((rd_T26 t132 x167_4).f0))).setCell ⟨gb141,1,none⟩ (.int .i64 ((rd_T26 t132 x167_4).f1))).setCell ⟨gb141,2,none⟩ (.int .i64 ((rd_T26 t132 x167_4).f2))).setCell ⟨gb141,3,none⟩ (.int .i64 ((rd_T26 t132 x167_4).f3)))).cell? _ = some _ from hx142_0));(try have hy142_1:=fun (n_ : Nat)=>(show ((((((w89.drewN n_).setCell ⟨gb141,0,none⟩ (.string ((rd_T26 t132 x167_4).f0))).setCell ⟨gb141,1,none⟩ (.int .i64 ((rd_T26 t132 x167_4).f1))).setCell ⟨gb141,2,none⟩ (.int .i64 ((rd_T26 t132 x167_4).f2))).setCell ⟨gb141,3,none⟩ (.int .i64 ((rd_T26 t132 x167_4).f3)))).cell? _ = some _ from hx142_1));(try have hy142_2:=fun (n_ : Nat)=>(show ((((((w89.drewN n_).setCell ⟨gb141,0,none⟩ (.string ((rd_T26 t132 x167_4).f0))).setCell ⟨gb141,1,none⟩ (.int .i64 ((rd_T26 t132 x167_4).f1))).setCell ⟨gb141,2,none⟩ (.int .i64 ((rd_T26 t132 x167_4).f2))).setCell ⟨gb141,3,none⟩ (.int .i64 ((rd_T26 t132 x167_4).f3)))).cell? _ = some _ from hx142_2));(try have hy142_3:=fun (n_ : Nat)=>(show ((((((w89.drewN n_).setCell ⟨gb141,0,none⟩ (.string ((rd_T26 t132 x167_4).f0))).setCell ⟨gb141,1,none⟩ (.int .i64 ((rd_T26 t132 x167_4).f1))).setCell ⟨gb141,2,none⟩ (.int .i64 ((rd_T26 t132 x167_4).f2))).setCell ⟨gb141,3,none⟩ (.int .i64 ((rd_T26 t132 x167_4).f3)))).cell? _ = some _ from hx142_3));clear hn142_0;clear hn142_1;clear hn142_2;clear hn142_3;replace p142:=eq_true p142;replace q142:=eq_true q142;have p143 : 0 ≤ (t138 : Int):=of_decide_eq_true (q2_);have q143 : t138 < (t132.length : Int):=of_decide_eq_true (q2_);obtain ⟨ad143,e143,hx143_0,hx143_1,hx143_2,hx143_3⟩:=at_T26 (Kd.R_reads' HO_18.out).2.2 t138 p143 q143;obtain rfl : ad140 = ad143:=(by injection e143);have hn143_0 : ad140.block ≠ gb141:=(HO_18.out.1 _ rfl).2;have hn143_1 : ad140.block ≠ gb141:=(HO_18.out.1 _ rfl).2;have hn143_2 : ad140.block ≠ gb141:=(HO_18.out.1 _ rfl).2;have hn143_3 : ad140.block ≠ gb141:=(HO_18.out.1 _ rfl).2;replace hx143_0:=(cell_far (p:=⟨gb141,0,none⟩) (q24_) (.string ((rd_T26 t132 x167_4).f0))).trans hx143_0;replace hx143_1:=(cell_far (p:=⟨gb141,0,none⟩) (q24_) (.string ((rd_T26 t132 x167_4).f0))).trans hx143_1;replace hx143_2:=(cell_far (p:=⟨gb141,0,none⟩) (q24_) (.string ((rd_T26 t132 x167_4).f0))).trans hx143_2;replace hx143_3:=(cell_far (p:=⟨gb141,0,none⟩) (q24_) (.string ((rd_T26 t132 x167_4).f0))).trans hx143_3;replace hx143_0:=(cell_far (p:=⟨gb141,1,none⟩) (q25_) (.int .i64 ((rd_T26 t132 x167_4).f1))).trans hx143_0;replace hx143_1:=(cell_far (p:=⟨gb141,1,none⟩) (q25_) (.int .i64 ((rd_T26 t132 x167_4).f1))).trans hx143_1;replace hx143_2:=(cell_far (p:=⟨gb141,1,none⟩) (q25_) (.int .i64 ((rd_T26 t132 x167_4).f1))).trans hx143_2;replace hx143_3:=(cell_far (p:=⟨gb141,1,none⟩) (q25_) (.int .i64 ((rd_T26 t132 x167_4).f1))).trans hx143_3;replace hx143_0:=(cell_far (p:=⟨gb141,2,none⟩) (q26_) (.int .i64 ((rd_T26 t132 x167_4).f2))).trans hx143_0;replace hx143_1:=(cell_far (p:=⟨gb141,2,none⟩) (q26_) (.int .i64 ((rd_T26 t132 x167_4).f2))).trans hx143_1;replace hx143_2:=(cell_far (p:=⟨gb141,2,none⟩) (q26_) (.int .i64 ((rd_T26 t132 x167_4).f2))).trans hx143_2;replace hx143_3:=(cell_far (p:=⟨gb141,2,none⟩) (q26_) (.int .i64 ((rd_T26 t132 x167_4).f2))).trans hx143_3;replace hx143_0:=(cell_far (p:=⟨gb141,3,none⟩) (q27_) (.int .i64 ((rd_T26 t132 x167_4).f3))).trans hx143_0;replace hx143_1:=(cell_far (p:=⟨gb141,3,none⟩) (q27_) (.int .i64 ((rd_T26 t132 x167_4).f3))).trans hx143_1;replace hx143_2:=(cell_far (p:=⟨gb141,3,none⟩) (q27_) (.int .i64 ((rd_T26 t132 x167_4).f3))).trans hx143_2;replace hx143_3:=(cell_far (p:=⟨gb141,3,none⟩) (q27_) (.int .i64 ((rd_T26 t132 x167_4).f3))).trans hx143_3;(try have hy143_0:=fun (n_ : Nat)=>(show ((((((w89.drewN n_).setCell ⟨gb141,0,none⟩ (.string ((rd_T26 t132 x167_4).f0))).setCell ⟨gb141,1,none⟩ (.int .i64 ((rd_T26 t132 x167_4).f1))).setCell ⟨gb141,2,none⟩ (.int .i64 ((rd_T26 t132 x167_4).f2))).setCell ⟨gb141,3,none⟩ (.int .i64 ((rd_T26 t132 x167_4).f3)))).cell? _ = some _ from hx143_0));(try have hy143_1:=fun (n_ : Nat)=>(show ((((((w89.drewN n_).setCell ⟨gb141,0,none⟩ (.string ((rd_T26 t132 x167_4).f0))).setCell ⟨gb141,1,none⟩ (.int .i64 ((rd_T26 t132 x167_4).f1))).setCell ⟨gb141,2,none⟩ (.int .i64 ((rd_T26 t132 x167_4).f2))).setCell ⟨gb141,3,none⟩ (.int .i64 ((rd_T26 t132 x167_4).f3)))).cell? _ = some _ from hx143_1));(try have hy143_2:=fun (n_ : Nat)=>(show ((((((w89.drewN n_).setCell ⟨gb141,0,none⟩ (.string ((rd_T26 t132 x167_4).f0))).setCell ⟨gb141,1,none⟩ (.int .i64 ((rd_T26 t132 x167_4).f1))).setCell ⟨gb141,2,none⟩ (.int .i64 ((rd_T26 t132 x167_4).f2))).setCell ⟨gb141,3,none⟩ (.int .i64 ((rd_T26 t132 x167_4).f3)))).cell? _ = some _ from hx143_2));(try have hy143_3:=fun (n_ : Nat)=>(show ((((((w89.drewN n_).setCell ⟨gb141,0,none⟩ (.string ((rd_T26 t132 x167_4).f0))).setCell ⟨gb141,1,none⟩ (.int .i64 ((rd_T26 t132 x167_4).f1))).setCell ⟨gb141,2,none⟩ (.int .i64 ((rd_T26 t132 x167_4).f2))).setCell ⟨gb141,3,none⟩ (.int .i64 ((rd_T26 t132 x167_4).f3)))).cell? _ = some _ from hx143_3));clear hn143_0;clear hn143_1;clear hn143_2;clear hn143_3;replace p143:=eq_true p143;replace q143:=eq_true q143)))
                      go_roundg k4
                      case measure=>have:=HJ7.out;have:=HJ38.out;have:=HJ67.out;have:=HK4.out;omega
                      case rel=>exact ⟨(wrap64 (x167_4 + 1)),(q1_),H', ⟨by have:=HJ7.out;have:=HJ38.out;have:=HJ67.out;have:=HK4.out;omega⟩,⟨by (with_reducible repeat (first | apply Kd.R_alloc | apply Kd.R_drewN | apply Kd.R_drew));exact Kd.R_mono (Kd.R_far (p:=⟨gb141,3,none⟩) (Kd.R_far (p:=⟨gb141,2,none⟩) (Kd.R_far (p:=⟨gb141,1,none⟩) (Kd.R_far (p:=⟨gb141,0,none⟩) (Kd.R_mono HO_18.out (fun k_ hk=>(⟨hk,hk.2⟩ : _ ∧ k_ ≠ gb141))) (fun _ hk=>hk.2) (.string ((rd_T26 t132 x167_4).f0))) (fun _ hk=>hk.2) (.int .i64 ((rd_T26 t132 x167_4).f1))) (fun _ hk=>hk.2) (.int .i64 ((rd_T26 t132 x167_4).f2))) (fun _ hk=>hk.2) (.int .i64 ((rd_T26 t132 x167_4).f3))) (fun _ hk=>hk.1.1)⟩,⟨by (with_reducible repeat (first | apply Kd.R_alloc | apply Kd.R_drewN | apply Kd.R_drew));exact Kd.R_mono (Kd.R_far (p:=⟨gb141,3,none⟩) (Kd.R_far (p:=⟨gb141,2,none⟩) (Kd.R_far (p:=⟨gb141,1,none⟩) (Kd.R_far (p:=⟨gb141,0,none⟩) (Kd.R_mono HO_165.out (fun k_ hk=>(⟨hk,hk.2⟩ : _ ∧ k_ ≠ gb141))) (fun _ hk=>hk.2) (.string ((rd_T26 t132 x167_4).f0))) (fun _ hk=>hk.2) (.int .i64 ((rd_T26 t132 x167_4).f1))) (fun _ hk=>hk.2) (.int .i64 ((rd_T26 t132 x167_4).f2))) (fun _ hk=>hk.2) (.int .i64 ((rd_T26 t132 x167_4).f3))) (fun _ hk=>hk.1.1)⟩,⟨by (with_reducible repeat (first | refine blk_drewN ?_ _ | refine blk_drew ?_ | refine blk_alloc ?_ _));refine blk_far ?_ NB109_141.out _;(with_reducible repeat (first | refine blk_drewN ?_ _ | refine blk_drew ?_ | refine blk_alloc ?_ _));refine blk_far ?_ NB109_141.out _;(with_reducible repeat (first | refine blk_drewN ?_ _ | refine blk_drew ?_ | refine blk_alloc ?_ _));refine blk_far ?_ NB109_141.out _;(with_reducible repeat (first | refine blk_drewN ?_ _ | refine blk_drew ?_ | refine blk_alloc ?_ _));refine blk_far ?_ NB109_141.out _;(with_reducible repeat (first | refine blk_drewN ?_ _ | refine blk_drew ?_ | refine blk_alloc ?_ _));exact BK109.out⟩,⟨by repeat (first | (with_reducible first | exact HB.out | apply below_alloc | apply pw_below_drewN | apply below_drew1 | refine below_set ?_ GE109.out | refine below_set ?_ GE141.out) | exact HB.out)⟩⟩
                   ·rw [if_neg c82] at H;exact absurd H (by simp)
                  ·rw [if_neg c81] at H;exact absurd H (by simp)
                 ·rw [if_neg c80] at H;have c80b0 : (((rd_T26 t132 x167_4).f1) == t133) = false:=beq_eq_false_iff_ne.mpr c80;have c80b1 : (((rd_T26 t132 x167_4).f1) != t133) = true:=bne_iff_ne.mpr c80;have H' := Aside0.mk H;clear H;have p140 : 0 ≤ (x167_4 : Int):=of_decide_eq_true (q2_);have q140 : x167_4 < (t132.length : Int):=of_decide_eq_true (q2_);obtain ⟨ad140,e140,hx140_0,hx140_1,hx140_2,hx140_3⟩:=at_T26 (Kd.R_reads' HO_165.out).2.2 x167_4 p140 q140;cases e140;replace p140:=eq_true p140;replace q140:=eq_true q140;go_wp2_with (first | ((with_reducible refine gate_dst (N:=25) rfl ?_);(try (refine gate_guard (by rfl) ?_;dsimp only));refine box_event ?hg (N:=25) ?hd (cs:=#[.string (⟨#[]⟩ : ByteArray),.int .i64 0,.int .i64 0,.int .i64 0]) (t:=26) ?hr ?_;(case hd=>rfl);(case hg=>rfl);(case hr=>first | (go_simp;done) | (go_simp;rfl));intro gb141 hg w92 hbox hb;replace HO_18:=Aside0.mk (Kd.R_below (Kd.R_elderB (q16_) gb141 (Nat.le_of_eq hg.symm)) hb);replace HO_165:=Aside0.mk (Kd.R_below (Kd.R_elderB (q17_) gb141 (Nat.le_of_eq hg.symm)) hb);have BK141:=Aside0.mk (hbox);have GW141:=Aside0.mk ((by rw [hg];exact (below_size (q43_)) : w.heap.size ≤ gb141));have GE141:=Aside0.mk ((by rw [hg];exact (below_size (q43_)) : w.heap.size ≤ gb141));replace HB:=Aside0.mk (below_step (q43_) hb);have NB109_141:=Aside0.mk ((q65_ : gb109 ≠ gb141));have NB141_109:=Aside0.mk ((q66_ : gb141 ≠ gb109));replace BK109:=bkB_ BK109 hb;clear hb hbox hg;have hnb93:=NB141_109.out;have hnc93:=NB109_141.out;have hcz94_0 : w92.cell? ⟨gb141,0,none⟩ = some (.string (⟨#[]⟩ : ByteArray)):=(blk_cell BK141.out 0).trans rfl;have hcz94_1 : w92.cell? ⟨gb141,1,none⟩ = some (.int .i64 0):=(blk_cell BK141.out 1).trans rfl;have hcz94_2 : w92.cell? ⟨gb141,2,none⟩ = some (.int .i64 0):=(blk_cell BK141.out 2).trans rfl;have hcz94_3 : w92.cell? ⟨gb141,3,none⟩ = some (.int .i64 0):=(blk_cell BK141.out 3).trans rfl;have hfz94_0:=blk_frozen BK141.out 0;have hal94_0:=MAlive.alive_of hcz94_0;have hfz94_1:=blk_frozen BK141.out 1;have hal94_1:=MAlive.alive_of hcz94_1;have hfz94_2:=blk_frozen BK141.out 2;have hal94_2:=MAlive.alive_of hcz94_2;have hfz94_3:=blk_frozen BK141.out 3;have hal94_3:=MAlive.alive_of hcz94_3))
                  repeat (go_quiet (first | ((with_reducible refine gate_dst (N:=25) rfl ?_);(try (refine gate_guard (by rfl) ?_;dsimp only));refine box_event ?hg (N:=25) ?hd (cs:=#[.string (⟨#[]⟩ : ByteArray),.int .i64 0,.int .i64 0,.int .i64 0]) (t:=26) ?hr ?_;(case hd=>rfl);(case hg=>rfl);(case hr=>first | (go_simp;done) | (go_simp;rfl));intro gb141 hg w92 hbox hb;replace HO_18:=Aside0.mk (Kd.R_below (Kd.R_elderB (q16_) gb141 (Nat.le_of_eq hg.symm)) hb);replace HO_165:=Aside0.mk (Kd.R_below (Kd.R_elderB (q17_) gb141 (Nat.le_of_eq hg.symm)) hb);have BK141:=Aside0.mk (hbox);have GW141:=Aside0.mk ((by rw [hg];exact (below_size (q43_)) : w.heap.size ≤ gb141));have GE141:=Aside0.mk ((by rw [hg];exact (below_size (q43_)) : w.heap.size ≤ gb141));replace HB:=Aside0.mk (below_step (q43_) hb);have NB109_141:=Aside0.mk ((q65_ : gb109 ≠ gb141));have NB141_109:=Aside0.mk ((q66_ : gb141 ≠ gb109));replace BK109:=bkB_ BK109 hb;clear hb hbox hg;have hnb93:=NB141_109.out;have hnc93:=NB109_141.out;have hcz94_0 : w92.cell? ⟨gb141,0,none⟩ = some (.string (⟨#[]⟩ : ByteArray)):=(blk_cell BK141.out 0).trans rfl;have hcz94_1 : w92.cell? ⟨gb141,1,none⟩ = some (.int .i64 0):=(blk_cell BK141.out 1).trans rfl;have hcz94_2 : w92.cell? ⟨gb141,2,none⟩ = some (.int .i64 0):=(blk_cell BK141.out 2).trans rfl;have hcz94_3 : w92.cell? ⟨gb141,3,none⟩ = some (.int .i64 0):=(blk_cell BK141.out 3).trans rfl;have hfz94_0:=blk_frozen BK141.out 0;have hal94_0:=MAlive.alive_of hcz94_0;have hfz94_1:=blk_frozen BK141.out 1;have hal94_1:=MAlive.alive_of hcz94_1;have hfz94_2:=blk_frozen BK141.out 2;have hal94_2:=MAlive.alive_of hcz94_2;have hfz94_3:=blk_frozen BK141.out 3;have hal94_3:=MAlive.alive_of hcz94_3));try go_wp2_with (first | ((with_reducible refine gate_dst (N:=25) rfl ?_);(try (refine gate_guard (by rfl) ?_;dsimp only));refine box_event ?hg (N:=25) ?hd (cs:=#[.string (⟨#[]⟩ : ByteArray),.int .i64 0,.int .i64 0,.int .i64 0]) (t:=26) ?hr ?_;(case hd=>rfl);(case hg=>rfl);(case hr=>first | (go_simp;done) | (go_simp;rfl));intro gb141 hg w92 hbox hb;replace HO_18:=Aside0.mk (Kd.R_below (Kd.R_elderB (q16_) gb141 (Nat.le_of_eq hg.symm)) hb);replace HO_165:=Aside0.mk (Kd.R_below (Kd.R_elderB (q17_) gb141 (Nat.le_of_eq hg.symm)) hb);have BK141:=Aside0.mk (hbox);have GW141:=Aside0.mk ((by rw [hg];exact (below_size (q43_)) : w.heap.size ≤ gb141));have GE141:=Aside0.mk ((by rw [hg];exact (below_size (q43_)) : w.heap.size ≤ gb141));replace HB:=Aside0.mk (below_step (q43_) hb);have NB109_141:=Aside0.mk ((q65_ : gb109 ≠ gb141));have NB141_109:=Aside0.mk ((q66_ : gb141 ≠ gb109));replace BK109:=bkB_ BK109 hb;clear hb hbox hg;have hnb93:=NB141_109.out;have hnc93:=NB109_141.out;have hcz94_0 : w92.cell? ⟨gb141,0,none⟩ = some (.string (⟨#[]⟩ : ByteArray)):=(blk_cell BK141.out 0).trans rfl;have hcz94_1 : w92.cell? ⟨gb141,1,none⟩ = some (.int .i64 0):=(blk_cell BK141.out 1).trans rfl;have hcz94_2 : w92.cell? ⟨gb141,2,none⟩ = some (.int .i64 0):=(blk_cell BK141.out 2).trans rfl;have hcz94_3 : w92.cell? ⟨gb141,3,none⟩ = some (.int .i64 0):=(blk_cell BK141.out 3).trans rfl;have hfz94_0:=blk_frozen BK141.out 0;have hal94_0:=MAlive.alive_of hcz94_0;have hfz94_1:=blk_frozen BK141.out 1;have hal94_1:=MAlive.alive_of hcz94_1;have hfz94_2:=blk_frozen BK141.out 2;have hal94_2:=MAlive.alive_of hcz94_2;have hfz94_3:=blk_frozen BK141.out 3;have hal94_3:=MAlive.alive_of hcz94_3)))
                  go_roundg k4
                  case measure=>have:=HJ7.out;have:=HJ38.out;have:=HJ67.out;have:=HK4.out;omega
                  case rel=>exact ⟨(wrap64 (x167_4 + 1)),(q1_),H', ⟨by have:=HJ7.out;have:=HJ38.out;have:=HJ67.out;have:=HK4.out;omega⟩,⟨by (with_reducible repeat (first | apply Kd.R_alloc | apply Kd.R_drewN | apply Kd.R_drew));exact Kd.R_mono (Kd.R_far (p:=⟨gb141,3,none⟩) (Kd.R_far (p:=⟨gb141,2,none⟩) (Kd.R_far (p:=⟨gb141,1,none⟩) (Kd.R_far (p:=⟨gb141,0,none⟩) (Kd.R_mono HO_18.out (fun k_ hk=>(⟨hk,hk.2⟩ : _ ∧ k_ ≠ gb141))) (fun _ hk=>hk.2) (.string ((rd_T26 t132 x167_4).f0))) (fun _ hk=>hk.2) (.int .i64 ((rd_T26 t132 x167_4).f1))) (fun _ hk=>hk.2) (.int .i64 ((rd_T26 t132 x167_4).f2))) (fun _ hk=>hk.2) (.int .i64 ((rd_T26 t132 x167_4).f3))) (fun _ hk=>hk.1.1)⟩,⟨by (with_reducible repeat (first | apply Kd.R_alloc | apply Kd.R_drewN | apply Kd.R_drew));exact Kd.R_mono (Kd.R_far (p:=⟨gb141,3,none⟩) (Kd.R_far (p:=⟨gb141,2,none⟩) (Kd.R_far (p:=⟨gb141,1,none⟩) (Kd.R_far (p:=⟨gb141,0,none⟩) (Kd.R_mono HO_165.out (fun k_ hk=>(⟨hk,hk.2⟩ : _ ∧ k_ ≠ gb141))) (fun _ hk=>hk.2) (.string ((rd_T26 t132 x167_4).f0))) (fun _ hk=>hk.2) (.int .i64 ((rd_T26 t132 x167_4).f1))) (fun _ hk=>hk.2) (.int .i64 ((rd_T26 t132 x167_4).f2))) (fun _ hk=>hk.2) (.int .i64 ((rd_T26 t132 x167_4).f3))) (fun _ hk=>hk.1.1)⟩,⟨by (with_reducible repeat (first | refine blk_drewN ?_ _ | refine blk_drew ?_ | refine blk_alloc ?_ _));refine blk_far ?_ NB109_141.out _;(with_reducible repeat (first | refine blk_drewN ?_ _ | refine blk_drew ?_ | refine blk_alloc ?_ _));refine blk_far ?_ NB109_141.out _;(with_reducible repeat (first | refine blk_drewN ?_ _ | refine blk_drew ?_ | refine blk_alloc ?_ _));refine blk_far ?_ NB109_141.out _;(with_reducible repeat (first | refine blk_drewN ?_ _ | refine blk_drew ?_ | refine blk_alloc ?_ _));refine blk_far ?_ NB109_141.out _;(with_reducible repeat (first | refine blk_drewN ?_ _ | refine blk_drew ?_ | refine blk_alloc ?_ _));exact BK109.out⟩,⟨by repeat (first | (with_reducible first | exact HB.out | apply below_alloc | apply pw_below_drewN | apply below_drew1 | refine below_set ?_ GE109.out | refine below_set ?_ GE141.out) | exact HB.out)⟩⟩
                ·rw [if_neg c79] at H;exact absurd H (by simp)
               ·rw [if_neg c78] at H;exact absurd H (by simp)
              ·rw [if_neg c77] at H;have c77b0 : decide (x167_4 < (t132.length : Int)) = false:=decide_eq_false c77;clear c77
               (first | rw [c77b0] | (simp only [i64_w,i32_w];rw [c77b0]) | skip)
               have H' := Aside0.mk H;clear H;go_wp2;repeat (go_quiet (fail);try go_wp2)
               go_meet
               case rel=>exact ⟨_,H', ⟨by have:=HJ7.out;have:=HJ38.out;have:=HJ67.out;have:=HK4.out;first | omega | exact Nat.le_refl _⟩,⟨q19_⟩,⟨q43_⟩⟩
           ·replace c76:=Bool.eq_false_iff.mpr c76;subst c76;have H1 : (laws_FnPeople.j6 kj67 l1) = some r:=by rw [if_neg (show ¬ (false = true) by decide)] at H;exact H
            clear H;have H:=H1;clear H1;have H' := Aside0.mk H;clear H;go_wp2;repeat (go_quiet (fail);try go_wp2)
            go_meet
            case rel=>exact ⟨_,H', ⟨by have:=HJ7.out;have:=HJ38.out;have:=HJ67.out;first | omega | exact Nat.le_refl _⟩,⟨q19_⟩,⟨q43_⟩⟩
          case rest=>as_aux_lemma =>
           clear HC75;try clear c1
           try clear c4
           try clear c16
           try clear c16b0
           try clear c16b1
           try clear c16b2
           try clear c18
           try clear c19
           try clear c20
           try clear c20b0
           try clear c20b1
           try clear c22
           try clear c38
           try clear c40
           try clear c50
           try clear c51
           try clear c55
           try clear c57
           try clear c57b0
           try clear c58
           try clear c58b0
           try clear c59
           try clear c59b0
           try clear c60
           try clear c61
           try clear c61b0
           try clear c62
           try clear c62b0
           try clear c64
           try clear c73
           try clear c73b0
           try clear c73b1
           try clear c73b2
           try clear c74
           try clear c76
           try clear c77
           try clear c77b0
           try clear c78
           try clear c78b0
           try clear c79
           try clear c79b0
           try clear c80
           try clear c80b0
           try clear c80b1
           try clear c81
           try clear c81b0
           try clear c82
           try clear c82b0
           try clear c83
           try clear c83b0
           try clear c84
           try clear c84b0
           try clear c84b1
           try clear c85
           try clear c85b0
           try clear hcz11_0
           try clear hcz11_1
           try clear hcz11_2
           try clear hcz11_3
           try clear hcz14_0
           try clear hcz14_1
           try clear hcz14_2
           try clear hcz14_3
           try clear hcz27_0
           try clear hcz27_1
           try clear hcz27_2
           try clear hcz27_3
           try clear hcz44_0
           try clear hcz44_1
           try clear hcz44_2
           try clear hcz44_3
           try clear hcz47_0
           try clear hcz47_1
           try clear hcz47_2
           try clear hcz47_3
           try clear hcz63_0
           try clear hcz63_1
           try clear hcz63_2
           try clear hcz63_3
           try clear hcz88_0
           try clear hcz88_1
           try clear hcz88_2
           try clear hcz88_3
           try clear hcz91_0
           try clear hcz91_1
           try clear hcz91_2
           try clear hcz91_3
           try clear hcz94_0
           try clear hcz94_1
           try clear hcz94_2
           try clear hcz94_3
           try clear hfz11_0
           try clear hfz11_1
           try clear hfz11_2
           try clear hfz11_3
           try clear hfz14_0
           try clear hfz14_1
           try clear hfz14_2
           try clear hfz14_3
           try clear hfz27_0
           try clear hfz27_1
           try clear hfz27_2
           try clear hfz27_3
           try clear hfz44_0
           try clear hfz44_1
           try clear hfz44_2
           try clear hfz44_3
           try clear hfz47_0
           try clear hfz47_1
           try clear hfz47_2
           try clear hfz47_3
           try clear hfz63_0
           try clear hfz63_1
           try clear hfz63_2
           try clear hfz63_3
           try clear hfz88_0
           try clear hfz88_1
           try clear hfz88_2
           try clear hfz88_3
           try clear hfz91_0
           try clear hfz91_1
           try clear hfz91_2
           try clear hfz91_3
           try clear hfz94_0
           try clear hfz94_1
           try clear hfz94_2
           try clear hfz94_3
           try clear hx130_0
           try clear hx131_0
           try clear hx131_1
           try clear hx131_2
           try clear hx131_3
           try clear hx140_0
           try clear hx140_1
           try clear hx140_2
           try clear hx140_3
           try clear hx142_0
           try clear hx142_1
           try clear hx142_2
           try clear hx142_3
           try clear hx143_0
           try clear hx143_1
           try clear hx143_2
           try clear hx143_3
           try clear p130
           try clear p131
           try clear p140
           try clear p142
           try clear p143
           try clear q130
           try clear q131
           try clear q140
           try clear q142
           try clear q143
           obtain ⟨kq,HA,HJ74,BK109,HB⟩:=hcut;cases kq with
           | zero=>exact absurd HA.out (by simp [laws_FnPeople.j6])
           | succ kj74 =>
            have H:=HA.out;clear HA;simp only [laws_FnPeople.j6] at H;replace H:=Option.bind_eq_some_iff.mp H;obtain ⟨⟨t144,t145,t146⟩,A950,H⟩:=H;(try dsimp only at H);have A95:=Aside0.mk A950;clear A950;replace H:=Option.bind_eq_some_iff.mp H;obtain ⟨⟨t149,t150⟩,A960,H⟩:=H;(try dsimp only at H);have A96:=Aside0.mk A960;clear A960;replace H:=Option.bind_eq_some_iff.mp H;obtain ⟨⟨t153,t154⟩,A970,H⟩:=H;(try dsimp only at H);have A97:=Aside0.mk A970;clear A970;replace H:=Option.bind_eq_some_iff.mp H;obtain ⟨t157,A980,H⟩:=H;(try dsimp only at H);have A98:=Aside0.mk A980;clear A980;replace H:=Option.bind_eq_some_iff.mp H;obtain ⟨⟨t160,t161⟩,A990,H⟩:=H;(try dsimp only at H);have A99:=Aside0.mk A990;clear A990;replace H:=Option.bind_eq_some_iff.mp H;obtain ⟨⟨t162,t163⟩,A1000,H⟩:=H;(try dsimp only at H);have A100:=Aside0.mk A1000;clear A1000;have HC101:=Aside0.mk H;clear H;go_upto_region 39 with (first | (go_at_call 20;(with_reducible refine (spec_DrawWhoIs.calls kj74 _ _ l1 t144 t145 t146 _ ?side1 ?side2 A95.out).mono ?_);(case side1=>exact cX_ (Kd.C_below HR1.out HB.out));(case side2=>exact HC1.out);rintro e w102 ⟨v147,rfl,ho0,hb⟩;have HO148:=Aside0.mk (Kd.R_lower (Kd.R_newB ho0 (g:=gb109) (o:=.cells #[.string t105,.int .i64 t106,.int .i64 t107,.int .i64 t108] 26 (0,0)) (q19_)) (below_size (q43_)));replace BK109:=bkB_ BK109 hb;replace HB:=Aside0.mk (below_step (q43_) hb);(try clear hb);(try clear ho0);obtain ⟨Ao103,co103,eo103⟩:=Kd.R_slice HO148.out;subst eo103) | (go_at_call 14;(with_reducible refine (impl_WhoIs.calls kj74 _ _ t144 t145 t146 t149 t150 _ ?side1 ?side2 A96.out).mono ?_);(case side1=>exact cX_ (Kd.R_reads' HO148.out).2.2);(case side2=>exact (Kd.R_reads' HO148.out).2.1);rintro e w104 ⟨v151,rfl,ho0,hb⟩;replace HO148:=rB_ HO148 hb;have HO152:=Aside0.mk (Kd.R_lower ho0 (below_size (q43_)));replace BK109:=bkB_ BK109 hb;replace HB:=Aside0.mk (below_step (q43_) hb);(try clear hb);(try clear ho0)) | (go_at_call 15;(with_reducible refine (spec_WhoIs.calls kj74 _ _ t144 t145 t146 t153 t154 _ ?side1 ?side2 A97.out).mono ?_);(case side1=>exact cX_ (Kd.R_reads' HO148.out).2.2);(case side2=>exact (Kd.R_reads' HO148.out).2.1);rintro e w105 ⟨v155,rfl,ho0,hb⟩;replace HO148:=rB_ HO148 hb;have HO156:=Aside0.mk (Kd.R_lower (Kd.R_new' ho0 (Kd.R_lt (by (with_reducible repeat (first | apply Kd.R_alloc | apply Kd.R_drewN | apply Kd.R_drew));exact HO152.out))) (below_size (q43_)));replace HO152:=rE_ HO152 ho0 hb;replace BK109:=bkB_ BK109 hb;replace HB:=Aside0.mk (below_step (q43_) hb);(try clear hb);(try clear ho0)) | (go_at_call 21;(with_reducible refine (spec_DrawPeopleText.calls kj74 _ _ l1 t157 _ ?side1 ?side2 A98.out).mono ?_);(case side1=>exact cX_ (Kd.C_below HR1.out HB.out));(case side2=>exact HC1.out);rintro e w106 ⟨v158,rfl,ho0,hb⟩;replace HO152:=rB_ HO152 hb;replace HO156:=rB_ HO156 hb;have HO159:=Aside0.mk (Kd.R_lower (Kd.R_newB (Kd.R_new' ho0 (Kd.R_lt (by (with_reducible repeat (first | apply Kd.R_alloc | apply Kd.R_drewN | apply Kd.R_drew));exact HO148.out))) (g:=gb109) (o:=.cells #[.string t105,.int .i64 t106,.int .i64 t107,.int .i64 t108] 26 (0,0)) (q19_)) (below_size (q43_)));replace HO148:=rE_ HO148 ho0 hb;replace BK109:=bkB_ BK109 hb;replace HB:=Aside0.mk (below_step (q43_) hb);(try clear hb);(try clear ho0);obtain ⟨Ao107,co107,eo107⟩:=Kd.R_slice HO159.out;subst eo107) | (go_at_call 22;(with_reducible refine (impl_PeopleText.calls kj74 _ _ t157 t160 t161 _ (HTab.out _ (q43_)) ?side1 ?side2 A99.out).mono ?_);(case side1=>exact cX_ (Kd.R_reads' HO159.out).2.2);(case side2=>exact (Kd.R_reads' HO159.out).2.1);rintro e w108 ⟨rfl,hb⟩;replace HO148:=rB_ HO148 hb;replace HO152:=rB_ HO152 hb;replace HO156:=rB_ HO156 hb;replace HO159:=rB_ HO159 hb;replace BK109:=bkB_ BK109 hb;replace HB:=Aside0.mk (below_step (q43_) hb);(try clear hb)) | (go_at_call 23;(with_reducible refine (spec_PeopleText.calls kj74 _ _ t157 t162 t163 _ ?side1 ?side2 A100.out).mono ?_);(case side1=>exact cX_ (Kd.R_reads' HO159.out).2.2);(case side2=>exact (Kd.R_reads' HO159.out).2.1);rintro e w109 ⟨rfl,hb⟩;replace HO148:=rB_ HO148 hb;replace HO152:=rB_ HO152 hb;replace HO156:=rB_ HO156 hb;replace HO159:=rB_ HO159 hb;replace BK109:=bkB_ BK109 hb;replace HB:=Aside0.mk (below_step (q43_) hb);(try clear hb)))
            repeat (go_quiet (first | (go_at_call 20;(with_reducible refine (spec_DrawWhoIs.calls kj74 _ _ l1 t144 t145 t146 _ ?side1 ?side2 A95.out).mono ?_);(case side1=>exact cX_ (Kd.C_below HR1.out HB.out));(case side2=>exact HC1.out);rintro e w102 ⟨v147,rfl,ho0,hb⟩;have HO148:=Aside0.mk (Kd.R_lower (Kd.R_newB ho0 (g:=gb109) (o:=.cells #[.string t105,.int .i64 t106,.int .i64 t107,.int .i64 t108] 26 (0,0)) (q19_)) (below_size (q43_)));replace BK109:=bkB_ BK109 hb;replace HB:=Aside0.mk (below_step (q43_) hb);(try clear hb);(try clear ho0);obtain ⟨Ao103,co103,eo103⟩:=Kd.R_slice HO148.out;subst eo103) | (go_at_call 14;(with_reducible refine (impl_WhoIs.calls kj74 _ _ t144 t145 t146 t149 t150 _ ?side1 ?side2 A96.out).mono ?_);(case side1=>exact cX_ (Kd.R_reads' HO148.out).2.2);(case side2=>exact (Kd.R_reads' HO148.out).2.1);rintro e w104 ⟨v151,rfl,ho0,hb⟩;replace HO148:=rB_ HO148 hb;have HO152:=Aside0.mk (Kd.R_lower ho0 (below_size (q43_)));replace BK109:=bkB_ BK109 hb;replace HB:=Aside0.mk (below_step (q43_) hb);(try clear hb);(try clear ho0)) | (go_at_call 15;(with_reducible refine (spec_WhoIs.calls kj74 _ _ t144 t145 t146 t153 t154 _ ?side1 ?side2 A97.out).mono ?_);(case side1=>exact cX_ (Kd.R_reads' HO148.out).2.2);(case side2=>exact (Kd.R_reads' HO148.out).2.1);rintro e w105 ⟨v155,rfl,ho0,hb⟩;replace HO148:=rB_ HO148 hb;have HO156:=Aside0.mk (Kd.R_lower (Kd.R_new' ho0 (Kd.R_lt (by (with_reducible repeat (first | apply Kd.R_alloc | apply Kd.R_drewN | apply Kd.R_drew));exact HO152.out))) (below_size (q43_)));replace HO152:=rE_ HO152 ho0 hb;replace BK109:=bkB_ BK109 hb;replace HB:=Aside0.mk (below_step (q43_) hb);(try clear hb);(try clear ho0)) | (go_at_call 21;(with_reducible refine (spec_DrawPeopleText.calls kj74 _ _ l1 t157 _ ?side1 ?side2 A98.out).mono ?_);(case side1=>exact cX_ (Kd.C_below HR1.out HB.out));(case side2=>exact HC1.out);rintro e w106 ⟨v158,rfl,ho0,hb⟩;replace HO152:=rB_ HO152 hb;replace HO156:=rB_ HO156 hb;have HO159:=Aside0.mk (Kd.R_lower (Kd.R_newB (Kd.R_new' ho0 (Kd.R_lt (by (with_reducible repeat (first | apply Kd.R_alloc | apply Kd.R_drewN | apply Kd.R_drew));exact HO148.out))) (g:=gb109) (o:=.cells #[.string t105,.int .i64 t106,.int .i64 t107,.int .i64 t108] 26 (0,0)) (q19_)) (below_size (q43_)));replace HO148:=rE_ HO148 ho0 hb;replace BK109:=bkB_ BK109 hb;replace HB:=Aside0.mk (below_step (q43_) hb);(try clear hb);(try clear ho0);obtain ⟨Ao107,co107,eo107⟩:=Kd.R_slice HO159.out;subst eo107) | (go_at_call 22;(with_reducible refine (impl_PeopleText.calls kj74 _ _ t157 t160 t161 _ (HTab.out _ (q43_)) ?side1 ?side2 A99.out).mono ?_);(case side1=>exact cX_ (Kd.R_reads' HO159.out).2.2);(case side2=>exact (Kd.R_reads' HO159.out).2.1);rintro e w108 ⟨rfl,hb⟩;replace HO148:=rB_ HO148 hb;replace HO152:=rB_ HO152 hb;replace HO156:=rB_ HO156 hb;replace HO159:=rB_ HO159 hb;replace BK109:=bkB_ BK109 hb;replace HB:=Aside0.mk (below_step (q43_) hb);(try clear hb)) | (go_at_call 23;(with_reducible refine (spec_PeopleText.calls kj74 _ _ t157 t162 t163 _ ?side1 ?side2 A100.out).mono ?_);(case side1=>exact cX_ (Kd.R_reads' HO159.out).2.2);(case side2=>exact (Kd.R_reads' HO159.out).2.1);rintro e w109 ⟨rfl,hb⟩;replace HO148:=rB_ HO148 hb;replace HO152:=rB_ HO152 hb;replace HO156:=rB_ HO156 hb;replace HO159:=rB_ HO159 hb;replace BK109:=bkB_ BK109 hb;replace HB:=Aside0.mk (below_step (q43_) hb);(try clear hb)));go_upto_region 39 with (first | (go_at_call 20;(with_reducible refine (spec_DrawWhoIs.calls kj74 _ _ l1 t144 t145 t146 _ ?side1 ?side2 A95.out).mono ?_);(case side1=>exact cX_ (Kd.C_below HR1.out HB.out));(case side2=>exact HC1.out);rintro e w102 ⟨v147,rfl,ho0,hb⟩;have HO148:=Aside0.mk (Kd.R_lower (Kd.R_newB ho0 (g:=gb109) (o:=.cells #[.string t105,.int .i64 t106,.int .i64 t107,.int .i64 t108] 26 (0,0)) (q19_)) (below_size (q43_)));replace BK109:=bkB_ BK109 hb;replace HB:=Aside0.mk (below_step (q43_) hb);(try clear hb);(try clear ho0);obtain ⟨Ao103,co103,eo103⟩:=Kd.R_slice HO148.out;subst eo103) | (go_at_call 14;(with_reducible refine (impl_WhoIs.calls kj74 _ _ t144 t145 t146 t149 t150 _ ?side1 ?side2 A96.out).mono ?_);(case side1=>exact cX_ (Kd.R_reads' HO148.out).2.2);(case side2=>exact (Kd.R_reads' HO148.out).2.1);rintro e w104 ⟨v151,rfl,ho0,hb⟩;replace HO148:=rB_ HO148 hb;have HO152:=Aside0.mk (Kd.R_lower ho0 (below_size (q43_)));replace BK109:=bkB_ BK109 hb;replace HB:=Aside0.mk (below_step (q43_) hb);(try clear hb);(try clear ho0)) | (go_at_call 15;(with_reducible refine (spec_WhoIs.calls kj74 _ _ t144 t145 t146 t153 t154 _ ?side1 ?side2 A97.out).mono ?_);(case side1=>exact cX_ (Kd.R_reads' HO148.out).2.2);(case side2=>exact (Kd.R_reads' HO148.out).2.1);rintro e w105 ⟨v155,rfl,ho0,hb⟩;replace HO148:=rB_ HO148 hb;have HO156:=Aside0.mk (Kd.R_lower (Kd.R_new' ho0 (Kd.R_lt (by (with_reducible repeat (first | apply Kd.R_alloc | apply Kd.R_drewN | apply Kd.R_drew));exact HO152.out))) (below_size (q43_)));replace HO152:=rE_ HO152 ho0 hb;replace BK109:=bkB_ BK109 hb;replace HB:=Aside0.mk (below_step (q43_) hb);(try clear hb);(try clear ho0)) | (go_at_call 21;(with_reducible refine (spec_DrawPeopleText.calls kj74 _ _ l1 t157 _ ?side1 ?side2 A98.out).mono ?_);(case side1=>exact cX_ (Kd.C_below HR1.out HB.out));(case side2=>exact HC1.out);rintro e w106 ⟨v158,rfl,ho0,hb⟩;replace HO152:=rB_ HO152 hb;replace HO156:=rB_ HO156 hb;have HO159:=Aside0.mk (Kd.R_lower (Kd.R_newB (Kd.R_new' ho0 (Kd.R_lt (by (with_reducible repeat (first | apply Kd.R_alloc | apply Kd.R_drewN | apply Kd.R_drew));exact HO148.out))) (g:=gb109) (o:=.cells #[.string t105,.int .i64 t106,.int .i64 t107,.int .i64 t108] 26 (0,0)) (q19_)) (below_size (q43_)));replace HO148:=rE_ HO148 ho0 hb;replace BK109:=bkB_ BK109 hb;replace HB:=Aside0.mk (below_step (q43_) hb);(try clear hb);(try clear ho0);obtain ⟨Ao107,co107,eo107⟩:=Kd.R_slice HO159.out;subst eo107) | (go_at_call 22;(with_reducible refine (impl_PeopleText.calls kj74 _ _ t157 t160 t161 _ (HTab.out _ (q43_)) ?side1 ?side2 A99.out).mono ?_);(case side1=>exact cX_ (Kd.R_reads' HO159.out).2.2);(case side2=>exact (Kd.R_reads' HO159.out).2.1);rintro e w108 ⟨rfl,hb⟩;replace HO148:=rB_ HO148 hb;replace HO152:=rB_ HO152 hb;replace HO156:=rB_ HO156 hb;replace HO159:=rB_ HO159 hb;replace BK109:=bkB_ BK109 hb;replace HB:=Aside0.mk (below_step (q43_) hb);(try clear hb)) | (go_at_call 23;(with_reducible refine (spec_PeopleText.calls kj74 _ _ t157 t162 t163 _ ?side1 ?side2 A100.out).mono ?_);(case side1=>exact cX_ (Kd.R_reads' HO159.out).2.2);(case side2=>exact (Kd.R_reads' HO159.out).2.1);rintro e w109 ⟨rfl,hb⟩;replace HO148:=rB_ HO148 hb;replace HO152:=rB_ HO152 hb;replace HO156:=rB_ HO156 hb;replace HO159:=rB_ HO159 hb;replace BK109:=bkB_ BK109 hb;replace HB:=Aside0.mk (below_step (q43_) hb);(try clear hb))))
            (try simp only [Act.put,List.setIfInBounds_toArray,List.set_cons_zero,List.set_cons_succ])
            go_cut [258] (fun v258 wc=>∃ (kq : Nat) (x258_100 : Bool),v258 = .bool x258_100 ∧ Aside0 (laws_FnPeople.j7 kq t144 t145 t146 t153 x258_100 = some r) ∧ Aside0 (kq ≤ kj74) ∧ Aside0 (Kd.R k26 26 wc w.heap.size (fun k_=>k_ ≠ gb109) (.slice Ao103 t144.length co103) t144) ∧ Aside0 (Kd.R (Kd.int .i64) 3 wc w.heap.size (fun _=>True) v155 t153) ∧ Aside0 (wc.heap[gb109]? = some (.cells #[.string t105,.int .i64 t106,.int .i64 t107,.int .i64 t108] 26 (0,0))) ∧ Aside0 (Below w.heap.size w wc))
            case first=>as_aux_lemma =>
             have H:=HC101.out;clear HC101;by_cases c110 : (t150 != t154) = true
             ·rw [if_pos c110] at H;have c110b0 : (t150 != t154) = true:=c110
              (try (have c110b1 : decide (t150 = t154) = false:=by simpa using c110))
              (try (have c110b2 : (t150 == t154) = false:=by simpa using c110))
              (try (have c110b3 : ¬ (t150 = t154):=by simpa using c110))
              clear c110
              (first | rw [c110b0] | (simp only [i64_w,i32_w];rw [c110b0]) | skip)
              first | with_reducible exact (laws_FnPeople.j0_no H ht_.out).elim | with_reducible exact (laws_FnPeople.j4_no H ht_.out).elim | with_reducible exact (laws_FnPeople.j7_no H ht_.out).elim | with_reducible exact (laws_FnPeople.j1_no H ht_.out).elim
             ·rw [if_neg c110] at H;have c110b0 : (t150 != t154) = false:=by simpa using c110
              (try (have c110b1 : decide (t150 = t154) = true:=by simpa using c110))
              (try (have c110b2 : (t150 == t154) = true:=by simpa using c110))
              clear c110
              (first | rw [c110b0] | (simp only [i64_w,i32_w];rw [c110b0]) | skip)
              replace H:=Option.bind_eq_some_iff.mp H;obtain ⟨t164,A1110,H⟩:=H;(try dsimp only at H);have A111:=Aside0.mk A1110;clear A1110;by_cases c112 : t164 = true
              ·subst c112;have H1 : (if (t161 != t163) = true then (laws_FnPeople.j7 kj74 t144 t145 t146 t153 true) else (if t160.toList = t162.toList then ((impl_ArePeople.f kj74 t157).bind fun t165=>(laws_FnPeople.j7 kj74 t144 t145 t146 t153 (t161 != t165))) else (laws_FnPeople.j7 kj74 t144 t145 t146 t153 true))) = some r:=by rw [if_pos rfl] at H;exact H
               clear H;have H:=H1;clear H1;by_cases c113 : (t161 != t163) = true
               ·rw [if_pos c113] at H;have c113b0 : (t161 != t163) = true:=c113
                (try (have c113b1 : decide (t161 = t163) = false:=by simpa using c113))
                (try (have c113b2 : (t161 == t163) = false:=by simpa using c113))
                (try (have c113b3 : ¬ (t161 = t163):=by simpa using c113))
                clear c113;first | with_reducible exact (laws_FnPeople.j0_no H ht_.out).elim | with_reducible exact (laws_FnPeople.j4_no H ht_.out).elim | with_reducible exact (laws_FnPeople.j7_no H ht_.out).elim | with_reducible exact (laws_FnPeople.j1_no H ht_.out).elim
               ·rw [if_neg c113] at H;have c113b0 : (t161 != t163) = false:=by simpa using c113
                (try (have c113b1 : decide (t161 = t163) = true:=by simpa using c113))
                (try (have c113b2 : (t161 == t163) = true:=by simpa using c113))
                clear c113;by_cases c116 : t160.toList = t162.toList
                ·rw [if_pos c116] at H;have c116b0 : (t160.toList == t162.toList) = true:=beq_iff_eq.mpr c116;have c116b1 : (t160.toList != t162.toList) = false:=bne_eq_false_iff_eq.mpr c116;clear c116;replace H:=Option.bind_eq_some_iff.mp H;obtain ⟨t165,A1170,H⟩:=H;(try dsimp only at H);have A117:=Aside0.mk A1170;clear A1170;have H' := Aside0.mk H;clear H;obtain ⟨Ao118,co118,eo118⟩:=Kd.R_slice HO152.out;subst eo118;obtain ⟨Ao119,co119,eo119⟩:=Kd.R_slice HO156.out;subst eo119;go_wp2_with (first | (go_at_call 16;(with_reducible refine (laws_sameInts.calls kj74 _ _ t149 _ _ t153 true _ ?side1 ?side2 ?side3 ?side4 A111.out).mono ?_);(case side1=>exact cX_ (Kd.R_reads' HO152.out).2.2);(case side2=>exact (Kd.R_reads' HO152.out).2.1);(case side3=>exact cX_ (Kd.R_reads' HO156.out).2.2);(case side4=>exact (Kd.R_reads' HO156.out).2.1);rintro e w' ⟨rfl,⟨nd,rfl⟩⟩;(try first | exact ⟨rfl,_,World.drewN_drewN _ _ _⟩ | exact ⟨rfl,_,Eq.trans (World.drewN_drewN _ _ _) (congrArg (World.drewN _) (Nat.add_assoc _ _ _))⟩)) | (go_at_call 12;(with_reducible refine (impl_ArePeople.calls kj74 _ _ t157 t165 _ ?side1 ?side2 A117.out).mono ?_);(case side1=>exact cX_ (Kd.R_reads' HO159.out).2.2);(case side2=>exact (Kd.R_reads' HO159.out).2.1);rintro e w120 ⟨rfl,hb⟩;replace HO148:=rB_ HO148 hb;replace HO152:=rB_ HO152 hb;replace HO156:=rB_ HO156 hb;replace HO159:=rB_ HO159 hb;replace BK109:=bkB_ BK109 hb;replace HB:=Aside0.mk (below_step (q43_) hb);(try clear hb)))
                 repeat (go_quiet (first | (go_at_call 16;(with_reducible refine (laws_sameInts.calls kj74 _ _ t149 _ _ t153 true _ ?side1 ?side2 ?side3 ?side4 A111.out).mono ?_);(case side1=>exact cX_ (Kd.R_reads' HO152.out).2.2);(case side2=>exact (Kd.R_reads' HO152.out).2.1);(case side3=>exact cX_ (Kd.R_reads' HO156.out).2.2);(case side4=>exact (Kd.R_reads' HO156.out).2.1);rintro e w' ⟨rfl,⟨nd,rfl⟩⟩;(try first | exact ⟨rfl,_,World.drewN_drewN _ _ _⟩ | exact ⟨rfl,_,Eq.trans (World.drewN_drewN _ _ _) (congrArg (World.drewN _) (Nat.add_assoc _ _ _))⟩)) | (go_at_call 12;(with_reducible refine (impl_ArePeople.calls kj74 _ _ t157 t165 _ ?side1 ?side2 A117.out).mono ?_);(case side1=>exact cX_ (Kd.R_reads' HO159.out).2.2);(case side2=>exact (Kd.R_reads' HO159.out).2.1);rintro e w120 ⟨rfl,hb⟩;replace HO148:=rB_ HO148 hb;replace HO152:=rB_ HO152 hb;replace HO156:=rB_ HO156 hb;replace HO159:=rB_ HO159 hb;replace BK109:=bkB_ BK109 hb;replace HB:=Aside0.mk (below_step (q43_) hb);(try clear hb)));try go_wp2_with (first | (go_at_call 16;(with_reducible refine (laws_sameInts.calls kj74 _ _ t149 _ _ t153 true _ ?side1 ?side2 ?side3 ?side4 A111.out).mono ?_);(case side1=>exact cX_ (Kd.R_reads' HO152.out).2.2);(case side2=>exact (Kd.R_reads' HO152.out).2.1);(case side3=>exact cX_ (Kd.R_reads' HO156.out).2.2);(case side4=>exact (Kd.R_reads' HO156.out).2.1);rintro e w' ⟨rfl,⟨nd,rfl⟩⟩;(try first | exact ⟨rfl,_,World.drewN_drewN _ _ _⟩ | exact ⟨rfl,_,Eq.trans (World.drewN_drewN _ _ _) (congrArg (World.drewN _) (Nat.add_assoc _ _ _))⟩)) | (go_at_call 12;(with_reducible refine (impl_ArePeople.calls kj74 _ _ t157 t165 _ ?side1 ?side2 A117.out).mono ?_);(case side1=>exact cX_ (Kd.R_reads' HO159.out).2.2);(case side2=>exact (Kd.R_reads' HO159.out).2.1);rintro e w120 ⟨rfl,hb⟩;replace HO148:=rB_ HO148 hb;replace HO152:=rB_ HO152 hb;replace HO156:=rB_ HO156 hb;replace HO159:=rB_ HO159 hb;replace BK109:=bkB_ BK109 hb;replace HB:=Aside0.mk (below_step (q43_) hb);(try clear hb))))
                 go_meet
                 case rel=>exact ⟨_,((t161 != t165)),(q1_),H', ⟨by have:=HJ7.out;have:=HJ38.out;have:=HJ67.out;have:=HJ74.out;first | omega | exact Nat.le_refl _⟩,⟨by (with_reducible repeat (first | apply Kd.R_alloc | apply Kd.R_drewN | apply Kd.R_drew));exact Kd.R_mono HO148.out (fun _ hk=>hk.1.2)⟩,⟨by (with_reducible repeat (first | apply Kd.R_alloc | apply Kd.R_drewN | apply Kd.R_drew));exact Kd.R_mono HO156.out (fun _ hk=>trivial)⟩,⟨q19_⟩,⟨q43_⟩⟩
                ·rw [if_neg c116] at H;have c116b0 : (t160.toList == t162.toList) = false:=beq_eq_false_iff_ne.mpr c116;have c116b1 : (t160.toList != t162.toList) = true:=bne_iff_ne.mpr c116;first | with_reducible exact (laws_FnPeople.j0_no H ht_.out).elim | with_reducible exact (laws_FnPeople.j4_no H ht_.out).elim | with_reducible exact (laws_FnPeople.j7_no H ht_.out).elim | with_reducible exact (laws_FnPeople.j1_no H ht_.out).elim
              ·replace c112:=Bool.eq_false_iff.mpr c112;subst c112;have H1 : (laws_FnPeople.j7 kj74 t144 t145 t146 t153 true) = some r:=by rw [if_neg (show ¬ (false = true) by decide)] at H;exact H
               clear H;have H:=H1;clear H1;first | with_reducible exact (laws_FnPeople.j0_no H ht_.out).elim | with_reducible exact (laws_FnPeople.j4_no H ht_.out).elim | with_reducible exact (laws_FnPeople.j7_no H ht_.out).elim | with_reducible exact (laws_FnPeople.j1_no H ht_.out).elim
            case rest=>as_aux_lemma =>
             clear HC101;try clear c1
             try clear c4
             try clear c16
             try clear c16b0
             try clear c16b1
             try clear c16b2
             try clear c18
             try clear c19
             try clear c20
             try clear c20b0
             try clear c20b1
             try clear c22
             try clear c38
             try clear c40
             try clear c50
             try clear c51
             try clear c55
             try clear c57
             try clear c57b0
             try clear c58
             try clear c58b0
             try clear c59
             try clear c59b0
             try clear c60
             try clear c61
             try clear c61b0
             try clear c62
             try clear c62b0
             try clear c64
             try clear c73
             try clear c73b0
             try clear c73b1
             try clear c73b2
             try clear c74
             try clear c76
             try clear c77
             try clear c77b0
             try clear c78
             try clear c78b0
             try clear c79
             try clear c79b0
             try clear c80
             try clear c80b0
             try clear c80b1
             try clear c81
             try clear c81b0
             try clear c82
             try clear c82b0
             try clear c83
             try clear c83b0
             try clear c84
             try clear c84b0
             try clear c84b1
             try clear c85
             try clear c85b0
             try clear c110
             try clear c110b0
             try clear c110b1
             try clear c110b2
             try clear c112
             try clear c113
             try clear c113b0
             try clear c113b1
             try clear c113b2
             try clear c116
             try clear c116b0
             try clear c116b1
             try clear hcz11_0
             try clear hcz11_1
             try clear hcz11_2
             try clear hcz11_3
             try clear hcz14_0
             try clear hcz14_1
             try clear hcz14_2
             try clear hcz14_3
             try clear hcz27_0
             try clear hcz27_1
             try clear hcz27_2
             try clear hcz27_3
             try clear hcz44_0
             try clear hcz44_1
             try clear hcz44_2
             try clear hcz44_3
             try clear hcz47_0
             try clear hcz47_1
             try clear hcz47_2
             try clear hcz47_3
             try clear hcz63_0
             try clear hcz63_1
             try clear hcz63_2
             try clear hcz63_3
             try clear hcz88_0
             try clear hcz88_1
             try clear hcz88_2
             try clear hcz88_3
             try clear hcz91_0
             try clear hcz91_1
             try clear hcz91_2
             try clear hcz91_3
             try clear hcz94_0
             try clear hcz94_1
             try clear hcz94_2
             try clear hcz94_3
             try clear hfz11_0
             try clear hfz11_1
             try clear hfz11_2
             try clear hfz11_3
             try clear hfz14_0
             try clear hfz14_1
             try clear hfz14_2
             try clear hfz14_3
             try clear hfz27_0
             try clear hfz27_1
             try clear hfz27_2
             try clear hfz27_3
             try clear hfz44_0
             try clear hfz44_1
             try clear hfz44_2
             try clear hfz44_3
             try clear hfz47_0
             try clear hfz47_1
             try clear hfz47_2
             try clear hfz47_3
             try clear hfz63_0
             try clear hfz63_1
             try clear hfz63_2
             try clear hfz63_3
             try clear hfz88_0
             try clear hfz88_1
             try clear hfz88_2
             try clear hfz88_3
             try clear hfz91_0
             try clear hfz91_1
             try clear hfz91_2
             try clear hfz91_3
             try clear hfz94_0
             try clear hfz94_1
             try clear hfz94_2
             try clear hfz94_3
             try clear hx130_0
             try clear hx131_0
             try clear hx131_1
             try clear hx131_2
             try clear hx131_3
             try clear hx140_0
             try clear hx140_1
             try clear hx140_2
             try clear hx140_3
             try clear hx142_0
             try clear hx142_1
             try clear hx142_2
             try clear hx142_3
             try clear hx143_0
             try clear hx143_1
             try clear hx143_2
             try clear hx143_3
             try clear p130
             try clear p131
             try clear p140
             try clear p142
             try clear p143
             try clear q130
             try clear q131
             try clear q140
             try clear q142
             try clear q143
             obtain ⟨kq,x258_100,rfl,HA,HJ100,HO_26,HO_31,BK109,HB⟩:=hcut;cases kq with
             | zero=>exact absurd HA.out (by simp [laws_FnPeople.j7])
             | succ kj100 =>
              have H:=HA.out;clear HA;simp only [laws_FnPeople.j7] at H;by_cases c125 : x258_100 = true
              ·subst c125;have H1 : (some false) = some r:=by rw [if_pos rfl] at H;exact H
               clear H;have H:=H1;clear H1;exact absurd (Option.some.inj H) (by rw [ht_.out];decide)
              ·replace c125:=Bool.eq_false_iff.mpr c125;subst c125;have H1 : (laws_FnPeople.l2 kj100 t144 t145 t146 t153 (t153.length : Int) 0) = some r:=by rw [if_neg (show ¬ (false = true) by decide)] at H;exact H
               clear H;have H:=H1;clear H1;have H' := Aside0.mk H;clear H;obtain ⟨Ao126,co126,eo126⟩:=Kd.R_slice HO_31.out;subst eo126;go_wp2;repeat (go_quiet (fail);try go_wp2)
               go_loopg [261] kj100 (fun kq v261 w' => ∃ (x261_6 : Int),v261 = .int .i64 x261_6 ∧ Aside0 (laws_FnPeople.l2 kq t144 t145 t146 t153 (t153.length : Int) x261_6 = some r) ∧ Aside0 (kq ≤ kj100) ∧ Aside0 (Kd.R k26 26 w' w.heap.size (fun k_=>k_ ≠ gb109) (.slice Ao103 t144.length co103) t144) ∧ Aside0 (Kd.R (Kd.int .i64) 3 w' w.heap.size (fun _=>True) (.slice Ao126 t153.length co126) t153) ∧ Aside0 (w'.heap[gb109]? = some (.cells #[.string t105,.int .i64 t106,.int .i64 t107,.int .i64 t108] 26 (0,0))) ∧ Aside0 (Below w.heap.size w w'))
               case atStart=>exact ⟨(0),(q1_),H', ⟨Nat.le_refl _⟩,⟨by (with_reducible repeat (first | apply Kd.R_alloc | apply Kd.R_drewN | apply Kd.R_drew));exact HO_26.out⟩,⟨by (with_reducible repeat (first | apply Kd.R_alloc | apply Kd.R_drewN | apply Kd.R_drew));exact HO_31.out⟩,⟨q19_⟩,⟨q43_⟩⟩
               case round =>
                clear H';try clear c1
                try clear c4
                try clear c16
                try clear c16b0
                try clear c16b1
                try clear c16b2
                try clear c18
                try clear c19
                try clear c20
                try clear c20b0
                try clear c20b1
                try clear c22
                try clear c38
                try clear c40
                try clear c50
                try clear c51
                try clear c55
                try clear c57
                try clear c57b0
                try clear c58
                try clear c58b0
                try clear c59
                try clear c59b0
                try clear c60
                try clear c61
                try clear c61b0
                try clear c62
                try clear c62b0
                try clear c64
                try clear c73
                try clear c73b0
                try clear c73b1
                try clear c73b2
                try clear c74
                try clear c76
                try clear c77
                try clear c77b0
                try clear c78
                try clear c78b0
                try clear c79
                try clear c79b0
                try clear c80
                try clear c80b0
                try clear c80b1
                try clear c81
                try clear c81b0
                try clear c82
                try clear c82b0
                try clear c83
                try clear c83b0
                try clear c84
                try clear c84b0
                try clear c84b1
                try clear c85
                try clear c85b0
                try clear c110
                try clear c110b0
                try clear c110b1
                try clear c110b2
                try clear c112
                try clear c113
                try clear c113b0
                try clear c113b1
                try clear c113b2
                try clear c116
                try clear c116b0
                try clear c116b1
                try clear c125
                try clear hcz11_0
                try clear hcz11_1
                try clear hcz11_2
                try clear hcz11_3
                try clear hcz14_0
                try clear hcz14_1
                try clear hcz14_2
                try clear hcz14_3
                try clear hcz27_0
                try clear hcz27_1
                try clear hcz27_2
                try clear hcz27_3
                try clear hcz44_0
                try clear hcz44_1
                try clear hcz44_2
                try clear hcz44_3
                try clear hcz47_0
                try clear hcz47_1
                try clear hcz47_2
                try clear hcz47_3
                try clear hcz63_0
                try clear hcz63_1
                try clear hcz63_2
                try clear hcz63_3
                try clear hcz88_0
                try clear hcz88_1
                try clear hcz88_2
                try clear hcz88_3
                try clear hcz91_0
                try clear hcz91_1
                try clear hcz91_2
                try clear hcz91_3
                try clear hcz94_0
                try clear hcz94_1
                try clear hcz94_2
                try clear hcz94_3
                try clear hfz11_0
                try clear hfz11_1
                try clear hfz11_2
                try clear hfz11_3
                try clear hfz14_0
                try clear hfz14_1
                try clear hfz14_2
                try clear hfz14_3
                try clear hfz27_0
                try clear hfz27_1
                try clear hfz27_2
                try clear hfz27_3
                try clear hfz44_0
                try clear hfz44_1
                try clear hfz44_2
                try clear hfz44_3
                try clear hfz47_0
                try clear hfz47_1
                try clear hfz47_2
                try clear hfz47_3
                try clear hfz63_0
                try clear hfz63_1
                try clear hfz63_2
                try clear hfz63_3
                try clear hfz88_0
                try clear hfz88_1
                try clear hfz88_2
                try clear hfz88_3
                try clear hfz91_0
                try clear hfz91_1
                try clear hfz91_2
                try clear hfz91_3
                try clear hfz94_0
                try clear hfz94_1
                try clear hfz94_2
                try clear hfz94_3
                try clear hx130_0
                try clear hx131_0
                try clear hx131_1
                try clear hx131_2
                try clear hx131_3
                try clear hx140_0
                try clear hx140_1
                try clear hx140_2
                try clear hx140_3
                try clear hx142_0
                try clear hx142_1
                try clear hx142_2
                try clear hx142_3
                try clear hx143_0
                try clear hx143_1
                try clear hx143_2
                try clear hx143_3
                try clear p130
                try clear p131
                try clear p140
                try clear p142
                try clear p143
                try clear q130
                try clear q131
                try clear q140
                try clear q142
                try clear q143
                obtain ⟨x261_6,rfl,HA,HK6,HO_26,HO_259,BK109,HB⟩:=hrel;cases gk with
                | zero=>exact absurd HA.out (by simp [laws_FnPeople.l2])
                | succ k6 =>
                 have H:=HA.out;clear HA;simp only [laws_FnPeople.l2] at H;by_cases c127 : x261_6 < (t153.length : Int)
                 ·rw [if_pos c127] at H;have c127b0 : decide (x261_6 < (t153.length : Int)) = true:=decide_eq_true c127;clear c127;by_cases c128 : 0 ≤ x261_6
                  ·rw [if_pos c128] at H;have c128b0 : decide (0 ≤ x261_6) = true:=decide_eq_true c128;clear c128;by_cases c129 : x261_6 < (t153.length : Int)
                   ·rw [if_pos c129] at H;have c129b0 : decide (x261_6 < (t153.length : Int)) = true:=decide_eq_true c129;clear c129;by_cases c130 : 0 ≤ (rd t153 x261_6)
                    ·rw [if_pos c130] at H;have c130b0 : decide (0 ≤ (rd t153 x261_6)) = true:=decide_eq_true c130;clear c130;by_cases c131 : (rd t153 x261_6) < (t144.length : Int)
                     ·rw [if_pos c131] at H;have c131b0 : decide ((rd t153 x261_6) < (t144.length : Int)) = true:=decide_eq_true c131;clear c131;by_cases c132 : ((rd_T26 t144 (rd t153 x261_6)).f1) = t145
                      ·rw [if_pos c132] at H;have c132b0 : (((rd_T26 t144 (rd t153 x261_6)).f1) == t145) = true:=beq_iff_eq.mpr c132;have c132b1 : (((rd_T26 t144 (rd t153 x261_6)).f1) != t145) = false:=bne_eq_false_iff_eq.mpr c132;clear c132;by_cases c133 : ((rd_T26 t144 (rd t153 x261_6)).f2) = t146
                       ·rw [if_pos c133] at H;have c133b0 : (((rd_T26 t144 (rd t153 x261_6)).f2) == t146) = true:=beq_iff_eq.mpr c133;have c133b1 : (((rd_T26 t144 (rd t153 x261_6)).f2) != t146) = false:=bne_eq_false_iff_eq.mpr c133;clear c133;have H' := Aside0.mk H;clear H;have p166 : 0 ≤ (x261_6 : Int):=of_decide_eq_true (q2_);have q166 : x261_6 < (t153.length : Int):=of_decide_eq_true (q2_);obtain ⟨ad166,e166,hx166_0⟩:=Kd.at_int (Kd.R_reads' HO_259.out).2.2 x261_6 p166 q166;cases e166;replace p166:=eq_true p166;replace q166:=eq_true q166;have p167 : 0 ≤ ((rd t153 x261_6) : Int):=of_decide_eq_true (q2_);have q167 : (rd t153 x261_6) < (t144.length : Int):=of_decide_eq_true (q2_);obtain ⟨ad167,e167,hx167_0,hx167_1,hx167_2,hx167_3⟩:=at_T26 (Kd.R_reads' HO_26.out).2.2 (rd t153 x261_6) p167 q167;cases e167;replace p167:=eq_true p167;replace q167:=eq_true q167;have p168 : 0 ≤ ((rd t153 x261_6) : Int):=of_decide_eq_true (q2_);have q168 : (rd t153 x261_6) < (t144.length : Int):=of_decide_eq_true (q2_);obtain ⟨ad168,e168,hx168_0,hx168_1,hx168_2,hx168_3⟩:=at_T26 (Kd.R_reads' HO_26.out).2.2 (rd t153 x261_6) p168 q168;obtain rfl : ad167 = ad168:=(by injection e168);replace p168:=eq_true p168;replace q168:=eq_true q168;go_wp2;repeat (go_quiet (fail);try go_wp2)
                        go_roundg k6
                        case measure=>have:=HJ7.out;have:=HJ38.out;have:=HJ67.out;have:=HJ74.out;have:=HJ100.out;have:=HK6.out;omega
                        case rel=>exact ⟨(wrap64 (x261_6 + 1)),(q1_),H', ⟨by have:=HJ7.out;have:=HJ38.out;have:=HJ67.out;have:=HJ74.out;have:=HJ100.out;have:=HK6.out;omega⟩,⟨by (with_reducible repeat (first | apply Kd.R_alloc | apply Kd.R_drewN | apply Kd.R_drew));exact HO_26.out⟩,⟨by (with_reducible repeat (first | apply Kd.R_alloc | apply Kd.R_drewN | apply Kd.R_drew));exact HO_259.out⟩,⟨q19_⟩,⟨q43_⟩⟩
                       ·rw [if_neg c133] at H;have c133b0 : (((rd_T26 t144 (rd t153 x261_6)).f2) == t146) = false:=beq_eq_false_iff_ne.mpr c133;have c133b1 : (((rd_T26 t144 (rd t153 x261_6)).f2) != t146) = true:=bne_iff_ne.mpr c133;exact absurd (Option.some.inj H) (by rw [ht_.out];decide)
                      ·rw [if_neg c132] at H;have c132b0 : (((rd_T26 t144 (rd t153 x261_6)).f1) == t145) = false:=beq_eq_false_iff_ne.mpr c132;have c132b1 : (((rd_T26 t144 (rd t153 x261_6)).f1) != t145) = true:=bne_iff_ne.mpr c132;exact absurd (Option.some.inj H) (by rw [ht_.out];decide)
                     ·rw [if_neg c131] at H;exact absurd H (by simp)
                    ·rw [if_neg c130] at H;exact absurd H (by simp)
                   ·rw [if_neg c129] at H;exact absurd H (by simp)
                  ·rw [if_neg c128] at H;exact absurd H (by simp)
                 ·rw [if_neg c127] at H;have c127b0 : decide (x261_6 < (t153.length : Int)) = false:=decide_eq_false c127;clear c127;obtain rfl:=Option.some.inj H;go_wp2;repeat (go_quiet (fail);try go_wp2)
                  go_ret;exact ⟨q4_,q43_⟩
def laws_FnPeople.Pure : Prop:=∀ (l0 : List Int) (l1 : List Int),((∀ a_,a_ ∈ l0 → (Lit.int .u8 a_).wf = true) ∧ l0.length * 1 ≤ 140737488351232) → ((∀ a_,a_ ∈ l1 → (Lit.int .u8 a_).wf = true) ∧ l1.length * 1 ≤ 140737488351232) → ∃ k,laws_FnPeople.f k l0 l1 = some true
theorem laws_FnPeople.walk (P : laws_FnPeople.Pure) (A0 : Option Addr) (c0 : Nat) (l0 : List Int) (A1 : Option Addr) (c1 : Nat) (l1 : List Int) (w : World) (hT : MTab.Tab w) (hr0 : Kd.C (Kd.int .u8) w A0 l0.length l0) (hc0 : l0.length ≤ c0) (hr1 : Kd.C (Kd.int .u8) w A1 l1.length l1) (hc1 : l1.length ≤ c1) (b0 : ((∀ a_,a_ ∈ l0 → (Lit.int .u8 a_).wf = true) ∧ l0.length * 1 ≤ 140737488351232)) (b1 : ((∀ a_,a_ ∈ l1 → (Lit.int .u8 a_).wf = true) ∧ l1.length * 1 ≤ 140737488351232)) :
  Calls Tryd.prog 3 #[.slice A0 l0.length c0,.slice A1 l1.length c1] w fun e w' => e = .returned (.bool true) ∧ Below w.heap.size w w' := by
 obtain ⟨k,h⟩:=P l0 l1 b0 b1;refine (laws_FnPeople.calls k A0 c0 l0 A1 c1 l1 true w hT hr0 hc0 hr1 hc1 ⟨rfl⟩ h).mono ?_;rintro e w' ⟨rfl,hd⟩;exact ⟨rfl,hd⟩
end
end Go.Proofs.YtpdcopbnhaoilaaDoor.G
