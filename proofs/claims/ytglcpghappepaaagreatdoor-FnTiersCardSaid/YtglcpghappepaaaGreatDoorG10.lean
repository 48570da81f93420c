-- Written by this session's own program over the kit's print (wip/tools/myprint.py); Lean checks it.
import Derived.Test.YtglcpghappepaaaGreatDoorMBase
import Derived.Test.YtglcpghappepaaaGreatDoorG0
import Derived.Test.YtglcpghappepaaaGreatDoorG7
import Derived.Test.YtglcpghappepaaaGreatDoorG9
namespace Go.Proofs.YtglcpghappepaaaGreatDoor.G
open Go.RowKit Go.Proofs.YtglcpghappepaaaGreatDoorW.PrintWords Go.Proofs.YtglcpghappepaaaGreatDoorW.PrintLast Go.Proofs.YtglcpghappepaaaGreatDoorW.PrintMore
attribute [local go_sem] max2_int min2_int max_two min_two max_three min_three max_four min_four str_geq str_gtr str_leq   -- for this text's walks alone
set_option linter.unusedVariables false
set_option linter.unusedSimpArgs false
/-! ### yAA: function 89 -/
mutual
def yAA.l0 : Nat → List (S25) → Int → Int → Int → Option ((List (S25)))
 | 0,_,_,_,_=>none
 | k + 1,x0,x1,x10,x11=>if x10 < x11 then (if 0 ≤ (wrap64 ((IntKind.u64.wrap (wrap64 (x10 + x11))) / 2)) then (if (wrap64 ((IntKind.u64.wrap (wrap64 (x10 + x11))) / 2)) < (x0.length : Int) then (if 0 ≤ x1 then (if x1 < (x0.length : Int) then ((yAT.f ((rd_T25 x0 (wrap64 ((IntKind.u64.wrap (wrap64 (x10 + x11))) / 2))).f0) ((rd_T25 x0 (wrap64 ((IntKind.u64.wrap (wrap64 (x10 + x11))) / 2))).f1) ((rd_T25 x0 (wrap64 ((IntKind.u64.wrap (wrap64 (x10 + x11))) / 2))).f2) ((rd_T25 x0 x1).f0) ((rd_T25 x0 x1).f1) ((rd_T25 x0 x1).f2)).bind fun t103=>(if t103 < 0 then (yAA.l0 k x0 x1 (wrap64 ((wrap64 ((IntKind.u64.wrap (wrap64 (x10 + x11))) / 2)) + 1)) x11) else (yAA.l0 k x0 x1 x10 (wrap64 ((IntKind.u64.wrap (wrap64 (x10 + x11))) / 2))))) else (none)) else (none)) else (none)) else (none)) else (yAA.l1 k x0 x10 x1)
def yAA.l1 : Nat → List (S25) → Int → Int → Option ((List (S25)))
 | 0,_,_,_=>none
 | k + 1,x0,x10,x13=>if x13 < (wrap64 (x10 - 1)) then (if 0 ≤ (wrap64 (x13 + 1)) then (if (wrap64 (x13 + 1)) < (x0.length : Int) then (if 0 ≤ x13 then (if x13 < (x0.length : Int) then (yAA.l1 k ((x0.set (x13 : Int).toNat (⟨(rd_T25 x0 (wrap64 (x13 + 1))).f0,(rd_T25 x0 (wrap64 (x13 + 1))).f1,(rd_T25 x0 (wrap64 (x13 + 1))).f2⟩ : S25)).set ((wrap64 (x13 + 1)) : Int).toNat (⟨(rd_T25 x0 x13).f0,(rd_T25 x0 x13).f1,(rd_T25 x0 x13).f2⟩ : S25)) x10 (wrap64 (x13 + 1))) else (none)) else (none)) else (none)) else (none)) else (some x0)
def yAA.l2 : Nat → List (S25) → Int → Int → Int → Option ((List (S25)))
 | 0,_,_,_,_=>none
 | k + 1,x0,x2,x14,x15=>if x14 < x15 then (if 0 ≤ x2 then (if x2 < (x0.length : Int) then (if 0 ≤ (wrap64 ((IntKind.u64.wrap (wrap64 (x14 + x15))) / 2)) then (if (wrap64 ((IntKind.u64.wrap (wrap64 (x14 + x15))) / 2)) < (x0.length : Int) then ((yAT.f ((rd_T25 x0 x2).f0) ((rd_T25 x0 x2).f1) ((rd_T25 x0 x2).f2) ((rd_T25 x0 (wrap64 ((IntKind.u64.wrap (wrap64 (x14 + x15))) / 2))).f0) ((rd_T25 x0 (wrap64 ((IntKind.u64.wrap (wrap64 (x14 + x15))) / 2))).f1) ((rd_T25 x0 (wrap64 ((IntKind.u64.wrap (wrap64 (x14 + x15))) / 2))).f2)).bind fun t110=>(if t110 < 0 then (yAA.l2 k x0 x2 x14 (wrap64 ((IntKind.u64.wrap (wrap64 (x14 + x15))) / 2))) else (yAA.l2 k x0 x2 (wrap64 ((wrap64 ((IntKind.u64.wrap (wrap64 (x14 + x15))) / 2)) + 1)) x15))) else (none)) else (none)) else (none)) else (none)) else (yAA.l3 k x0 x14 x2)
def yAA.l3 : Nat → List (S25) → Int → Int → Option ((List (S25)))
 | 0,_,_,_=>none
 | k + 1,x0,x14,x17=>if x17 > x14 then (if 0 ≤ (wrap64 (x17 - 1)) then (if (wrap64 (x17 - 1)) < (x0.length : Int) then (if 0 ≤ x17 then (if x17 < (x0.length : Int) then (yAA.l3 k ((x0.set (x17 : Int).toNat (⟨(rd_T25 x0 (wrap64 (x17 - 1))).f0,(rd_T25 x0 (wrap64 (x17 - 1))).f1,(rd_T25 x0 (wrap64 (x17 - 1))).f2⟩ : S25)).set ((wrap64 (x17 - 1)) : Int).toNat (⟨(rd_T25 x0 x17).f0,(rd_T25 x0 x17).f1,(rd_T25 x0 x17).f2⟩ : S25)) x14 (wrap64 (x17 - 1))) else (none)) else (none)) else (none)) else (none)) else (some x0)
def yAA.j4 : Nat → List (S25) → Int → Int → Int → Int → Int → Int → Int → Option ((List (S25)))
 | 0,_,_,_,_,_,_,_,_=>none
 | k + 1,x0,x1,x2,x3,x18,x19,x20,x21=>yAA.l4 k x0 x1 x2 x3 x18 x19 x20 x21 (wrap64 (x19 - 1))
def yAA.l4 : Nat → List (S25) → Int → Int → Int → Int → Int → Int → Int → Int → Option ((List (S25)))
 | 0,_,_,_,_,_,_,_,_,_=>none
 | k + 1,x0,x1,x2,x3,x18,x19,x20,x21,x22=>if x20 < x21 then (if 0 ≤ (wrap64 (x22 - (wrap64 ((IntKind.u64.wrap (wrap64 (x20 + x21))) / 2)))) then (if (wrap64 (x22 - (wrap64 ((IntKind.u64.wrap (wrap64 (x20 + x21))) / 2)))) < (x0.length : Int) then (if 0 ≤ (wrap64 ((IntKind.u64.wrap (wrap64 (x20 + x21))) / 2)) then (if (wrap64 ((IntKind.u64.wrap (wrap64 (x20 + x21))) / 2)) < (x0.length : Int) then ((yAT.f ((rd_T25 x0 (wrap64 (x22 - (wrap64 ((IntKind.u64.wrap (wrap64 (x20 + x21))) / 2))))).f0) ((rd_T25 x0 (wrap64 (x22 - (wrap64 ((IntKind.u64.wrap (wrap64 (x20 + x21))) / 2))))).f1) ((rd_T25 x0 (wrap64 (x22 - (wrap64 ((IntKind.u64.wrap (wrap64 (x20 + x21))) / 2))))).f2) ((rd_T25 x0 (wrap64 ((IntKind.u64.wrap (wrap64 (x20 + x21))) / 2))).f0) ((rd_T25 x0 (wrap64 ((IntKind.u64.wrap (wrap64 (x20 + x21))) / 2))).f1) ((rd_T25 x0 (wrap64 ((IntKind.u64.wrap (wrap64 (x20 + x21))) / 2))).f2)).bind fun t117=>(if t117 < 0 then (yAA.l4 k x0 x1 x2 x3 x18 x19 x20 (wrap64 ((IntKind.u64.wrap (wrap64 (x20 + x21))) / 2)) x22) else (yAA.l4 k x0 x1 x2 x3 x18 x19 (wrap64 ((wrap64 ((IntKind.u64.wrap (wrap64 (x20 + x21))) / 2)) + 1)) x21 x22))) else (none)) else (none)) else (none)) else (none)) else (if x20 < x2 then (yAA.j6 k x0 x1 x2 x3 x18 x20 (wrap64 (x19 - x20)) (decide (x2 < (wrap64 (x19 - x20))))) else (yAA.j6 k x0 x1 x2 x3 x18 x20 (wrap64 (x19 - x20)) false))
def yAA.j6 : Nat → List (S25) → Int → Int → Int → Int → Int → Int → Bool → Option ((List (S25)))
 | 0,_,_,_,_,_,_,_,_=>none
 | k + 1,x0,x1,x2,x3,x18,x20,x24,x185=>if x185 = true then ((yAO.f k x0 x20 x2 x24).bind fun t118=>(yAA.j7 k t118 x1 x3 x18 x20 x24)) else (yAA.j7 k x0 x1 x3 x18 x20 x24)
def yAA.j7 : Nat → List (S25) → Int → Int → Int → Int → Int → Option ((List (S25)))
 | 0,_,_,_,_,_,_=>none
 | k + 1,x0,x1,x3,x18,x20,x24=>if x1 < x20 then (yAA.j8 k x0 x1 x3 x18 x20 x24 (decide (x20 < x18))) else (yAA.j8 k x0 x1 x3 x18 x20 x24 false)
def yAA.j8 : Nat → List (S25) → Int → Int → Int → Int → Int → Bool → Option ((List (S25)))
 | 0,_,_,_,_,_,_,_=>none
 | k + 1,x0,x1,x3,x18,x20,x24,x199=>if x199 = true then ((yAA.f k x0 x1 x20 x18).bind fun t119=>(if x18 < x24 then (if x24 < x3 then ((yAA.f k t119 x18 x24 x3).bind fun t120=>(some t120)) else (some t119)) else (some t119))) else (if x18 < x24 then (if x24 < x3 then ((yAA.f k x0 x18 x24 x3).bind fun t121=>(some t121)) else (some x0)) else (some x0))
def yAA.f : Nat → List (S25) → Int → Int → Int → Option ((List (S25)))
 | 0,_,_,_,_=>none
 | k + 1,l0,a1,a2,a3=>if (wrap64 (a2 - a1)) = 1 then (yAA.l0 k l0 a1 a2 a3) else (if (wrap64 (a3 - a2)) = 1 then (yAA.l2 k l0 a2 a1 a2) else (if a2 > (wrap64 ((IntKind.u64.wrap (wrap64 (a1 + a3))) / 2)) then (yAA.j4 k l0 a1 a2 a3 (wrap64 ((IntKind.u64.wrap (wrap64 (a1 + a3))) / 2)) (wrap64 ((wrap64 ((IntKind.u64.wrap (wrap64 (a1 + a3))) / 2)) + a2)) (wrap64 ((wrap64 ((wrap64 ((IntKind.u64.wrap (wrap64 (a1 + a3))) / 2)) + a2)) - a3)) (wrap64 ((IntKind.u64.wrap (wrap64 (a1 + a3))) / 2))) else (yAA.j4 k l0 a1 a2 a3 (wrap64 ((IntKind.u64.wrap (wrap64 (a1 + a3))) / 2)) (wrap64 ((wrap64 ((IntKind.u64.wrap (wrap64 (a1 + a3))) / 2)) + a2)) a1 a2)))
end
def yAA.T5 : Bool × List (List Nat × List Nat):=(true,[([],[]),([],[]),([],[]),([1,2],[1,2]),([3],[3]),([],[]),([],[]),([5,6],[5,6]),([7],[7]),([0,4,8],[0,4,8]),([9],[9])])
def yAA.B5 : List Nat:=[0,0,0,6,14,0,0,96,224,511,1023]
theorem yAA.tab5 : rtab .any (opsOf Tryz.f89 5) = yAA.T5:=by kernel_rfl
theorem yAA.bits5 : waitsOk yAA.T5.2 yAA.B5 = true:=by kernel_rfl
def yAA.T11 : Bool × List (List Nat × List Nat):=(true,[([],[]),([],[]),([],[]),([],[]),([3],[3]),([],[]),([],[]),([6],[6]),([5,7],[5,7]),([8],[8]),([],[]),([],[]),([10,11],[10,11]),([12],[12]),([0,1,0,1,5,6,7,8,9,13],[0,1]),([14,9,0,1,5,6,7,8,9,13],[9,14]),([2,4,0,1,2,3,4,5,6,7,8,9,10,11,12,13,14,15],[2,4]),([16,13,15,0,1,2,3,4,5,6,7,8,9,10,11,12,13,14,15],[13,16])])
def yAA.B11 : List Nat:=[0,0,0,0,8,0,0,64,224,480,0,0,3072,7168,16355,32739,65535,131071]
theorem yAA.tab11 : rtab .any (opsOf Tryz.f89 11) = yAA.T11:=by kernel_rfl
theorem yAA.bits11 : waitsOk yAA.T11.2 yAA.B11 = true:=by kernel_rfl
def yAA.T17 : Bool × List (List Nat × List Nat):=(true,[([],[]),([],[]),([],[]),([1,2],[1,2]),([3],[3]),([],[]),([],[]),([5,6],[5,6]),([7],[7]),([0,4,8],[0,4,8]),([9],[9]),([10],[10])])
def yAA.B17 : List Nat:=[0,0,0,6,14,0,0,96,224,511,1023,2047]
theorem yAA.tab17 : rtab .any (opsOf Tryz.f89 17) = yAA.T17:=by kernel_rfl
theorem yAA.bits17 : waitsOk yAA.T17.2 yAA.B17 = true:=by kernel_rfl
def yAA.T23 : Bool × List (List Nat × List Nat):=(true,[([],[]),([],[]),([],[]),([],[]),([3],[3]),([],[]),([],[]),([6],[6]),([5,7],[5,7]),([8],[8]),([],[]),([],[]),([10,11],[10,11]),([12],[12]),([0,1,0,1,5,6,7,8,9,13],[0,1]),([14,9,0,1,5,6,7,8,9,13],[9,14]),([2,4,0,1,2,3,4,5,6,7,8,9,10,11,12,13,14,15],[2,4]),([16,13,15,0,1,2,3,4,5,6,7,8,9,10,11,12,13,14,15],[13,16])])
def yAA.B23 : List Nat:=[0,0,0,0,8,0,0,64,224,480,0,0,3072,7168,16355,32739,65535,131071]
theorem yAA.tab23 : rtab .any (opsOf Tryz.f89 23) = yAA.T23:=by kernel_rfl
theorem yAA.bits23 : waitsOk yAA.T23.2 yAA.B23 = true:=by kernel_rfl
def yAA.T35 : Bool × List (List Nat × List Nat):=(true,[([],[]),([],[]),([],[]),([],[]),([2,3],[2,3]),([1,4],[1,4]),([5],[5]),([],[]),([],[]),([7,8],[7,8]),([9],[9]),([0,6,10],[0,6,10]),([11],[11]),([12],[12])])
def yAA.B35 : List Nat:=[0,0,0,0,12,30,62,0,0,384,896,2047,4095,8191]
theorem yAA.tab35 : rtab .any (opsOf Tryz.f89 35) = yAA.T35:=by kernel_rfl
theorem yAA.bits35 : waitsOk yAA.T35.2 yAA.B35 = true:=by kernel_rfl
set_option maxHeartbeats 8000000 in
set_option maxRecDepth 100000 in
theorem yAA.calls (k : Nat) : ∀ (P0_ : Nat → Prop) (u9000_ : Value) (l0 : List (S25)) (a1 : Int) (a2 : Int) (a3 : Int)  (r : List (S25)) (w0 w : World) (hB : Below w0.heap.size w0 w) (ho0 : Kd.R k25 25 w w0.heap.size P0_ u9000_ l0) (h : yAA.f k l0 a1 a2 a3 = some r),
  Calls Tryz.prog 89 #[u9000_,.int .i64 a1,.int .i64 a2,.int .i64 a3,.func (.func 64) #[] #[]] w fun e w' => e = .returned (.tuple #[]) ∧ Kd.R k25 25 w' w0.heap.size (fun k_=>(P0_ k_ ∨ w.heap.size ≤ k_)) u9000_ r ∧ Below w0.heap.size w0 w' ∧ Kept w w' (fun k_=>P0_ k_):=by
 induction k using Nat.strongRecOn with
 | _ k ih =>
 intro P0_ u9000_ l0 a1 a2 a3 r w0 w hB ho0 h;cases k with
 | zero=>exact absurd h (by simp [yAA.f])
 | succ k =>
 simp only [yAA.f] at h;have hu25:=Tryz.underlying25;have HO0:=Aside0.mk (show Kd.R k25 25 w w0.heap.size (fun k_=>(P0_ k_ ∨ w.heap.size ≤ k_)) u9000_ l0 from Kd.R_mono ho0 (fun k_ hk=>(.inl hk)));have HK:=Aside0.mk (Kept.refl w (fun k_=>P0_ k_));have HW0:=Aside0.mk hB.size;have HB:=Aside0.mk hB;clear hB;have H : (if (wrap64 (a2 - a1)) = 1 then (yAA.l0 k l0 a1 a2 a3) else (if (wrap64 (a3 - a2)) = 1 then (yAA.l2 k l0 a2 a1 a2) else (if a2 > (wrap64 ((IntKind.u64.wrap (wrap64 (a1 + a3))) / 2)) then (yAA.j4 k l0 a1 a2 a3 (wrap64 ((IntKind.u64.wrap (wrap64 (a1 + a3))) / 2)) (wrap64 ((wrap64 ((IntKind.u64.wrap (wrap64 (a1 + a3))) / 2)) + a2)) (wrap64 ((wrap64 ((wrap64 ((IntKind.u64.wrap (wrap64 (a1 + a3))) / 2)) + a2)) - a3)) (wrap64 ((IntKind.u64.wrap (wrap64 (a1 + a3))) / 2))) else (yAA.j4 k l0 a1 a2 a3 (wrap64 ((IntKind.u64.wrap (wrap64 (a1 + a3))) / 2)) (wrap64 ((wrap64 ((IntKind.u64.wrap (wrap64 (a1 + a3))) / 2)) + a2)) a1 a2)))) = some r:=h;clear h;by_cases c6 : (wrap64 (a2 - a1)) = 1
 ·as_aux_lemma =>
  rw [if_pos c6] at H;have c6b0 : ((wrap64 (a2 - a1)) == 1) = true:=beq_iff_eq.mpr c6;have c6b1 : ((wrap64 (a2 - a1)) != 1) = false:=bne_eq_false_iff_eq.mpr c6;clear c6;have H' := Aside0.mk H;clear H;go_enter Tryz.func89,Tryz.ntmps89
  go_wp2;go_loopg [10,11] k (fun kq v10 v11 w' => ∃ (x10_1 : Int) (x11_1 : Int),v10 = .int .i64 x10_1 ∧ v11 = .int .i64 x11_1 ∧ Aside0 (yAA.l0 kq l0 a1 x10_1 x11_1 = some r) ∧ Aside0 (kq ≤ k) ∧ Aside0 (Kd.R k25 25 w' w0.heap.size (fun k_=>(P0_ k_ ∨ w.heap.size ≤ k_)) u9000_ l0) ∧ Aside0 (Kept w w' (fun k_=>P0_ k_)) ∧ Aside0 (Below w0.heap.size w0 w'))
  case atStart=>exact ⟨(a2),(a3),(q3_),(q3_),H', ⟨Nat.le_refl _⟩,⟨q7_⟩,⟨q19_⟩,⟨q20_⟩⟩
  case round =>
   as_aux_lemma =>
   clear H';try clear c6
   try clear c6b0
   try clear c6b1
   obtain ⟨x10_1,x11_1,rfl,rfl,HA,HK1,HO_0,HK,HB⟩:=hrel;cases gk with
   | zero=>exact absurd HA.out (by simp [yAA.l0])
   | succ k1 =>
    have H:=HA.out;clear HA;simp only [yAA.l0] at H;by_cases c7 : x10_1 < x11_1
    ·rw [if_pos c7] at H;have c7b0:=decide_eq_true c7;clear c7;obtain ⟨ji8,hji8⟩ : ∃ j_ : Int,(wrap64 ((IntKind.u64.wrap (wrap64 (x10_1 + x11_1))) / 2)) = j_:=⟨_,rfl⟩;replace H : (if 0 ≤ (ji8) then (if (ji8) < (l0.length : Int) then (if 0 ≤ a1 then (if a1 < (l0.length : Int) then ((yAT.f ((rd_T25 l0 (ji8)).f0) ((rd_T25 l0 (ji8)).f1) ((rd_T25 l0 (ji8)).f2) ((rd_T25 l0 a1).f0) ((rd_T25 l0 a1).f1) ((rd_T25 l0 a1).f2)).bind fun t103=>(if t103 < 0 then (yAA.l0 k1 l0 a1 (wrap64 ((ji8) + 1)) x11_1) else (yAA.l0 k1 l0 a1 x10_1 ji8))) else (none)) else (none)) else (none)) else (none)) = some r:=by first | (rw [hji8] at H;exact H) | (simp only [hji8] at H ⊢;exact H)
     have hji8w : (IntKind.i64.wrap ((IntKind.u64.wrap (wrap64 (x10_1 + x11_1))) / 2)) = ji8:=(i64_w _).trans hji8;by_cases c9 : 0 ≤ (ji8)
     ·rw [if_pos c9] at H;have c9b0:=decide_eq_true c9;clear c9;by_cases c10 : (ji8) < (l0.length : Int)
      ·rw [if_pos c10] at H;have c10b0:=decide_eq_true c10;clear c10;by_cases c11 : 0 ≤ a1
       ·rw [if_pos c11] at H;have c11b0:=decide_eq_true c11;clear c11;by_cases c12 : a1 < (l0.length : Int)
        ·rw [if_pos c12] at H;have c12b0:=decide_eq_true c12;clear c12;replace H:=Option.bind_eq_some_iff.mp H;obtain ⟨t103,A130,H⟩:=H;(try dsimp only at H);have A13:=Aside0.mk A130;clear A130;by_cases c14 : t103 < 0
         ·as_aux_lemma =>
          rw [if_pos c14] at H;have c14b0:=decide_eq_true c14;clear c14;have H' := Aside0.mk H;clear H;try go_wp2
          replace HO_0:=Aside0.mk (Kd.R_drew HO_0.out);replace HK:=Aside0.mk (Kept.drew HK.out);replace HB:=Aside0.mk (below_drew1 HB.out);obtain ⟨Ao16,co16,eo16⟩:=Kd.R_slice HO_0.out
          (first | subst eo16 | (injection eo16 with f1_ f2_ f3_;have f4_:=f1_.symm;have f5_:=f3_.symm;clear f1_ f2_ f3_;subst f4_;subst f5_))
          have p101 : 0 ≤ ((ji8) : Int):=of_decide_eq_true (q4_);have q101 : (ji8) < (l0.length : Int):=of_decide_eq_true (q4_);obtain ⟨ad101,e101,hx101_0,hx101_1,hx101_2⟩:=at_T25 (Kd.R_reads' HO_0.out).2.2 (ji8) p101 q101;cases e101;replace p101:=eq_true p101;replace q101:=eq_true q101;have p102 : 0 ≤ (a1 : Int):=of_decide_eq_true (q4_);have q102 : a1 < (l0.length : Int):=of_decide_eq_true (q4_);obtain ⟨ad102,e102,hx102_0,hx102_1,hx102_2⟩:=at_T25 (Kd.R_reads' HO_0.out).2.2 a1 p102 q102;obtain rfl : ad101 = ad102:=(by injection e102);replace p102:=eq_true p102;replace q102:=eq_true q102;refine start_ (n:=11) (S:=fun w' => w'.cell? (ad101.add (((ji8)).toNat * 3)) = some (.int .i64 ((rd_T25 l0 (ji8)).f0)) ∧ w'.cell? ⟨(ad101.add (((ji8)).toNat * 3)).block,(ad101.add (((ji8)).toNat * 3)).off + 1,none⟩ = some (.int .i64 ((rd_T25 l0 (ji8)).f1)) ∧ w'.cell? ⟨(ad101.add (((ji8)).toNat * 3)).block,(ad101.add (((ji8)).toNat * 3)).off + 2,none⟩ = some (.string ((rd_T25 l0 (ji8)).f2)) ∧ w'.cell? (ad101.add ((a1).toNat * 3)) = some (.int .i64 ((rd_T25 l0 a1).f0)) ∧ w'.cell? ⟨(ad101.add ((a1).toNat * 3)).block,(ad101.add ((a1).toNat * 3)).off + 1,none⟩ = some (.int .i64 ((rd_T25 l0 a1).f1)) ∧ w'.cell? ⟨(ad101.add ((a1).toNat * 3)).block,(ad101.add ((a1).toNat * 3)).off + 2,none⟩ = some (.string ((rd_T25 l0 a1).f2))) (ds:=[]) f37_ (by kernel_rfl) rfl rfl ⟨hx101_0,hx101_1,hx101_2,hx102_0,hx102_1,hx102_2⟩ (fun hHeld=>?_);refine with_tabW yAA.tab5 yAA.bits5 (fun HT_ HW_=>?_);generalize wr.drew = w15 at HO_0 HK HB hx101_0 hx101_1 hx101_2 hx102_0 hx102_1 hx102_2 hHeld ⊢;refine pure_ (i:=0) (N:=some 40) (v:=?_) (a' := ?_) f38_ rfl rfl (any_of HT_.out (by kernel_rfl)) (fun _ _ _ h=>h) (Or.inl ⟨by rfl,?_⟩) ?_ ?_;rotate_left
          ·intro w';go_simp;with_reducible rfl
          rotate_left
          ·exact q53_
          refine pa_ 1 41 f39_ ?_
          refine pa_ 2 42 f40_ ?_
          refine pa_ 3 43 f41_ ?_
          refine pa_ 5 45 f42_ ?_
          refine pa_ 6 46 f43_ ?_
          refine pa_ 7 47 f44_ ?_
          refine take_ (i:=4) (N:=some 44) (v:=?_) (a' := ?_) f45_ rfl rfl (take_ofW HT_.out HW_.out (by kernel_rfl)) (fun _ _ _ h=>h) (Or.inl ⟨by rfl,?_⟩) hHeld ?_ ?_;rotate_left
          ·rintro w' ⟨s0,s1,s2,s3,s4,s5⟩;go_simp;with_reducible rfl
          rotate_left
          ·exact q53_
          refine take_ (i:=8) (N:=some 48) (v:=?_) (a' := ?_) f46_ rfl rfl (take_ofW HT_.out HW_.out (by kernel_rfl)) (fun _ _ _ h=>h) (Or.inl ⟨by rfl,?_⟩) hHeld ?_ ?_;rotate_left
          ·rintro w' ⟨s0,s1,s2,s3,s4,s5⟩;go_simp;with_reducible rfl
          rotate_left
          ·exact q53_
          refine one_ (i:=9) (N:=some 49) f47_ rfl rfl (one_of HT_.out (by kernel_rfl)) (by decide) (fun K hK=>?_);refine MFun.goesV_ Tryz.func64 (by kernel_rfl) rfl #[.agg #[.int .i64 ((rd_T25 l0 (ji8)).f0),.int .i64 ((rd_T25 l0 (ji8)).f1),.string ((rd_T25 l0 (ji8)).f2)],.agg #[.int .i64 ((rd_T25 l0 a1).f0),.int .i64 ((rd_T25 l0 a1).f1),.string ((rd_T25 l0 a1).f2)]] (by rfl) rfl rfl rfl (by (try simp only [List.map_toArray,List.map_cons,List.map_nil]);first | done | (simp only [hji8];rfl) | rfl | (simp only [List.length_drop,List.length_take];rfl)) ?_
          with_reducible refine (yAT.calls ((rd_T25 l0 (ji8)).f0) ((rd_T25 l0 (ji8)).f1) ((rd_T25 l0 (ji8)).f2) ((rd_T25 l0 a1).f0) ((rd_T25 l0 a1).f1) ((rd_T25 l0 a1).f2) t103 _ A13.out).mono ?_
          rintro e w17 ⟨rfl,hb⟩;have HS0_:=(hb.cell (World.block_lt_of_cell? _ _ (hHeld.1))).trans (hHeld.1);have HS1_:=(hb.cell (World.block_lt_of_cell? _ _ (hHeld.2.1))).trans (hHeld.2.1);have HS2_:=(hb.cell (World.block_lt_of_cell? _ _ (hHeld.2.2.1))).trans (hHeld.2.2.1);have HS3_:=(hb.cell (World.block_lt_of_cell? _ _ (hHeld.2.2.2.1))).trans (hHeld.2.2.2.1);have HS4_:=(hb.cell (World.block_lt_of_cell? _ _ (hHeld.2.2.2.2.1))).trans (hHeld.2.2.2.2.1);have HS5_:=(hb.cell (World.block_lt_of_cell? _ _ (hHeld.2.2.2.2.2))).trans (hHeld.2.2.2.2.2);refine ⟨_,rfl,?_⟩;replace HO_0:=rB_ HO_0 hb;replace HK:=Aside0.mk (Kept.below (S:=(fun k_=>P0_ k_)) (q19_) hb);replace HB:=bS_ HB hb
          (try clear hb)
          (try clear hk)
          refine hK.out _ _ ⟨HS0_,HS1_,HS2_,HS3_,HS4_,HS5_⟩ (fun hHeld=>?_);clear hK K;refine norm_ (a' := ?_) ?_ ?_;rotate_left
          ·show Act.put _ (some 49) _ = _;simp only [Act.put,List.setIfInBounds_toArray,List.set_cons_zero,List.set_cons_succ,i64_w,i32_w];rfl
          refine pa_ 10 50 f48_ ?_
          refine done_ (done_of HT_.out (by kernel_rfl)) ?_;try go_wp2
          go_roundg k1
          case measure=>have:=HK1.out;omega
          case rel=>exact ⟨(wrap64 ((ji8) + 1)),(x11_1),(by first | rfl | (simp;done) | (simp only [← hji8] <;> (first | rfl | simp)) | (simp [*];done)),(q3_),H', ⟨by have:=HK1.out;omega⟩,⟨q9_⟩,⟨q19_⟩,⟨q20_⟩⟩
         ·as_aux_lemma =>
          rw [if_neg c14] at H;have c14b0:=decide_eq_false c14;clear c14;have H' := Aside0.mk H;clear H;try go_wp2
          replace HO_0:=Aside0.mk (Kd.R_drew HO_0.out);replace HK:=Aside0.mk (Kept.drew HK.out);replace HB:=Aside0.mk (below_drew1 HB.out);obtain ⟨Ao19,co19,eo19⟩:=Kd.R_slice HO_0.out
          (first | subst eo19 | (injection eo19 with f1_ f2_ f3_;have f4_:=f1_.symm;have f5_:=f3_.symm;clear f1_ f2_ f3_;subst f4_;subst f5_))
          have p101 : 0 ≤ ((ji8) : Int):=of_decide_eq_true (q4_);have q101 : (ji8) < (l0.length : Int):=of_decide_eq_true (q4_);obtain ⟨ad101,e101,hx101_0,hx101_1,hx101_2⟩:=at_T25 (Kd.R_reads' HO_0.out).2.2 (ji8) p101 q101;cases e101;replace p101:=eq_true p101;replace q101:=eq_true q101;have p102 : 0 ≤ (a1 : Int):=of_decide_eq_true (q4_);have q102 : a1 < (l0.length : Int):=of_decide_eq_true (q4_);obtain ⟨ad102,e102,hx102_0,hx102_1,hx102_2⟩:=at_T25 (Kd.R_reads' HO_0.out).2.2 a1 p102 q102;obtain rfl : ad101 = ad102:=(by injection e102);replace p102:=eq_true p102;replace q102:=eq_true q102;refine start_ (n:=11) (S:=fun w' => w'.cell? (ad101.add (((ji8)).toNat * 3)) = some (.int .i64 ((rd_T25 l0 (ji8)).f0)) ∧ w'.cell? ⟨(ad101.add (((ji8)).toNat * 3)).block,(ad101.add (((ji8)).toNat * 3)).off + 1,none⟩ = some (.int .i64 ((rd_T25 l0 (ji8)).f1)) ∧ w'.cell? ⟨(ad101.add (((ji8)).toNat * 3)).block,(ad101.add (((ji8)).toNat * 3)).off + 2,none⟩ = some (.string ((rd_T25 l0 (ji8)).f2)) ∧ w'.cell? (ad101.add ((a1).toNat * 3)) = some (.int .i64 ((rd_T25 l0 a1).f0)) ∧ w'.cell? ⟨(ad101.add ((a1).toNat * 3)).block,(ad101.add ((a1).toNat * 3)).off + 1,none⟩ = some (.int .i64 ((rd_T25 l0 a1).f1)) ∧ w'.cell? ⟨(ad101.add ((a1).toNat * 3)).block,(ad101.add ((a1).toNat * 3)).off + 2,none⟩ = some (.string ((rd_T25 l0 a1).f2))) (ds:=[]) f37_ (by kernel_rfl) rfl rfl ⟨hx101_0,hx101_1,hx101_2,hx102_0,hx102_1,hx102_2⟩ (fun hHeld=>?_);refine with_tabW yAA.tab5 yAA.bits5 (fun HT_ HW_=>?_);generalize wr.drew = w18 at HO_0 HK HB hx101_0 hx101_1 hx101_2 hx102_0 hx102_1 hx102_2 hHeld ⊢;refine pure_ (i:=0) (N:=some 40) (v:=?_) (a' := ?_) f38_ rfl rfl (any_of HT_.out (by kernel_rfl)) (fun _ _ _ h=>h) (Or.inl ⟨by rfl,?_⟩) ?_ ?_;rotate_left
          ·intro w';go_simp;with_reducible rfl
          rotate_left
          ·exact q53_
          refine pa_ 1 41 f39_ ?_
          refine pa_ 2 42 f40_ ?_
          refine pa_ 3 43 f41_ ?_
          refine pa_ 5 45 f42_ ?_
          refine pa_ 6 46 f43_ ?_
          refine pa_ 7 47 f44_ ?_
          refine take_ (i:=4) (N:=some 44) (v:=?_) (a' := ?_) f45_ rfl rfl (take_ofW HT_.out HW_.out (by kernel_rfl)) (fun _ _ _ h=>h) (Or.inl ⟨by rfl,?_⟩) hHeld ?_ ?_;rotate_left
          ·rintro w' ⟨s0,s1,s2,s3,s4,s5⟩;go_simp;with_reducible rfl
          rotate_left
          ·exact q53_
          refine take_ (i:=8) (N:=some 48) (v:=?_) (a' := ?_) f46_ rfl rfl (take_ofW HT_.out HW_.out (by kernel_rfl)) (fun _ _ _ h=>h) (Or.inl ⟨by rfl,?_⟩) hHeld ?_ ?_;rotate_left
          ·rintro w' ⟨s0,s1,s2,s3,s4,s5⟩;go_simp;with_reducible rfl
          rotate_left
          ·exact q53_
          refine one_ (i:=9) (N:=some 49) f47_ rfl rfl (one_of HT_.out (by kernel_rfl)) (by decide) (fun K hK=>?_);refine MFun.goesV_ Tryz.func64 (by kernel_rfl) rfl #[.agg #[.int .i64 ((rd_T25 l0 (ji8)).f0),.int .i64 ((rd_T25 l0 (ji8)).f1),.string ((rd_T25 l0 (ji8)).f2)],.agg #[.int .i64 ((rd_T25 l0 a1).f0),.int .i64 ((rd_T25 l0 a1).f1),.string ((rd_T25 l0 a1).f2)]] (by rfl) rfl rfl rfl (by (try simp only [List.map_toArray,List.map_cons,List.map_nil]);first | done | (simp only [hji8];rfl) | rfl | (simp only [List.length_drop,List.length_take];rfl)) ?_
          with_reducible refine (yAT.calls ((rd_T25 l0 (ji8)).f0) ((rd_T25 l0 (ji8)).f1) ((rd_T25 l0 (ji8)).f2) ((rd_T25 l0 a1).f0) ((rd_T25 l0 a1).f1) ((rd_T25 l0 a1).f2) t103 _ A13.out).mono ?_
          rintro e w20 ⟨rfl,hb⟩;have HS0_:=(hb.cell (World.block_lt_of_cell? _ _ (hHeld.1))).trans (hHeld.1);have HS1_:=(hb.cell (World.block_lt_of_cell? _ _ (hHeld.2.1))).trans (hHeld.2.1);have HS2_:=(hb.cell (World.block_lt_of_cell? _ _ (hHeld.2.2.1))).trans (hHeld.2.2.1);have HS3_:=(hb.cell (World.block_lt_of_cell? _ _ (hHeld.2.2.2.1))).trans (hHeld.2.2.2.1);have HS4_:=(hb.cell (World.block_lt_of_cell? _ _ (hHeld.2.2.2.2.1))).trans (hHeld.2.2.2.2.1);have HS5_:=(hb.cell (World.block_lt_of_cell? _ _ (hHeld.2.2.2.2.2))).trans (hHeld.2.2.2.2.2);refine ⟨_,rfl,?_⟩;replace HO_0:=rB_ HO_0 hb;replace HK:=Aside0.mk (Kept.below (S:=(fun k_=>P0_ k_)) (q19_) hb);replace HB:=bS_ HB hb
          (try clear hb)
          (try clear hk)
          refine hK.out _ _ ⟨HS0_,HS1_,HS2_,HS3_,HS4_,HS5_⟩ (fun hHeld=>?_);clear hK K;refine norm_ (a' := ?_) ?_ ?_;rotate_left
          ·show Act.put _ (some 49) _ = _;simp only [Act.put,List.setIfInBounds_toArray,List.set_cons_zero,List.set_cons_succ,i64_w,i32_w];rfl
          refine pa_ 10 50 f48_ ?_
          refine done_ (done_of HT_.out (by kernel_rfl)) ?_;try go_wp2
          go_roundg k1
          case measure=>have:=HK1.out;omega
          case rel=>exact ⟨(x10_1),(ji8),(q3_),(by first | rfl | (simp;done) | (simp only [← hji8] <;> (first | rfl | simp)) | (simp [*];done)),H', ⟨by have:=HK1.out;omega⟩,⟨q9_⟩,⟨q19_⟩,⟨q20_⟩⟩
        ·rw [if_neg c12] at H;exact absurd H (q1_)
       ·rw [if_neg c11] at H;exact absurd H (q1_)
      ·rw [if_neg c10] at H;exact absurd H (q1_)
     ·rw [if_neg c9] at H;exact absurd H (q1_)
    ·rw [if_neg c7] at H;have c7b0:=decide_eq_false c7;clear c7;have H' := Aside0.mk H;clear H;go_wp2;go_loopg [13] k1 (fun kq v13 w' => ∃ (x0_2 : List (S25)) (x13_2 : Int),v13 = .int .i64 x13_2 ∧ Aside0 (yAA.l1 kq x0_2 x10_1 x13_2 = some r) ∧ Aside0 (kq ≤ k1) ∧ Aside0 (Kd.R k25 25 w' w0.heap.size (fun k_=>(P0_ k_ ∨ w.heap.size ≤ k_)) u9000_ x0_2) ∧ Aside0 (Kept w w' (fun k_=>P0_ k_)) ∧ Aside0 (Below w0.heap.size w0 w'))
     case atStart=>exact ⟨(l0),(a1),(q3_),H', ⟨Nat.le_refl _⟩,⟨q9_⟩,⟨q19_⟩,⟨q20_⟩⟩
     case round =>
      clear H';try clear c6
      try clear c6b0
      try clear c6b1
      try clear c7
      try clear c7b0
      obtain ⟨x0_2,x13_2,rfl,HA,HK2,HO_0,HK,HB⟩:=hrel;cases gk with
      | zero=>exact absurd HA.out (by simp [yAA.l1])
      | succ k2 =>
       have H:=HA.out;clear HA;simp only [yAA.l1] at H;by_cases c21 : x13_2 < (wrap64 (x10_1 - 1))
       ·rw [if_pos c21] at H;have c21b0:=decide_eq_true c21;clear c21;obtain ⟨ji22,hji22⟩ : ∃ j_ : Int,(wrap64 (x13_2 + 1)) = j_:=⟨_,rfl⟩;replace H : (if 0 ≤ (ji22) then (if (ji22) < (x0_2.length : Int) then (if 0 ≤ x13_2 then (if x13_2 < (x0_2.length : Int) then (yAA.l1 k2 ((x0_2.set (x13_2 : Int).toNat (⟨(rd_T25 x0_2 (ji22)).f0,(rd_T25 x0_2 (ji22)).f1,(rd_T25 x0_2 (ji22)).f2⟩ : S25)).set ((ji22) : Int).toNat (⟨(rd_T25 x0_2 x13_2).f0,(rd_T25 x0_2 x13_2).f1,(rd_T25 x0_2 x13_2).f2⟩ : S25)) x10_1 ji22) else (none)) else (none)) else (none)) else (none)) = some r:=by first | (rw [hji22] at H;exact H) | (simp only [hji22] at H ⊢;exact H)
        have hji22w : (IntKind.i64.wrap (x13_2 + 1)) = ji22:=(i64_w _).trans hji22;by_cases c23 : 0 ≤ (ji22)
        ·rw [if_pos c23] at H;have c23b0:=decide_eq_true c23;clear c23;by_cases c24 : (ji22) < (x0_2.length : Int)
         ·rw [if_pos c24] at H;have c24b0:=decide_eq_true c24;clear c24;by_cases c25 : 0 ≤ x13_2
          ·rw [if_pos c25] at H;have c25b0:=decide_eq_true c25;clear c25;by_cases c26 : x13_2 < (x0_2.length : Int)
           ·as_aux_lemma =>
            rw [if_pos c26] at H;have c26b0:=decide_eq_true c26;clear c26;obtain ⟨y106,hy106⟩ : ∃ y_ : List (S25),y_ = (x0_2.set (x13_2 : Int).toNat (⟨(rd_T25 x0_2 (ji22)).f0,(rd_T25 x0_2 (ji22)).f1,(rd_T25 x0_2 (ji22)).f2⟩ : S25)):=⟨_,rfl⟩;replace H : (yAA.l1 k2 (y106.set ((ji22) : Int).toNat (⟨(rd_T25 x0_2 x13_2).f0,(rd_T25 x0_2 x13_2).f1,(rd_T25 x0_2 x13_2).f2⟩ : S25)) x10_1 ji22) = some r:=by first | (rw [hy106];with_reducible exact H) | (have H2_:=(Option.bind_some _ _).symm.trans H;rw [hy106];with_reducible exact H2_) | (have H2_:=(Option.bind_some _ _).symm.trans H;with_reducible exact H2_) | with_reducible exact H | (rw [hy106];exact H) | exact H
            have Ny106:=Aside0.mk hy106;clear hy106;obtain ⟨y107,hy107⟩ : ∃ y_ : List (S25),y_ = (y106.set ((ji22) : Int).toNat (⟨(rd_T25 x0_2 x13_2).f0,(rd_T25 x0_2 x13_2).f1,(rd_T25 x0_2 x13_2).f2⟩ : S25)):=⟨_,rfl⟩;replace H : (yAA.l1 k2 y107 x10_1 ji22) = some r:=by first | (rw [hy107];with_reducible exact H) | (have H2_:=(Option.bind_some _ _).symm.trans H;rw [hy107];with_reducible exact H2_) | (have H2_:=(Option.bind_some _ _).symm.trans H;with_reducible exact H2_) | with_reducible exact H | (rw [hy107];exact H) | exact H
            have Ny107:=Aside0.mk hy107;clear hy107;have H' := Aside0.mk H;clear H;try go_wp2
            replace HO_0:=Aside0.mk (Kd.R_drew HO_0.out);replace HK:=Aside0.mk (Kept.drew HK.out);replace HB:=Aside0.mk (below_drew1 HB.out);obtain ⟨Ao30,co30,eo30⟩:=Kd.R_slice HO_0.out
            (first | subst eo30 | (injection eo30 with f1_ f2_ f3_;have f4_:=f1_.symm;have f5_:=f3_.symm;clear f1_ f2_ f3_;subst f4_;subst f5_))
            have p104 : 0 ≤ ((ji22) : Int):=of_decide_eq_true (q4_);have q104 : (ji22) < (x0_2.length : Int):=of_decide_eq_true (q4_);obtain ⟨ad104,e104,hx104_0,hx104_1,hx104_2⟩:=at_T25 (Kd.R_reads' HO_0.out).2.2 (ji22) p104 q104;cases e104;replace p104:=eq_true p104;replace q104:=eq_true q104;have p105 : 0 ≤ (x13_2 : Int):=of_decide_eq_true (q4_);have q105 : x13_2 < (x0_2.length : Int):=of_decide_eq_true (q4_);obtain ⟨ad105,e105,hx105_0,hx105_1,hx105_2⟩:=at_T25 (Kd.R_reads' HO_0.out).2.2 x13_2 p105 q105;obtain rfl : ad104 = ad105:=(by injection e105);replace p105:=eq_true p105;replace q105:=eq_true q105;have p27 : 0 ≤ (x13_2 : Int):=of_decide_eq_true (q4_);have q27 : (x13_2 : Int) < ((x0_2.length : Int) : Int):=of_decide_eq_true (q4_);obtain ⟨go27,co27,eo27,gb27,gl27,cl27,HG27⟩:=Kd.R_form HO_0.out (by omega)
            (first | cases eo27 | (injection eo27 with ea_ en_ ec_;(first | subst ea_ | (injection ea_ with ea_;subst ea_));subst ec_;clear en_))
            have GB27:=Aside0.mk gb27;have GG27:=Aside0.mk HG27;clear gb27 gl27 HG27;have HMgo27:=Aside0.mk (show (P0_ go27 ∨ w.heap.size ≤ go27) from (HO_0.out.1 _ rfl))
            (first | simp only [add_plain] at hx104_0 | skip)
            (first | simp only [add_plain] at hx104_1 | skip)
            (first | simp only [add_plain] at hx104_2 | skip)
            (first | simp only [add_plain] at hx105_0 | skip)
            (first | simp only [add_plain] at hx105_1 | skip)
            (first | simp only [add_plain] at hx105_2 | skip)
            obtain ⟨ce27,hcl27,hM27,hcc27,hfr27⟩:=Kd.R_elem HO_0.out z25 (x13_2 : Int) p27 q27;obtain rfl:=k25_openM hM27;have hx27_0 : World.cell? _ ⟨go27,(x13_2 : Int).toNat * 3,none⟩ = some (.int .i64 ((rd_T25 x0_2 x13_2).f0)):=hcc27 0 _ rfl;have hx27_1 : World.cell? _ ⟨go27,(x13_2 : Int).toNat * 3 + 1,none⟩ = some (.int .i64 ((rd_T25 x0_2 x13_2).f1)):=hcc27 1 _ rfl;have hx27_2 : World.cell? _ ⟨go27,(x13_2 : Int).toNat * 3 + 2,none⟩ = some (.string ((rd_T25 x0_2 x13_2).f2)):=hcc27 2 _ rfl;have hf27_0 : World.frozen? _ ⟨go27,(x13_2 : Int).toNat * 3,none⟩ = false:=hfr27 0;have hf27_1 : World.frozen? _ ⟨go27,(x13_2 : Int).toNat * 3 + 1,none⟩ = false:=hfr27 1;have hf27_2 : World.frozen? _ ⟨go27,(x13_2 : Int).toNat * 3 + 2,none⟩ = false:=hfr27 2;clear hcl27 hcc27 hfr27 hM27;replace p27:=eq_true p27;replace q27:=eq_true q27;obtain ⟨ce31,hcl31,hM31,hcc31,hfr31⟩:=Kd.R_elem HO_0.out z25 (x13_2 : Int) (of_decide_eq_true (q4_)) (by have h_ : (x13_2 : Int) < ((x0_2.length : Int) : Int):=of_decide_eq_true (q4_);first | exact h_ | (have e_:=(Kd.R_reads' HO_0.out).1;omega) | simpa using h_);obtain rfl:=k25_openM hM31;have HP31:=(Kd.R_seg HO_0.out (x13_2 : Int) (of_decide_eq_true (q4_)) (by have h_ : (x13_2 : Int) < ((x0_2.length : Int) : Int):=of_decide_eq_true (q4_);first | exact h_ | (have e_:=(Kd.R_reads' HO_0.out).1;omega) | simpa using h_) (seg:=[.int .i64 ((rd_T25 x0_2 (ji22)).f0),.int .i64 ((rd_T25 x0_2 (ji22)).f1),.string ((rd_T25 x0_2 (ji22)).f2)]) (j:=0) hcl31 hcc31 (show 3 ≤ 3 from by decide) (x' := (⟨(rd_T25 x0_2 (ji22)).f0,(rd_T25 x0_2 (ji22)).f1,(rd_T25 x0_2 (ji22)).f2⟩ : S25)) (k25_mkM _ _ _ (⟨(rd_T25 x0_2 (ji22)).f0,(rd_T25 x0_2 (ji22)).f1,(rd_T25 x0_2 (ji22)).f2⟩ : S25) ) (fun _ hk=>hk)).1;rw [← Ny106.out] at HP31;have HQ31:=Aside0.mk HP31;clear hcl31 hcc31 hfr31 hM31 HP31;have p28 : 0 ≤ ((ji22) : Int):=of_decide_eq_true (q4_);have q28 : ((ji22) : Int) < ((x0_2.length : Int) : Int):=of_decide_eq_true (q4_);obtain ⟨ce28,hcl28,hM28,hcc28,hfr28⟩:=Kd.R_elem HQ31.out z25 ((ji22) : Int) p28 q28;obtain rfl:=k25_openM hM28;have hx28_0 : World.cell? _ ⟨go27,((ji22) : Int).toNat * 3,none⟩ = some (.int .i64 ((rd_T25 y106 (ji22)).f0)):=hcc28 0 _ rfl;have hx28_1 : World.cell? _ ⟨go27,((ji22) : Int).toNat * 3 + 1,none⟩ = some (.int .i64 ((rd_T25 y106 (ji22)).f1)):=hcc28 1 _ rfl;have hx28_2 : World.cell? _ ⟨go27,((ji22) : Int).toNat * 3 + 2,none⟩ = some (.string ((rd_T25 y106 (ji22)).f2)):=hcc28 2 _ rfl;have hf28_0 : World.frozen? _ ⟨go27,((ji22) : Int).toNat * 3,none⟩ = false:=hfr28 0;have hf28_1 : World.frozen? _ ⟨go27,((ji22) : Int).toNat * 3 + 1,none⟩ = false:=hfr28 1;have hf28_2 : World.frozen? _ ⟨go27,((ji22) : Int).toNat * 3 + 2,none⟩ = false:=hfr28 2;clear hcl28 hcc28 hfr28 hM28;replace p28:=eq_true p28;replace q28:=eq_true q28;obtain ⟨ce32,hcl32,hM32,hcc32,hfr32⟩:=Kd.R_elem HQ31.out z25 ((ji22) : Int) (of_decide_eq_true (q4_)) (by have h_ : ((ji22) : Int) < ((x0_2.length : Int) : Int):=of_decide_eq_true (q4_);first | exact h_ | (have e_:=(Kd.R_reads' HO_0.out).1;omega) | simpa using h_);obtain rfl:=k25_openM hM32;have HP32:=(Kd.R_seg HQ31.out ((ji22) : Int) (of_decide_eq_true (q4_)) (by have h_ : ((ji22) : Int) < ((x0_2.length : Int) : Int):=of_decide_eq_true (q4_);first | exact h_ | (have e_:=(Kd.R_reads' HO_0.out).1;omega) | simpa using h_) (seg:=[.int .i64 ((rd_T25 x0_2 x13_2).f0),.int .i64 ((rd_T25 x0_2 x13_2).f1),.string ((rd_T25 x0_2 x13_2).f2)]) (j:=0) hcl32 hcc32 (show 3 ≤ 3 from by decide) (x' := (⟨(rd_T25 x0_2 x13_2).f0,(rd_T25 x0_2 x13_2).f1,(rd_T25 x0_2 x13_2).f2⟩ : S25)) (k25_mkM _ _ _ (⟨(rd_T25 x0_2 x13_2).f0,(rd_T25 x0_2 x13_2).f1,(rd_T25 x0_2 x13_2).f2⟩ : S25) ) (fun _ hk=>hk)).1;rw [← Ny107.out] at HP32;have HQ32:=Aside0.mk HP32;clear hcl32 hcc32 hfr32 hM32 HP32;refine start_ (n:=18) (S:=fun w' => w'.cell? ⟨go27,((ji22)).toNat * 3,none⟩ = some (.int .i64 ((rd_T25 x0_2 (ji22)).f0)) ∧ w'.cell? ⟨go27,((ji22)).toNat * 3 + 1,none⟩ = some (.int .i64 ((rd_T25 x0_2 (ji22)).f1)) ∧ w'.cell? ⟨go27,((ji22)).toNat * 3 + 2,none⟩ = some (.string ((rd_T25 x0_2 (ji22)).f2)) ∧ w'.cell? ⟨go27,((x13_2).toNat * 3),none⟩ = some (.int .i64 ((rd_T25 x0_2 x13_2).f0)) ∧ w'.cell? ⟨go27,((x13_2).toNat * 3) + 1,none⟩ = some (.int .i64 ((rd_T25 x0_2 x13_2).f1)) ∧ w'.cell? ⟨go27,((x13_2).toNat * 3) + 2,none⟩ = some (.string ((rd_T25 x0_2 x13_2).f2))) (ds:=[15,17]) f17_ (by kernel_rfl) rfl rfl ⟨hx104_0,hx104_1,hx104_2,hx105_0,hx105_1,hx105_2⟩ (fun hHeld=>?_);refine with_tabW yAA.tab11 yAA.bits11 (fun HT_ HW_=>?_);generalize wr.drew = w29 at HO_0 HK HB GG27 HQ31 HQ32 hf27_0 hf27_1 hf27_2 hf28_0 hf28_1 hf28_2 hx104_0 hx104_1 hx104_2 hx105_0 hx105_1 hx105_2 hx27_0 hx27_1 hx27_2 hx28_0 hx28_1 hx28_2 hHeld ⊢
            (try simp only [World.setCells,Nat.add_zero,Nat.add_assoc,Nat.reduceAdd,show (k25).sz = 3 from rfl] at hx27_0)
            (try simp only [World.setCells,Nat.add_zero,Nat.add_assoc,Nat.reduceAdd,show (k25).sz = 3 from rfl] at hx27_1)
            (try simp only [World.setCells,Nat.add_zero,Nat.add_assoc,Nat.reduceAdd,show (k25).sz = 3 from rfl] at hx27_2)
            (try simp only [World.setCells,Nat.add_zero,Nat.add_assoc,Nat.reduceAdd,show (k25).sz = 3 from rfl] at hf27_0)
            (try simp only [World.setCells,Nat.add_zero,Nat.add_assoc,Nat.reduceAdd,show (k25).sz = 3 from rfl] at hf27_1)
            (try simp only [World.setCells,Nat.add_zero,Nat.add_assoc,Nat.reduceAdd,show (k25).sz = 3 from rfl] at hf27_2)
            (try simp only [World.setCells,Nat.add_zero,Nat.add_assoc,Nat.reduceAdd,show (k25).sz = 3 from rfl] at hx28_0)
            (try simp only [World.setCells,Nat.add_zero,Nat.add_assoc,Nat.reduceAdd,show (k25).sz = 3 from rfl] at hx28_1)
            (try simp only [World.setCells,Nat.add_zero,Nat.add_assoc,Nat.reduceAdd,show (k25).sz = 3 from rfl] at hx28_2)
            (try simp only [World.setCells,Nat.add_zero,Nat.add_assoc,Nat.reduceAdd,show (k25).sz = 3 from rfl] at hf28_0)
            (try simp only [World.setCells,Nat.add_zero,Nat.add_assoc,Nat.reduceAdd,show (k25).sz = 3 from rfl] at hf28_1)
            (try simp only [World.setCells,Nat.add_zero,Nat.add_assoc,Nat.reduceAdd,show (k25).sz = 3 from rfl] at hf28_2)
            refine pa_ 0 61 f18_ ?_
            refine pa_ 1 62 f19_ ?_
            refine pa_ 2 63 f20_ ?_
            refine pa_ 3 64 f21_ ?_
            refine pa_ 4 65 f22_ ?_
            refine pa_ 5 66 f23_ ?_
            refine pa_ 6 67 f24_ ?_
            refine pa_ 7 68 f25_ ?_
            refine pa_ 8 69 f26_ ?_
            refine pa_ 10 71 f49_ ?_
            refine pa_ 11 72 f50_ ?_
            refine pa_ 12 73 f51_ ?_
            refine take_ (i:=9) (N:=some 70) (v:=?_) (a' := ?_) f36_ rfl rfl (take_ofW HT_.out HW_.out (by kernel_rfl)) (fun _ _ _ h=>h) (Or.inl ⟨by rfl,?_⟩) hHeld ?_ ?_;rotate_left
            ·rintro w' ⟨s0,s1,s2,s3,s4,s5⟩;go_simp;with_reducible rfl
            rotate_left
            ·exact q53_
            refine take_ (i:=13) (N:=some 74) (v:=?_) (a' := ?_) f31_ rfl rfl (take_ofW HT_.out HW_.out (by kernel_rfl)) (fun _ _ _ h=>h) (Or.inl ⟨by rfl,?_⟩) hHeld ?_ ?_;rotate_left
            ·rintro w' ⟨s0,s1,s2,s3,s4,s5⟩;go_simp;with_reducible rfl
            rotate_left
            ·exact q53_
            refine pa_ 14 75 f32_ ?_
            refine last_ (i:=15) (N:=none) f33_ rfl rfl (one_of HT_.out (by kernel_rfl)) (by decide) (fun K hK=>?_);refine skip_ (w1:=?_) (by rfl) rfl ?_ ?_;rotate_left
            ·go_simp;rfl
            refine hK.out _ _ ?_;clear hK K;refine pure_ (i:=16) (N:=some 76) (v:=?_) (a' := ?_) f34_ rfl rfl (any_of HT_.out (by kernel_rfl)) (fun _ _ _ h=>h) (Or.inl ⟨by rfl,?_⟩) ?_ ?_;rotate_left
            ·intro w';go_simp;with_reducible rfl
            rotate_left
            ·exact q53_
            refine last_ (i:=17) (N:=none) f35_ rfl rfl (one_of HT_.out (by kernel_rfl)) (by decide) (fun K hK=>?_);refine skip_ (w1:=?_) (by rfl) rfl ?_ ?_;rotate_left
            ·go_simp;rfl
            refine hK.out _ _ ?_;clear hK K;refine done_ (done_of HT_.out (by kernel_rfl)) ?_;try go_wp2
            go_roundg k2
            case measure=>have:=HK1.out;have:=HK2.out;omega
            case rel=>exact ⟨(y107),(ji22),(by first | rfl | (simp;done) | (simp only [← hji22] <;> (first | rfl | simp)) | (simp [*];done)),H', ⟨by have:=HK1.out;have:=HK2.out;omega⟩,⟨by (with_reducible repeat (first | apply Kd.R_alloc | apply Kd.R_drewN | apply Kd.R_drew));exact HQ32.out⟩,⟨by repeat (first | (with_reducible first | exact HK.out | apply Kept.alloc | apply Kept.drewN | apply Kept.drew | refine Kept.setCell ?_ HMgo27.out _ | refine Kept.setCell ?_ HMgo27.out _ | refine Kept.setCell ?_ HMgo27.out _ | refine Kept.setCell ?_ HMgo27.out _ | refine Kept.setCell ?_ HMgo27.out _ | refine Kept.setCell ?_ HMgo27.out _) | exact HK.out)⟩,⟨by repeat (first | (with_reducible first | exact HB.out | apply below_alloc | apply pw_below_drewN | apply below_drew1 | refine below_set ?_ GB27.out | refine below_set ?_ GB27.out | refine below_set ?_ GB27.out | refine below_set ?_ GB27.out | refine below_set ?_ GB27.out | refine below_set ?_ GB27.out) | exact HB.out)⟩⟩
           ·rw [if_neg c26] at H;exact absurd H (q1_)
          ·rw [if_neg c25] at H;exact absurd H (q1_)
         ·rw [if_neg c24] at H;exact absurd H (q1_)
        ·rw [if_neg c23] at H;exact absurd H (q1_)
       ·rw [if_neg c21] at H;have c21b0:=decide_eq_false c21;clear c21;obtain rfl:=Option.some.inj H;go_wp2;first | go_end0 | ((try simp only [Exit.inBlock,Exit.then]);refine bodyPost_ret (results_none rfl _ _ _) rfl ?_)
        exact ⟨q6_,q9_,q20_,q19_⟩
 ·as_aux_lemma =>
  rw [if_neg c6] at H;have c6b0 : ((wrap64 (a2 - a1)) == 1) = false:=beq_eq_false_iff_ne.mpr c6;have c6b1 : ((wrap64 (a2 - a1)) != 1) = true:=bne_iff_ne.mpr c6;by_cases c33 : (wrap64 (a3 - a2)) = 1
  ·as_aux_lemma =>
   rw [if_pos c33] at H;have c33b0 : ((wrap64 (a3 - a2)) == 1) = true:=beq_iff_eq.mpr c33;have c33b1 : ((wrap64 (a3 - a2)) != 1) = false:=bne_eq_false_iff_eq.mpr c33;clear c33;have H' := Aside0.mk H;clear H;go_enter Tryz.func89,Tryz.ntmps89
   go_wp2;go_loopg [14,15] k (fun kq v14 v15 w' => ∃ (x14_1 : Int) (x15_1 : Int),v14 = .int .i64 x14_1 ∧ v15 = .int .i64 x15_1 ∧ Aside0 (yAA.l2 kq l0 a2 x14_1 x15_1 = some r) ∧ Aside0 (kq ≤ k) ∧ Aside0 (Kd.R k25 25 w' w0.heap.size (fun k_=>(P0_ k_ ∨ w.heap.size ≤ k_)) u9000_ l0) ∧ Aside0 (Kept w w' (fun k_=>P0_ k_)) ∧ Aside0 (Below w0.heap.size w0 w'))
   case atStart=>exact ⟨(a1),(a2),(q3_),(q3_),H', ⟨Nat.le_refl _⟩,⟨q7_⟩,⟨q19_⟩,⟨q20_⟩⟩
   case round =>
    as_aux_lemma =>
    clear H';try clear c6
    try clear c6b0
    try clear c6b1
    try clear c33
    try clear c33b0
    try clear c33b1
    obtain ⟨x14_1,x15_1,rfl,rfl,HA,HK1,HO_0,HK,HB⟩:=hrel;cases gk with
    | zero=>exact absurd HA.out (by simp [yAA.l2])
    | succ k1 =>
     have H:=HA.out;clear HA;simp only [yAA.l2] at H;by_cases c34 : x14_1 < x15_1
     ·rw [if_pos c34] at H;have c34b0:=decide_eq_true c34;clear c34;by_cases c35 : 0 ≤ a2
      ·rw [if_pos c35] at H;have c35b0:=decide_eq_true c35;clear c35;by_cases c36 : a2 < (l0.length : Int)
       ·rw [if_pos c36] at H;have c36b0:=decide_eq_true c36;clear c36;obtain ⟨ji37,hji37⟩ : ∃ j_ : Int,(wrap64 ((IntKind.u64.wrap (wrap64 (x14_1 + x15_1))) / 2)) = j_:=⟨_,rfl⟩;replace H : (if 0 ≤ (ji37) then (if (ji37) < (l0.length : Int) then ((yAT.f ((rd_T25 l0 a2).f0) ((rd_T25 l0 a2).f1) ((rd_T25 l0 a2).f2) ((rd_T25 l0 (ji37)).f0) ((rd_T25 l0 (ji37)).f1) ((rd_T25 l0 (ji37)).f2)).bind fun t110=>(if t110 < 0 then (yAA.l2 k1 l0 a2 x14_1 ji37) else (yAA.l2 k1 l0 a2 (wrap64 ((ji37) + 1)) x15_1))) else (none)) else (none)) = some r:=by first | (rw [hji37] at H;exact H) | (simp only [hji37] at H ⊢;exact H)
        have hji37w : (IntKind.i64.wrap ((IntKind.u64.wrap (wrap64 (x14_1 + x15_1))) / 2)) = ji37:=(i64_w _).trans hji37;by_cases c38 : 0 ≤ (ji37)
        ·rw [if_pos c38] at H;have c38b0:=decide_eq_true c38;clear c38;by_cases c39 : (ji37) < (l0.length : Int)
         ·rw [if_pos c39] at H;have c39b0:=decide_eq_true c39;clear c39;replace H:=Option.bind_eq_some_iff.mp H;obtain ⟨t110,A400,H⟩:=H;(try dsimp only at H);have A40:=Aside0.mk A400;clear A400;by_cases c41 : t110 < 0
          ·as_aux_lemma =>
           rw [if_pos c41] at H;have c41b0:=decide_eq_true c41;clear c41;have H' := Aside0.mk H;clear H;try go_wp2
           replace HO_0:=Aside0.mk (Kd.R_drew HO_0.out);replace HK:=Aside0.mk (Kept.drew HK.out);replace HB:=Aside0.mk (below_drew1 HB.out);obtain ⟨Ao43,co43,eo43⟩:=Kd.R_slice HO_0.out
           (first | subst eo43 | (injection eo43 with f1_ f2_ f3_;have f4_:=f1_.symm;have f5_:=f3_.symm;clear f1_ f2_ f3_;subst f4_;subst f5_))
           have p108 : 0 ≤ (a2 : Int):=of_decide_eq_true (q4_);have q108 : a2 < (l0.length : Int):=of_decide_eq_true (q4_);obtain ⟨ad108,e108,hx108_0,hx108_1,hx108_2⟩:=at_T25 (Kd.R_reads' HO_0.out).2.2 a2 p108 q108;cases e108;replace p108:=eq_true p108;replace q108:=eq_true q108;have p109 : 0 ≤ ((ji37) : Int):=of_decide_eq_true (q4_);have q109 : (ji37) < (l0.length : Int):=of_decide_eq_true (q4_);obtain ⟨ad109,e109,hx109_0,hx109_1,hx109_2⟩:=at_T25 (Kd.R_reads' HO_0.out).2.2 (ji37) p109 q109;obtain rfl : ad108 = ad109:=(by injection e109);replace p109:=eq_true p109;replace q109:=eq_true q109;refine start_ (n:=12) (S:=fun w' => w'.cell? (ad108.add ((a2).toNat * 3)) = some (.int .i64 ((rd_T25 l0 a2).f0)) ∧ w'.cell? ⟨(ad108.add ((a2).toNat * 3)).block,(ad108.add ((a2).toNat * 3)).off + 1,none⟩ = some (.int .i64 ((rd_T25 l0 a2).f1)) ∧ w'.cell? ⟨(ad108.add ((a2).toNat * 3)).block,(ad108.add ((a2).toNat * 3)).off + 2,none⟩ = some (.string ((rd_T25 l0 a2).f2)) ∧ w'.cell? (ad108.add (((ji37)).toNat * 3)) = some (.int .i64 ((rd_T25 l0 (ji37)).f0)) ∧ w'.cell? ⟨(ad108.add (((ji37)).toNat * 3)).block,(ad108.add (((ji37)).toNat * 3)).off + 1,none⟩ = some (.int .i64 ((rd_T25 l0 (ji37)).f1)) ∧ w'.cell? ⟨(ad108.add (((ji37)).toNat * 3)).block,(ad108.add (((ji37)).toNat * 3)).off + 2,none⟩ = some (.string ((rd_T25 l0 (ji37)).f2))) (ds:=[]) f52_ (by kernel_rfl) rfl rfl ⟨hx108_0,hx108_1,hx108_2,hx109_0,hx109_1,hx109_2⟩ (fun hHeld=>?_);refine with_tabW yAA.tab17 yAA.bits17 (fun HT_ HW_=>?_);generalize wr.drew = w42 at HO_0 HK HB hx108_0 hx108_1 hx108_2 hx109_0 hx109_1 hx109_2 hHeld ⊢;refine pure_ (i:=0) (N:=some 92) (v:=?_) (a' := ?_) f53_ rfl rfl (any_of HT_.out (by kernel_rfl)) (fun _ _ _ h=>h) (Or.inl ⟨by rfl,?_⟩) ?_ ?_;rotate_left
           ·intro w';go_simp;with_reducible rfl
           rotate_left
           ·exact q53_
           refine pa_ 1 93 f54_ ?_
           refine pa_ 2 94 f55_ ?_
           refine pa_ 3 95 f56_ ?_
           refine pa_ 5 97 f57_ ?_
           refine pa_ 6 98 f58_ ?_
           refine pa_ 7 99 f59_ ?_
           refine take_ (i:=4) (N:=some 96) (v:=?_) (a' := ?_) f60_ rfl rfl (take_ofW HT_.out HW_.out (by kernel_rfl)) (fun _ _ _ h=>h) (Or.inl ⟨by rfl,?_⟩) hHeld ?_ ?_;rotate_left
           ·rintro w' ⟨s0,s1,s2,s3,s4,s5⟩;go_simp;with_reducible rfl
           rotate_left
           ·exact q53_
           refine take_ (i:=8) (N:=some 100) (v:=?_) (a' := ?_) f61_ rfl rfl (take_ofW HT_.out HW_.out (by kernel_rfl)) (fun _ _ _ h=>h) (Or.inl ⟨by rfl,?_⟩) hHeld ?_ ?_;rotate_left
           ·rintro w' ⟨s0,s1,s2,s3,s4,s5⟩;go_simp;with_reducible rfl
           rotate_left
           ·exact q53_
           refine one_ (i:=9) (N:=some 101) f62_ rfl rfl (one_of HT_.out (by kernel_rfl)) (by decide) (fun K hK=>?_);refine MFun.goesV_ Tryz.func64 (by kernel_rfl) rfl #[.agg #[.int .i64 ((rd_T25 l0 a2).f0),.int .i64 ((rd_T25 l0 a2).f1),.string ((rd_T25 l0 a2).f2)],.agg #[.int .i64 ((rd_T25 l0 (ji37)).f0),.int .i64 ((rd_T25 l0 (ji37)).f1),.string ((rd_T25 l0 (ji37)).f2)]] (by rfl) rfl rfl rfl (by (try simp only [List.map_toArray,List.map_cons,List.map_nil]);first | done | (simp only [hji37];rfl) | rfl | (simp only [List.length_drop,List.length_take];rfl)) ?_
           with_reducible refine (yAT.calls ((rd_T25 l0 a2).f0) ((rd_T25 l0 a2).f1) ((rd_T25 l0 a2).f2) ((rd_T25 l0 (ji37)).f0) ((rd_T25 l0 (ji37)).f1) ((rd_T25 l0 (ji37)).f2) t110 _ A40.out).mono ?_
           rintro e w44 ⟨rfl,hb⟩;have HS0_:=(hb.cell (World.block_lt_of_cell? _ _ (hHeld.1))).trans (hHeld.1);have HS1_:=(hb.cell (World.block_lt_of_cell? _ _ (hHeld.2.1))).trans (hHeld.2.1);have HS2_:=(hb.cell (World.block_lt_of_cell? _ _ (hHeld.2.2.1))).trans (hHeld.2.2.1);have HS3_:=(hb.cell (World.block_lt_of_cell? _ _ (hHeld.2.2.2.1))).trans (hHeld.2.2.2.1);have HS4_:=(hb.cell (World.block_lt_of_cell? _ _ (hHeld.2.2.2.2.1))).trans (hHeld.2.2.2.2.1);have HS5_:=(hb.cell (World.block_lt_of_cell? _ _ (hHeld.2.2.2.2.2))).trans (hHeld.2.2.2.2.2);refine ⟨_,rfl,?_⟩;replace HO_0:=rB_ HO_0 hb;replace HK:=Aside0.mk (Kept.below (S:=(fun k_=>P0_ k_)) (q19_) hb);replace HB:=bS_ HB hb
           (try clear hb)
           (try clear hk)
           refine hK.out _ _ ⟨HS0_,HS1_,HS2_,HS3_,HS4_,HS5_⟩ (fun hHeld=>?_);clear hK K;refine norm_ (a' := ?_) ?_ ?_;rotate_left
           ·show Act.put _ (some 101) _ = _;simp only [Act.put,List.setIfInBounds_toArray,List.set_cons_zero,List.set_cons_succ,i64_w,i32_w];rfl
           refine pa_ 10 102 f63_ ?_
           refine pa_ 11 103 f64_ ?_
           refine done_ (done_of HT_.out (by kernel_rfl)) ?_;try go_wp2
           go_roundg k1
           case measure=>have:=HK1.out;omega
           case rel=>exact ⟨(x14_1),(ji37),(q3_),(by first | rfl | (simp;done) | (simp only [← hji37] <;> (first | rfl | simp)) | (simp [*];done)),H', ⟨by have:=HK1.out;omega⟩,⟨q9_⟩,⟨q19_⟩,⟨q20_⟩⟩
          ·as_aux_lemma =>
           rw [if_neg c41] at H;have c41b0:=decide_eq_false c41;clear c41;have H' := Aside0.mk H;clear H;try go_wp2
           replace HO_0:=Aside0.mk (Kd.R_drew HO_0.out);replace HK:=Aside0.mk (Kept.drew HK.out);replace HB:=Aside0.mk (below_drew1 HB.out);obtain ⟨Ao46,co46,eo46⟩:=Kd.R_slice HO_0.out
           (first | subst eo46 | (injection eo46 with f1_ f2_ f3_;have f4_:=f1_.symm;have f5_:=f3_.symm;clear f1_ f2_ f3_;subst f4_;subst f5_))
           have p108 : 0 ≤ (a2 : Int):=of_decide_eq_true (q4_);have q108 : a2 < (l0.length : Int):=of_decide_eq_true (q4_);obtain ⟨ad108,e108,hx108_0,hx108_1,hx108_2⟩:=at_T25 (Kd.R_reads' HO_0.out).2.2 a2 p108 q108;cases e108;replace p108:=eq_true p108;replace q108:=eq_true q108;have p109 : 0 ≤ ((ji37) : Int):=of_decide_eq_true (q4_);have q109 : (ji37) < (l0.length : Int):=of_decide_eq_true (q4_);obtain ⟨ad109,e109,hx109_0,hx109_1,hx109_2⟩:=at_T25 (Kd.R_reads' HO_0.out).2.2 (ji37) p109 q109;obtain rfl : ad108 = ad109:=(by injection e109);replace p109:=eq_true p109;replace q109:=eq_true q109;refine start_ (n:=12) (S:=fun w' => w'.cell? (ad108.add ((a2).toNat * 3)) = some (.int .i64 ((rd_T25 l0 a2).f0)) ∧ w'.cell? ⟨(ad108.add ((a2).toNat * 3)).block,(ad108.add ((a2).toNat * 3)).off + 1,none⟩ = some (.int .i64 ((rd_T25 l0 a2).f1)) ∧ w'.cell? ⟨(ad108.add ((a2).toNat * 3)).block,(ad108.add ((a2).toNat * 3)).off + 2,none⟩ = some (.string ((rd_T25 l0 a2).f2)) ∧ w'.cell? (ad108.add (((ji37)).toNat * 3)) = some (.int .i64 ((rd_T25 l0 (ji37)).f0)) ∧ w'.cell? ⟨(ad108.add (((ji37)).toNat * 3)).block,(ad108.add (((ji37)).toNat * 3)).off + 1,none⟩ = some (.int .i64 ((rd_T25 l0 (ji37)).f1)) ∧ w'.cell? ⟨(ad108.add (((ji37)).toNat * 3)).block,(ad108.add (((ji37)).toNat * 3)).off + 2,none⟩ = some (.string ((rd_T25 l0 (ji37)).f2))) (ds:=[]) f52_ (by kernel_rfl) rfl rfl ⟨hx108_0,hx108_1,hx108_2,hx109_0,hx109_1,hx109_2⟩ (fun hHeld=>?_);refine with_tabW yAA.tab17 yAA.bits17 (fun HT_ HW_=>?_);generalize wr.drew = w45 at HO_0 HK HB hx108_0 hx108_1 hx108_2 hx109_0 hx109_1 hx109_2 hHeld ⊢;refine pure_ (i:=0) (N:=some 92) (v:=?_) (a' := ?_) f53_ rfl rfl (any_of HT_.out (by kernel_rfl)) (fun _ _ _ h=>h) (Or.inl ⟨by rfl,?_⟩) ?_ ?_;rotate_left
           ·intro w';go_simp;with_reducible rfl
           rotate_left
           ·exact q53_
           refine pa_ 1 93 f54_ ?_
           refine pa_ 2 94 f55_ ?_
           refine pa_ 3 95 f56_ ?_
           refine pa_ 5 97 f57_ ?_
           refine pa_ 6 98 f58_ ?_
           refine pa_ 7 99 f59_ ?_
           refine take_ (i:=4) (N:=some 96) (v:=?_) (a' := ?_) f60_ rfl rfl (take_ofW HT_.out HW_.out (by kernel_rfl)) (fun _ _ _ h=>h) (Or.inl ⟨by rfl,?_⟩) hHeld ?_ ?_;rotate_left
           ·rintro w' ⟨s0,s1,s2,s3,s4,s5⟩;go_simp;with_reducible rfl
           rotate_left
           ·exact q53_
           refine take_ (i:=8) (N:=some 100) (v:=?_) (a' := ?_) f61_ rfl rfl (take_ofW HT_.out HW_.out (by kernel_rfl)) (fun _ _ _ h=>h) (Or.inl ⟨by rfl,?_⟩) hHeld ?_ ?_;rotate_left
           ·rintro w' ⟨s0,s1,s2,s3,s4,s5⟩;go_simp;with_reducible rfl
           rotate_left
           ·exact q53_
           refine one_ (i:=9) (N:=some 101) f62_ rfl rfl (one_of HT_.out (by kernel_rfl)) (by decide) (fun K hK=>?_);refine MFun.goesV_ Tryz.func64 (by kernel_rfl) rfl #[.agg #[.int .i64 ((rd_T25 l0 a2).f0),.int .i64 ((rd_T25 l0 a2).f1),.string ((rd_T25 l0 a2).f2)],.agg #[.int .i64 ((rd_T25 l0 (ji37)).f0),.int .i64 ((rd_T25 l0 (ji37)).f1),.string ((rd_T25 l0 (ji37)).f2)]] (by rfl) rfl rfl rfl (by (try simp only [List.map_toArray,List.map_cons,List.map_nil]);first | done | (simp only [hji37];rfl) | rfl | (simp only [List.length_drop,List.length_take];rfl)) ?_
           with_reducible refine (yAT.calls ((rd_T25 l0 a2).f0) ((rd_T25 l0 a2).f1) ((rd_T25 l0 a2).f2) ((rd_T25 l0 (ji37)).f0) ((rd_T25 l0 (ji37)).f1) ((rd_T25 l0 (ji37)).f2) t110 _ A40.out).mono ?_
           rintro e w47 ⟨rfl,hb⟩;have HS0_:=(hb.cell (World.block_lt_of_cell? _ _ (hHeld.1))).trans (hHeld.1);have HS1_:=(hb.cell (World.block_lt_of_cell? _ _ (hHeld.2.1))).trans (hHeld.2.1);have HS2_:=(hb.cell (World.block_lt_of_cell? _ _ (hHeld.2.2.1))).trans (hHeld.2.2.1);have HS3_:=(hb.cell (World.block_lt_of_cell? _ _ (hHeld.2.2.2.1))).trans (hHeld.2.2.2.1);have HS4_:=(hb.cell (World.block_lt_of_cell? _ _ (hHeld.2.2.2.2.1))).trans (hHeld.2.2.2.2.1);have HS5_:=(hb.cell (World.block_lt_of_cell? _ _ (hHeld.2.2.2.2.2))).trans (hHeld.2.2.2.2.2);refine ⟨_,rfl,?_⟩;replace HO_0:=rB_ HO_0 hb;replace HK:=Aside0.mk (Kept.below (S:=(fun k_=>P0_ k_)) (q19_) hb);replace HB:=bS_ HB hb
           (try clear hb)
           (try clear hk)
           refine hK.out _ _ ⟨HS0_,HS1_,HS2_,HS3_,HS4_,HS5_⟩ (fun hHeld=>?_);clear hK K;refine norm_ (a' := ?_) ?_ ?_;rotate_left
           ·show Act.put _ (some 101) _ = _;simp only [Act.put,List.setIfInBounds_toArray,List.set_cons_zero,List.set_cons_succ,i64_w,i32_w];rfl
           refine pa_ 10 102 f63_ ?_
           refine pa_ 11 103 f64_ ?_
           refine done_ (done_of HT_.out (by kernel_rfl)) ?_;try go_wp2
           go_roundg k1
           case measure=>have:=HK1.out;omega
           case rel=>exact ⟨(wrap64 ((ji37) + 1)),(x15_1),(by first | rfl | (simp;done) | (simp only [← hji37] <;> (first | rfl | simp)) | (simp [*];done)),(q3_),H', ⟨by have:=HK1.out;omega⟩,⟨q9_⟩,⟨q19_⟩,⟨q20_⟩⟩
         ·rw [if_neg c39] at H;exact absurd H (q1_)
        ·rw [if_neg c38] at H;exact absurd H (q1_)
       ·rw [if_neg c36] at H;exact absurd H (q1_)
      ·rw [if_neg c35] at H;exact absurd H (q1_)
     ·rw [if_neg c34] at H;have c34b0:=decide_eq_false c34;clear c34;have H' := Aside0.mk H;clear H;go_wp2;go_loopg [17] k1 (fun kq v17 w' => ∃ (x0_2 : List (S25)) (x17_2 : Int),v17 = .int .i64 x17_2 ∧ Aside0 (yAA.l3 kq x0_2 x14_1 x17_2 = some r) ∧ Aside0 (kq ≤ k1) ∧ Aside0 (Kd.R k25 25 w' w0.heap.size (fun k_=>(P0_ k_ ∨ w.heap.size ≤ k_)) u9000_ x0_2) ∧ Aside0 (Kept w w' (fun k_=>P0_ k_)) ∧ Aside0 (Below w0.heap.size w0 w'))
      case atStart=>exact ⟨(l0),(a2),(q3_),H', ⟨Nat.le_refl _⟩,⟨q9_⟩,⟨q19_⟩,⟨q20_⟩⟩
      case round =>
       clear H';try clear c6
       try clear c6b0
       try clear c6b1
       try clear c33
       try clear c33b0
       try clear c33b1
       try clear c34
       try clear c34b0
       obtain ⟨x0_2,x17_2,rfl,HA,HK2,HO_0,HK,HB⟩:=hrel;cases gk with
       | zero=>exact absurd HA.out (by simp [yAA.l3])
       | succ k2 =>
        have H:=HA.out;clear HA;simp only [yAA.l3] at H;by_cases c48 : x17_2 > x14_1
        ·rw [if_pos c48] at H;have c48b0 : decide (x14_1 < x17_2) = true:=decide_eq_true c48;clear c48;obtain ⟨ji49,hji49⟩ : ∃ j_ : Int,(wrap64 (x17_2 - 1)) = j_:=⟨_,rfl⟩;replace H : (if 0 ≤ (ji49) then (if (ji49) < (x0_2.length : Int) then (if 0 ≤ x17_2 then (if x17_2 < (x0_2.length : Int) then (yAA.l3 k2 ((x0_2.set (x17_2 : Int).toNat (⟨(rd_T25 x0_2 (ji49)).f0,(rd_T25 x0_2 (ji49)).f1,(rd_T25 x0_2 (ji49)).f2⟩ : S25)).set ((ji49) : Int).toNat (⟨(rd_T25 x0_2 x17_2).f0,(rd_T25 x0_2 x17_2).f1,(rd_T25 x0_2 x17_2).f2⟩ : S25)) x14_1 ji49) else (none)) else (none)) else (none)) else (none)) = some r:=by first | (rw [hji49] at H;exact H) | (simp only [hji49] at H ⊢;exact H)
         have hji49w : (IntKind.i64.wrap (x17_2 - 1)) = ji49:=(i64_w _).trans hji49;by_cases c50 : 0 ≤ (ji49)
         ·rw [if_pos c50] at H;have c50b0:=decide_eq_true c50;clear c50;by_cases c51 : (ji49) < (x0_2.length : Int)
          ·rw [if_pos c51] at H;have c51b0:=decide_eq_true c51;clear c51;by_cases c52 : 0 ≤ x17_2
           ·rw [if_pos c52] at H;have c52b0:=decide_eq_true c52;clear c52;by_cases c53 : x17_2 < (x0_2.length : Int)
            ·as_aux_lemma =>
             rw [if_pos c53] at H;have c53b0:=decide_eq_true c53;clear c53;obtain ⟨y113,hy113⟩ : ∃ y_ : List (S25),y_ = (x0_2.set (x17_2 : Int).toNat (⟨(rd_T25 x0_2 (ji49)).f0,(rd_T25 x0_2 (ji49)).f1,(rd_T25 x0_2 (ji49)).f2⟩ : S25)):=⟨_,rfl⟩;replace H : (yAA.l3 k2 (y113.set ((ji49) : Int).toNat (⟨(rd_T25 x0_2 x17_2).f0,(rd_T25 x0_2 x17_2).f1,(rd_T25 x0_2 x17_2).f2⟩ : S25)) x14_1 ji49) = some r:=by first | (rw [hy113];with_reducible exact H) | (have H2_:=(Option.bind_some _ _).symm.trans H;rw [hy113];with_reducible exact H2_) | (have H2_:=(Option.bind_some _ _).symm.trans H;with_reducible exact H2_) | with_reducible exact H | (rw [hy113];exact H) | exact H
             have Ny113:=Aside0.mk hy113;clear hy113;obtain ⟨y114,hy114⟩ : ∃ y_ : List (S25),y_ = (y113.set ((ji49) : Int).toNat (⟨(rd_T25 x0_2 x17_2).f0,(rd_T25 x0_2 x17_2).f1,(rd_T25 x0_2 x17_2).f2⟩ : S25)):=⟨_,rfl⟩;replace H : (yAA.l3 k2 y114 x14_1 ji49) = some r:=by first | (rw [hy114];with_reducible exact H) | (have H2_:=(Option.bind_some _ _).symm.trans H;rw [hy114];with_reducible exact H2_) | (have H2_:=(Option.bind_some _ _).symm.trans H;with_reducible exact H2_) | with_reducible exact H | (rw [hy114];exact H) | exact H
             have Ny114:=Aside0.mk hy114;clear hy114;have H' := Aside0.mk H;clear H;try go_wp2
             replace HO_0:=Aside0.mk (Kd.R_drew HO_0.out);replace HK:=Aside0.mk (Kept.drew HK.out);replace HB:=Aside0.mk (below_drew1 HB.out);obtain ⟨Ao57,co57,eo57⟩:=Kd.R_slice HO_0.out
             (first | subst eo57 | (injection eo57 with f1_ f2_ f3_;have f4_:=f1_.symm;have f5_:=f3_.symm;clear f1_ f2_ f3_;subst f4_;subst f5_))
             have p111 : 0 ≤ ((ji49) : Int):=of_decide_eq_true (q4_);have q111 : (ji49) < (x0_2.length : Int):=of_decide_eq_true (q4_);obtain ⟨ad111,e111,hx111_0,hx111_1,hx111_2⟩:=at_T25 (Kd.R_reads' HO_0.out).2.2 (ji49) p111 q111;cases e111;replace p111:=eq_true p111;replace q111:=eq_true q111;have p112 : 0 ≤ (x17_2 : Int):=of_decide_eq_true (q4_);have q112 : x17_2 < (x0_2.length : Int):=of_decide_eq_true (q4_);obtain ⟨ad112,e112,hx112_0,hx112_1,hx112_2⟩:=at_T25 (Kd.R_reads' HO_0.out).2.2 x17_2 p112 q112;obtain rfl : ad111 = ad112:=(by injection e112);replace p112:=eq_true p112;replace q112:=eq_true q112;have p54 : 0 ≤ (x17_2 : Int):=of_decide_eq_true (q4_);have q54 : (x17_2 : Int) < ((x0_2.length : Int) : Int):=of_decide_eq_true (q4_);obtain ⟨go54,co54,eo54,gb54,gl54,cl54,HG54⟩:=Kd.R_form HO_0.out (by omega)
             (first | cases eo54 | (injection eo54 with ea_ en_ ec_;(first | subst ea_ | (injection ea_ with ea_;subst ea_));subst ec_;clear en_))
             have GB54:=Aside0.mk gb54;have GG54:=Aside0.mk HG54;clear gb54 gl54 HG54;have HMgo54:=Aside0.mk (show (P0_ go54 ∨ w.heap.size ≤ go54) from (HO_0.out.1 _ rfl))
             (first | simp only [add_plain] at hx111_0 | skip)
             (first | simp only [add_plain] at hx111_1 | skip)
             (first | simp only [add_plain] at hx111_2 | skip)
             (first | simp only [add_plain] at hx112_0 | skip)
             (first | simp only [add_plain] at hx112_1 | skip)
             (first | simp only [add_plain] at hx112_2 | skip)
             obtain ⟨ce54,hcl54,hM54,hcc54,hfr54⟩:=Kd.R_elem HO_0.out z25 (x17_2 : Int) p54 q54;obtain rfl:=k25_openM hM54;have hx54_0 : World.cell? _ ⟨go54,(x17_2 : Int).toNat * 3,none⟩ = some (.int .i64 ((rd_T25 x0_2 x17_2).f0)):=hcc54 0 _ rfl;have hx54_1 : World.cell? _ ⟨go54,(x17_2 : Int).toNat * 3 + 1,none⟩ = some (.int .i64 ((rd_T25 x0_2 x17_2).f1)):=hcc54 1 _ rfl;have hx54_2 : World.cell? _ ⟨go54,(x17_2 : Int).toNat * 3 + 2,none⟩ = some (.string ((rd_T25 x0_2 x17_2).f2)):=hcc54 2 _ rfl;have hf54_0 : World.frozen? _ ⟨go54,(x17_2 : Int).toNat * 3,none⟩ = false:=hfr54 0;have hf54_1 : World.frozen? _ ⟨go54,(x17_2 : Int).toNat * 3 + 1,none⟩ = false:=hfr54 1;have hf54_2 : World.frozen? _ ⟨go54,(x17_2 : Int).toNat * 3 + 2,none⟩ = false:=hfr54 2;clear hcl54 hcc54 hfr54 hM54;replace p54:=eq_true p54;replace q54:=eq_true q54;obtain ⟨ce58,hcl58,hM58,hcc58,hfr58⟩:=Kd.R_elem HO_0.out z25 (x17_2 : Int) (of_decide_eq_true (q4_)) (by have h_ : (x17_2 : Int) < ((x0_2.length : Int) : Int):=of_decide_eq_true (q4_);first | exact h_ | (have e_:=(Kd.R_reads' HO_0.out).1;omega) | simpa using h_);obtain rfl:=k25_openM hM58;have HP58:=(Kd.R_seg HO_0.out (x17_2 : Int) (of_decide_eq_true (q4_)) (by have h_ : (x17_2 : Int) < ((x0_2.length : Int) : Int):=of_decide_eq_true (q4_);first | exact h_ | (have e_:=(Kd.R_reads' HO_0.out).1;omega) | simpa using h_) (seg:=[.int .i64 ((rd_T25 x0_2 (ji49)).f0),.int .i64 ((rd_T25 x0_2 (ji49)).f1),.string ((rd_T25 x0_2 (ji49)).f2)]) (j:=0) hcl58 hcc58 (show 3 ≤ 3 from by decide) (x' := (⟨(rd_T25 x0_2 (ji49)).f0,(rd_T25 x0_2 (ji49)).f1,(rd_T25 x0_2 (ji49)).f2⟩ : S25)) (k25_mkM _ _ _ (⟨(rd_T25 x0_2 (ji49)).f0,(rd_T25 x0_2 (ji49)).f1,(rd_T25 x0_2 (ji49)).f2⟩ : S25) ) (fun _ hk=>hk)).1;rw [← Ny113.out] at HP58;have HQ58:=Aside0.mk HP58;clear hcl58 hcc58 hfr58 hM58 HP58;have p55 : 0 ≤ ((ji49) : Int):=of_decide_eq_true (q4_);have q55 : ((ji49) : Int) < ((x0_2.length : Int) : Int):=of_decide_eq_true (q4_);obtain ⟨ce55,hcl55,hM55,hcc55,hfr55⟩:=Kd.R_elem HQ58.out z25 ((ji49) : Int) p55 q55;obtain rfl:=k25_openM hM55;have hx55_0 : World.cell? _ ⟨go54,((ji49) : Int).toNat * 3,none⟩ = some (.int .i64 ((rd_T25 y113 (ji49)).f0)):=hcc55 0 _ rfl;have hx55_1 : World.cell? _ ⟨go54,((ji49) : Int).toNat * 3 + 1,none⟩ = some (.int .i64 ((rd_T25 y113 (ji49)).f1)):=hcc55 1 _ rfl;have hx55_2 : World.cell? _ ⟨go54,((ji49) : Int).toNat * 3 + 2,none⟩ = some (.string ((rd_T25 y113 (ji49)).f2)):=hcc55 2 _ rfl;have hf55_0 : World.frozen? _ ⟨go54,((ji49) : Int).toNat * 3,none⟩ = false:=hfr55 0;have hf55_1 : World.frozen? _ ⟨go54,((ji49) : Int).toNat * 3 + 1,none⟩ = false:=hfr55 1;have hf55_2 : World.frozen? _ ⟨go54,((ji49) : Int).toNat * 3 + 2,none⟩ = false:=hfr55 2;clear hcl55 hcc55 hfr55 hM55;replace p55:=eq_true p55;replace q55:=eq_true q55;obtain ⟨ce59,hcl59,hM59,hcc59,hfr59⟩:=Kd.R_elem HQ58.out z25 ((ji49) : Int) (of_decide_eq_true (q4_)) (by have h_ : ((ji49) : Int) < ((x0_2.length : Int) : Int):=of_decide_eq_true (q4_);first | exact h_ | (have e_:=(Kd.R_reads' HO_0.out).1;omega) | simpa using h_);obtain rfl:=k25_openM hM59;have HP59:=(Kd.R_seg HQ58.out ((ji49) : Int) (of_decide_eq_true (q4_)) (by have h_ : ((ji49) : Int) < ((x0_2.length : Int) : Int):=of_decide_eq_true (q4_);first | exact h_ | (have e_:=(Kd.R_reads' HO_0.out).1;omega) | simpa using h_) (seg:=[.int .i64 ((rd_T25 x0_2 x17_2).f0),.int .i64 ((rd_T25 x0_2 x17_2).f1),.string ((rd_T25 x0_2 x17_2).f2)]) (j:=0) hcl59 hcc59 (show 3 ≤ 3 from by decide) (x' := (⟨(rd_T25 x0_2 x17_2).f0,(rd_T25 x0_2 x17_2).f1,(rd_T25 x0_2 x17_2).f2⟩ : S25)) (k25_mkM _ _ _ (⟨(rd_T25 x0_2 x17_2).f0,(rd_T25 x0_2 x17_2).f1,(rd_T25 x0_2 x17_2).f2⟩ : S25) ) (fun _ hk=>hk)).1;rw [← Ny114.out] at HP59;have HQ59:=Aside0.mk HP59;clear hcl59 hcc59 hfr59 hM59 HP59;refine start_ (n:=18) (S:=fun w' => w'.cell? ⟨go54,((ji49)).toNat * 3,none⟩ = some (.int .i64 ((rd_T25 x0_2 (ji49)).f0)) ∧ w'.cell? ⟨go54,((ji49)).toNat * 3 + 1,none⟩ = some (.int .i64 ((rd_T25 x0_2 (ji49)).f1)) ∧ w'.cell? ⟨go54,((ji49)).toNat * 3 + 2,none⟩ = some (.string ((rd_T25 x0_2 (ji49)).f2)) ∧ w'.cell? ⟨go54,((x17_2).toNat * 3),none⟩ = some (.int .i64 ((rd_T25 x0_2 x17_2).f0)) ∧ w'.cell? ⟨go54,((x17_2).toNat * 3) + 1,none⟩ = some (.int .i64 ((rd_T25 x0_2 x17_2).f1)) ∧ w'.cell? ⟨go54,((x17_2).toNat * 3) + 2,none⟩ = some (.string ((rd_T25 x0_2 x17_2).f2))) (ds:=[15,17]) f17_ (by kernel_rfl) rfl rfl ⟨hx111_0,hx111_1,hx111_2,hx112_0,hx112_1,hx112_2⟩ (fun hHeld=>?_);refine with_tabW yAA.tab23 yAA.bits23 (fun HT_ HW_=>?_);generalize wr.drew = w56 at HO_0 HK HB GG54 HQ58 HQ59 hf54_0 hf54_1 hf54_2 hf55_0 hf55_1 hf55_2 hx111_0 hx111_1 hx111_2 hx112_0 hx112_1 hx112_2 hx54_0 hx54_1 hx54_2 hx55_0 hx55_1 hx55_2 hHeld ⊢
             (try simp only [World.setCells,Nat.add_zero,Nat.add_assoc,Nat.reduceAdd,show (k25).sz = 3 from rfl] at hx54_0)
             (try simp only [World.setCells,Nat.add_zero,Nat.add_assoc,Nat.reduceAdd,show (k25).sz = 3 from rfl] at hx54_1)
             (try simp only [World.setCells,Nat.add_zero,Nat.add_assoc,Nat.reduceAdd,show (k25).sz = 3 from rfl] at hx54_2)
             (try simp only [World.setCells,Nat.add_zero,Nat.add_assoc,Nat.reduceAdd,show (k25).sz = 3 from rfl] at hf54_0)
             (try simp only [World.setCells,Nat.add_zero,Nat.add_assoc,Nat.reduceAdd,show (k25).sz = 3 from rfl] at hf54_1)
             (try simp only [World.setCells,Nat.add_zero,Nat.add_assoc,Nat.reduceAdd,show (k25).sz = 3 from rfl] at hf54_2)
             (try simp only [World.setCells,Nat.add_zero,Nat.add_assoc,Nat.reduceAdd,show (k25).sz = 3 from rfl] at hx55_0)
             (try simp only [World.setCells,Nat.add_zero,Nat.add_assoc,Nat.reduceAdd,show (k25).sz = 3 from rfl] at hx55_1)
             (try simp only [World.setCells,Nat.add_zero,Nat.add_assoc,Nat.reduceAdd,show (k25).sz = 3 from rfl] at hx55_2)
             (try simp only [World.setCells,Nat.add_zero,Nat.add_assoc,Nat.reduceAdd,show (k25).sz = 3 from rfl] at hf55_0)
             (try simp only [World.setCells,Nat.add_zero,Nat.add_assoc,Nat.reduceAdd,show (k25).sz = 3 from rfl] at hf55_1)
             (try simp only [World.setCells,Nat.add_zero,Nat.add_assoc,Nat.reduceAdd,show (k25).sz = 3 from rfl] at hf55_2)
             refine pa_ 0 113 f18_ ?_
             refine pa_ 1 114 f19_ ?_
             refine pa_ 2 115 f20_ ?_
             refine pa_ 3 116 f21_ ?_
             refine pa_ 4 117 f22_ ?_
             refine pa_ 5 118 f23_ ?_
             refine pa_ 6 119 f24_ ?_
             refine pa_ 7 120 f25_ ?_
             refine pa_ 8 121 f26_ ?_
             refine pa_ 10 123 f49_ ?_
             refine pa_ 11 124 f50_ ?_
             refine pa_ 12 125 f51_ ?_
             refine take_ (i:=9) (N:=some 122) (v:=?_) (a' := ?_) f36_ rfl rfl (take_ofW HT_.out HW_.out (by kernel_rfl)) (fun _ _ _ h=>h) (Or.inl ⟨by rfl,?_⟩) hHeld ?_ ?_;rotate_left
             ·rintro w' ⟨s0,s1,s2,s3,s4,s5⟩;go_simp;with_reducible rfl
             rotate_left
             ·exact q53_
             refine take_ (i:=13) (N:=some 126) (v:=?_) (a' := ?_) f31_ rfl rfl (take_ofW HT_.out HW_.out (by kernel_rfl)) (fun _ _ _ h=>h) (Or.inl ⟨by rfl,?_⟩) hHeld ?_ ?_;rotate_left
             ·rintro w' ⟨s0,s1,s2,s3,s4,s5⟩;go_simp;with_reducible rfl
             rotate_left
             ·exact q53_
             refine pa_ 14 127 f32_ ?_
             refine last_ (i:=15) (N:=none) f33_ rfl rfl (one_of HT_.out (by kernel_rfl)) (by decide) (fun K hK=>?_);refine skip_ (w1:=?_) (by rfl) rfl ?_ ?_;rotate_left
             ·go_simp;rfl
             refine hK.out _ _ ?_;clear hK K;refine pure_ (i:=16) (N:=some 128) (v:=?_) (a' := ?_) f34_ rfl rfl (any_of HT_.out (by kernel_rfl)) (fun _ _ _ h=>h) (Or.inl ⟨by rfl,?_⟩) ?_ ?_;rotate_left
             ·intro w';go_simp;with_reducible rfl
             rotate_left
             ·exact q53_
             refine last_ (i:=17) (N:=none) f35_ rfl rfl (one_of HT_.out (by kernel_rfl)) (by decide) (fun K hK=>?_);refine skip_ (w1:=?_) (by rfl) rfl ?_ ?_;rotate_left
             ·go_simp;rfl
             refine hK.out _ _ ?_;clear hK K;refine done_ (done_of HT_.out (by kernel_rfl)) ?_;try go_wp2
             go_roundg k2
             case measure=>have:=HK1.out;have:=HK2.out;omega
             case rel=>exact ⟨(y114),(ji49),(by first | rfl | (simp;done) | (simp only [← hji49] <;> (first | rfl | simp)) | (simp [*];done)),H', ⟨by have:=HK1.out;have:=HK2.out;omega⟩,⟨by (with_reducible repeat (first | apply Kd.R_alloc | apply Kd.R_drewN | apply Kd.R_drew));exact HQ59.out⟩,⟨by repeat (first | (with_reducible first | exact HK.out | apply Kept.alloc | apply Kept.drewN | apply Kept.drew | refine Kept.setCell ?_ HMgo54.out _ | refine Kept.setCell ?_ HMgo54.out _ | refine Kept.setCell ?_ HMgo54.out _ | refine Kept.setCell ?_ HMgo54.out _ | refine Kept.setCell ?_ HMgo54.out _ | refine Kept.setCell ?_ HMgo54.out _) | exact HK.out)⟩,⟨by repeat (first | (with_reducible first | exact HB.out | apply below_alloc | apply pw_below_drewN | apply below_drew1 | refine below_set ?_ GB54.out | refine below_set ?_ GB54.out | refine below_set ?_ GB54.out | refine below_set ?_ GB54.out | refine below_set ?_ GB54.out | refine below_set ?_ GB54.out) | exact HB.out)⟩⟩
            ·rw [if_neg c53] at H;exact absurd H (q1_)
           ·rw [if_neg c52] at H;exact absurd H (q1_)
          ·rw [if_neg c51] at H;exact absurd H (q1_)
         ·rw [if_neg c50] at H;exact absurd H (q1_)
        ·rw [if_neg c48] at H;have c48b0 : decide (x14_1 < x17_2) = false:=decide_eq_false c48;clear c48;obtain rfl:=Option.some.inj H;go_wp2;first | go_end0 | ((try simp only [Exit.inBlock,Exit.then]);refine bodyPost_ret (results_none rfl _ _ _) rfl ?_)
         exact ⟨q6_,q9_,q20_,q19_⟩
  ·as_aux_lemma =>
   rw [if_neg c33] at H;have c33b0 : ((wrap64 (a3 - a2)) == 1) = false:=beq_eq_false_iff_ne.mpr c33;have c33b1 : ((wrap64 (a3 - a2)) != 1) = true:=bne_iff_ne.mpr c33;have HC60:=Aside0.mk H;clear H;go_enter Tryz.func89,Tryz.ntmps89
   go_upto_if 140 with (fail)
   go_cut [20,21] (fun v20 v21 wc=>∃ (kq : Nat) (x20_59 : Int) (x21_59 : Int),v20 = .int .i64 x20_59 ∧ v21 = .int .i64 x21_59 ∧ Aside0 (yAA.j4 kq l0 a1 a2 a3 (wrap64 ((IntKind.u64.wrap (wrap64 (a1 + a3))) / 2)) (wrap64 ((wrap64 ((IntKind.u64.wrap (wrap64 (a1 + a3))) / 2)) + a2)) x20_59 x21_59 = some r) ∧ Aside0 (kq ≤ k) ∧ Aside0 (Kd.R k25 25 wc w0.heap.size (fun k_=>(P0_ k_ ∨ w.heap.size ≤ k_)) u9000_ l0) ∧ Aside0 (Kept w wc (fun k_=>P0_ k_)) ∧ Aside0 (Below w0.heap.size w0 wc))
   case first =>
    have H:=HC60.out;clear HC60;by_cases c61 : a2 > (wrap64 ((IntKind.u64.wrap (wrap64 (a1 + a3))) / 2))
    ·rw [if_pos c61] at H;have c61b0 : decide ((wrap64 ((IntKind.u64.wrap (wrap64 (a1 + a3))) / 2)) < a2) = true:=decide_eq_true c61;clear c61
     (first | rw [c61b0] | (simp only [i64_w,i32_w];rw [c61b0]) | skip)
     have H' := Aside0.mk H;clear H;go_wp2;go_meet
     case rel=>exact ⟨_,(wrap64 ((wrap64 ((wrap64 ((IntKind.u64.wrap (wrap64 (a1 + a3))) / 2)) + a2)) - a3)),(wrap64 ((IntKind.u64.wrap (wrap64 (a1 + a3))) / 2)),(q3_),(q3_),H', ⟨q2_⟩,⟨q7_⟩,⟨q19_⟩,⟨q20_⟩⟩
    ·rw [if_neg c61] at H;have c61b0 : decide ((wrap64 ((IntKind.u64.wrap (wrap64 (a1 + a3))) / 2)) < a2) = false:=decide_eq_false c61;clear c61
     (first | rw [c61b0] | (simp only [i64_w,i32_w];rw [c61b0]) | skip)
     have H' := Aside0.mk H;clear H;go_wp2;go_meet
     case rel=>exact ⟨_,(a1),(a2),(q3_),(q3_),H', ⟨q2_⟩,⟨q7_⟩,⟨q19_⟩,⟨q20_⟩⟩
   case rest =>
    as_aux_lemma =>
    clear HC60;try clear c6
    try clear c6b0
    try clear c6b1
    try clear c33
    try clear c33b0
    try clear c33b1
    obtain ⟨kq,x20_59,x21_59,rfl,rfl,HA,HJ59,HO_0,HK,HB⟩:=hcut;cases kq with
    | zero=>exact absurd HA.out (by simp [yAA.j4])
    | succ kj59 =>
     have H:=HA.out;clear HA;simp only [yAA.j4] at H;have H' := Aside0.mk H;clear H;go_wp2;go_loopg [20,21] kj59 (fun kq v20 v21 w' => ∃ (x20_2 : Int) (x21_2 : Int),v20 = .int .i64 x20_2 ∧ v21 = .int .i64 x21_2 ∧ Aside0 (yAA.l4 kq l0 a1 a2 a3 (wrap64 ((IntKind.u64.wrap (wrap64 (a1 + a3))) / 2)) (wrap64 ((wrap64 ((IntKind.u64.wrap (wrap64 (a1 + a3))) / 2)) + a2)) x20_2 x21_2 (wrap64 ((wrap64 ((wrap64 ((IntKind.u64.wrap (wrap64 (a1 + a3))) / 2)) + a2)) - 1)) = some r) ∧ Aside0 (kq ≤ kj59) ∧ Aside0 (Kd.R k25 25 w' w0.heap.size (fun k_=>(P0_ k_ ∨ w.heap.size ≤ k_)) u9000_ l0) ∧ Aside0 (Kept w w' (fun k_=>P0_ k_)) ∧ Aside0 (Below w0.heap.size w0 w'))
     case atStart=>exact ⟨(x20_59),(x21_59),(q3_),(q3_),H', ⟨Nat.le_refl _⟩,⟨q9_⟩,⟨q19_⟩,⟨q20_⟩⟩
     case round =>
      as_aux_lemma =>
      clear H';try clear c6
      try clear c6b0
      try clear c6b1
      try clear c33
      try clear c33b0
      try clear c33b1
      obtain ⟨x20_2,x21_2,rfl,rfl,HA,HK2,HO_0,HK,HB⟩:=hrel;cases gk with
      | zero=>exact absurd HA.out (by simp [yAA.l4])
      | succ k2 =>
       have H:=HA.out;clear HA;simp only [yAA.l4] at H;by_cases c62 : x20_2 < x21_2
       ·rw [if_pos c62] at H;have c62b0:=decide_eq_true c62;clear c62;obtain ⟨ji63,hji63⟩ : ∃ j_ : Int,(wrap64 ((wrap64 ((wrap64 ((wrap64 ((IntKind.u64.wrap (wrap64 (a1 + a3))) / 2)) + a2)) - 1)) - (wrap64 ((IntKind.u64.wrap (wrap64 (x20_2 + x21_2))) / 2)))) = j_:=⟨_,rfl⟩;replace H : (if 0 ≤ (ji63) then (if (ji63) < (l0.length : Int) then (if 0 ≤ (wrap64 ((IntKind.u64.wrap (wrap64 (x20_2 + x21_2))) / 2)) then (if (wrap64 ((IntKind.u64.wrap (wrap64 (x20_2 + x21_2))) / 2)) < (l0.length : Int) then ((yAT.f ((rd_T25 l0 (ji63)).f0) ((rd_T25 l0 (ji63)).f1) ((rd_T25 l0 (ji63)).f2) ((rd_T25 l0 (wrap64 ((IntKind.u64.wrap (wrap64 (x20_2 + x21_2))) / 2))).f0) ((rd_T25 l0 (wrap64 ((IntKind.u64.wrap (wrap64 (x20_2 + x21_2))) / 2))).f1) ((rd_T25 l0 (wrap64 ((IntKind.u64.wrap (wrap64 (x20_2 + x21_2))) / 2))).f2)).bind fun t117=>(if t117 < 0 then (yAA.l4 k2 l0 a1 a2 a3 (wrap64 ((IntKind.u64.wrap (wrap64 (a1 + a3))) / 2)) (wrap64 ((wrap64 ((IntKind.u64.wrap (wrap64 (a1 + a3))) / 2)) + a2)) x20_2 (wrap64 ((IntKind.u64.wrap (wrap64 (x20_2 + x21_2))) / 2)) (wrap64 ((wrap64 ((wrap64 ((IntKind.u64.wrap (wrap64 (a1 + a3))) / 2)) + a2)) - 1))) else (yAA.l4 k2 l0 a1 a2 a3 (wrap64 ((IntKind.u64.wrap (wrap64 (a1 + a3))) / 2)) (wrap64 ((wrap64 ((IntKind.u64.wrap (wrap64 (a1 + a3))) / 2)) + a2)) (wrap64 ((wrap64 ((IntKind.u64.wrap (wrap64 (x20_2 + x21_2))) / 2)) + 1)) x21_2 (wrap64 ((wrap64 ((wrap64 ((IntKind.u64.wrap (wrap64 (a1 + a3))) / 2)) + a2)) - 1))))) else (none)) else (none)) else (none)) else (none)) = some r:=by first | (rw [hji63] at H;exact H) | (simp only [hji63] at H ⊢;exact H)
        have hji63w : (IntKind.i64.wrap ((wrap64 ((wrap64 ((wrap64 ((IntKind.u64.wrap (wrap64 (a1 + a3))) / 2)) + a2)) - 1)) - (wrap64 ((IntKind.u64.wrap (wrap64 (x20_2 + x21_2))) / 2)))) = ji63:=(i64_w _).trans hji63;by_cases c64 : 0 ≤ (ji63)
        ·rw [if_pos c64] at H;have c64b0:=decide_eq_true c64;clear c64;by_cases c65 : (ji63) < (l0.length : Int)
         ·rw [if_pos c65] at H;have c65b0:=decide_eq_true c65;clear c65;obtain ⟨ji66,hji66⟩ : ∃ j_ : Int,(wrap64 ((IntKind.u64.wrap (wrap64 (x20_2 + x21_2))) / 2)) = j_:=⟨_,rfl⟩;replace H : (if 0 ≤ (ji66) then (if (ji66) < (l0.length : Int) then ((yAT.f ((rd_T25 l0 (ji63)).f0) ((rd_T25 l0 (ji63)).f1) ((rd_T25 l0 (ji63)).f2) ((rd_T25 l0 (ji66)).f0) ((rd_T25 l0 (ji66)).f1) ((rd_T25 l0 (ji66)).f2)).bind fun t117=>(if t117 < 0 then (yAA.l4 k2 l0 a1 a2 a3 (wrap64 ((IntKind.u64.wrap (wrap64 (a1 + a3))) / 2)) (wrap64 ((wrap64 ((IntKind.u64.wrap (wrap64 (a1 + a3))) / 2)) + a2)) x20_2 ji66 (wrap64 ((wrap64 ((wrap64 ((IntKind.u64.wrap (wrap64 (a1 + a3))) / 2)) + a2)) - 1))) else (yAA.l4 k2 l0 a1 a2 a3 (wrap64 ((IntKind.u64.wrap (wrap64 (a1 + a3))) / 2)) (wrap64 ((wrap64 ((IntKind.u64.wrap (wrap64 (a1 + a3))) / 2)) + a2)) (wrap64 ((ji66) + 1)) x21_2 (wrap64 ((wrap64 ((wrap64 ((IntKind.u64.wrap (wrap64 (a1 + a3))) / 2)) + a2)) - 1))))) else (none)) else (none)) = some r:=by first | (rw [hji66] at H;exact H) | (simp only [hji66] at H ⊢;exact H)
          have hji66w : (IntKind.i64.wrap ((IntKind.u64.wrap (wrap64 (x20_2 + x21_2))) / 2)) = ji66:=(i64_w _).trans hji66;have hji63_ji66:=hji63;rw [hji66] at hji63_ji66;have hji63w_ji66:=hji63w;rw [hji66] at hji63w_ji66;by_cases c67 : 0 ≤ (ji66)
          ·rw [if_pos c67] at H;have c67b0:=decide_eq_true c67;clear c67;by_cases c68 : (ji66) < (l0.length : Int)
           ·rw [if_pos c68] at H;have c68b0:=decide_eq_true c68;clear c68;replace H:=Option.bind_eq_some_iff.mp H;obtain ⟨t117,A690,H⟩:=H;(try dsimp only at H);have A69:=Aside0.mk A690;clear A690;by_cases c70 : t117 < 0
            ·as_aux_lemma =>
             rw [if_pos c70] at H;have c70b0:=decide_eq_true c70;clear c70;have H' := Aside0.mk H;clear H;try go_wp2
             replace HO_0:=Aside0.mk (Kd.R_drew HO_0.out);replace HK:=Aside0.mk (Kept.drew HK.out);replace HB:=Aside0.mk (below_drew1 HB.out);obtain ⟨Ao72,co72,eo72⟩:=Kd.R_slice HO_0.out
             (first | subst eo72 | (injection eo72 with f1_ f2_ f3_;have f4_:=f1_.symm;have f5_:=f3_.symm;clear f1_ f2_ f3_;subst f4_;subst f5_))
             have p115 : 0 ≤ ((ji63) : Int):=of_decide_eq_true (q4_);have q115 : (ji63) < (l0.length : Int):=of_decide_eq_true (q4_);obtain ⟨ad115,e115,hx115_0,hx115_1,hx115_2⟩:=at_T25 (Kd.R_reads' HO_0.out).2.2 (ji63) p115 q115;cases e115;replace p115:=eq_true p115;replace q115:=eq_true q115;have p116 : 0 ≤ ((ji66) : Int):=of_decide_eq_true (q4_);have q116 : (ji66) < (l0.length : Int):=of_decide_eq_true (q4_);obtain ⟨ad116,e116,hx116_0,hx116_1,hx116_2⟩:=at_T25 (Kd.R_reads' HO_0.out).2.2 (ji66) p116 q116;obtain rfl : ad115 = ad116:=(by injection e116);replace p116:=eq_true p116;replace q116:=eq_true q116;refine start_ (n:=14) (S:=fun w' => w'.cell? (ad115.add (((ji63)).toNat * 3)) = some (.int .i64 ((rd_T25 l0 (ji63)).f0)) ∧ w'.cell? ⟨(ad115.add (((ji63)).toNat * 3)).block,(ad115.add (((ji63)).toNat * 3)).off + 1,none⟩ = some (.int .i64 ((rd_T25 l0 (ji63)).f1)) ∧ w'.cell? ⟨(ad115.add (((ji63)).toNat * 3)).block,(ad115.add (((ji63)).toNat * 3)).off + 2,none⟩ = some (.string ((rd_T25 l0 (ji63)).f2)) ∧ w'.cell? (ad115.add (((ji66)).toNat * 3)) = some (.int .i64 ((rd_T25 l0 (ji66)).f0)) ∧ w'.cell? ⟨(ad115.add (((ji66)).toNat * 3)).block,(ad115.add (((ji66)).toNat * 3)).off + 1,none⟩ = some (.int .i64 ((rd_T25 l0 (ji66)).f1)) ∧ w'.cell? ⟨(ad115.add (((ji66)).toNat * 3)).block,(ad115.add (((ji66)).toNat * 3)).off + 2,none⟩ = some (.string ((rd_T25 l0 (ji66)).f2))) (ds:=[]) f65_ (by kernel_rfl) rfl rfl ⟨hx115_0,hx115_1,hx115_2,hx116_0,hx116_1,hx116_2⟩ (fun hHeld=>?_);refine with_tabW yAA.tab35 yAA.bits35 (fun HT_ HW_=>?_);generalize wr.drew = w71 at HO_0 HK HB hx115_0 hx115_1 hx115_2 hx116_0 hx116_1 hx116_2 hHeld ⊢;refine pure_ (i:=0) (N:=some 158) (v:=?_) (a' := ?_) f66_ rfl rfl (any_of HT_.out (by kernel_rfl)) (fun _ _ _ h=>h) (Or.inl ⟨by rfl,?_⟩) ?_ ?_;rotate_left
             ·intro w';go_simp;with_reducible rfl
             rotate_left
             ·exact q53_
             refine pa_ 1 159 f67_ ?_
             refine pa_ 2 160 f68_ ?_
             refine pa_ 3 161 f69_ ?_
             refine pa_ 4 162 f70_ ?_
             refine pa_ 5 163 f71_ ?_
             refine pa_ 7 165 f72_ ?_
             refine pa_ 8 166 f73_ ?_
             refine pa_ 9 167 f74_ ?_
             refine take_ (i:=6) (N:=some 164) (v:=?_) (a' := ?_) f75_ rfl rfl (take_ofW HT_.out HW_.out (by kernel_rfl)) (fun _ _ _ h=>h) (Or.inl ⟨by rfl,?_⟩) hHeld ?_ ?_;rotate_left
             ·rintro w' ⟨s0,s1,s2,s3,s4,s5⟩;go_simp;with_reducible rfl
             rotate_left
             ·exact q53_
             refine take_ (i:=10) (N:=some 168) (v:=?_) (a' := ?_) f76_ rfl rfl (take_ofW HT_.out HW_.out (by kernel_rfl)) (fun _ _ _ h=>h) (Or.inl ⟨by rfl,?_⟩) hHeld ?_ ?_;rotate_left
             ·rintro w' ⟨s0,s1,s2,s3,s4,s5⟩;go_simp;with_reducible rfl
             rotate_left
             ·exact q53_
             refine one_ (i:=11) (N:=some 169) f77_ rfl rfl (one_of HT_.out (by kernel_rfl)) (by decide) (fun K hK=>?_);refine MFun.goesV_ Tryz.func64 (by kernel_rfl) rfl #[.agg #[.int .i64 ((rd_T25 l0 (ji63)).f0),.int .i64 ((rd_T25 l0 (ji63)).f1),.string ((rd_T25 l0 (ji63)).f2)],.agg #[.int .i64 ((rd_T25 l0 (ji66)).f0),.int .i64 ((rd_T25 l0 (ji66)).f1),.string ((rd_T25 l0 (ji66)).f2)]] (by rfl) rfl rfl rfl (by (try simp only [List.map_toArray,List.map_cons,List.map_nil]);first | done | (simp only [hji63,hji66];rfl) | rfl | (simp only [List.length_drop,List.length_take];rfl)) ?_
             with_reducible refine (yAT.calls ((rd_T25 l0 (ji63)).f0) ((rd_T25 l0 (ji63)).f1) ((rd_T25 l0 (ji63)).f2) ((rd_T25 l0 (ji66)).f0) ((rd_T25 l0 (ji66)).f1) ((rd_T25 l0 (ji66)).f2) t117 _ A69.out).mono ?_
             rintro e w73 ⟨rfl,hb⟩;have HS0_:=(hb.cell (World.block_lt_of_cell? _ _ (hHeld.1))).trans (hHeld.1);have HS1_:=(hb.cell (World.block_lt_of_cell? _ _ (hHeld.2.1))).trans (hHeld.2.1);have HS2_:=(hb.cell (World.block_lt_of_cell? _ _ (hHeld.2.2.1))).trans (hHeld.2.2.1);have HS3_:=(hb.cell (World.block_lt_of_cell? _ _ (hHeld.2.2.2.1))).trans (hHeld.2.2.2.1);have HS4_:=(hb.cell (World.block_lt_of_cell? _ _ (hHeld.2.2.2.2.1))).trans (hHeld.2.2.2.2.1);have HS5_:=(hb.cell (World.block_lt_of_cell? _ _ (hHeld.2.2.2.2.2))).trans (hHeld.2.2.2.2.2);refine ⟨_,rfl,?_⟩;replace HO_0:=rB_ HO_0 hb;replace HK:=Aside0.mk (Kept.below (S:=(fun k_=>P0_ k_)) (q19_) hb);replace HB:=bS_ HB hb
             (try clear hb)
             (try clear hk)
             refine hK.out _ _ ⟨HS0_,HS1_,HS2_,HS3_,HS4_,HS5_⟩ (fun hHeld=>?_);clear hK K;refine norm_ (a' := ?_) ?_ ?_;rotate_left
             ·show Act.put _ (some 169) _ = _;simp only [Act.put,List.setIfInBounds_toArray,List.set_cons_zero,List.set_cons_succ,i64_w,i32_w];rfl
             refine pa_ 12 170 f78_ ?_
             refine pa_ 13 171 f79_ ?_
             refine done_ (done_of HT_.out (by kernel_rfl)) ?_;try go_wp2
             go_roundg k2
             case measure=>have:=HJ59.out;have:=HK2.out;omega
             case rel=>exact ⟨(x20_2),(ji66),(q3_),(by first | rfl | (simp;done) | (simp only [← hji66] <;> (first | rfl | simp)) | (simp [*];done)),H', ⟨by have:=HJ59.out;have:=HK2.out;omega⟩,⟨q9_⟩,⟨q19_⟩,⟨q20_⟩⟩
            ·as_aux_lemma =>
             rw [if_neg c70] at H;have c70b0:=decide_eq_false c70;clear c70;have H' := Aside0.mk H;clear H;try go_wp2
             replace HO_0:=Aside0.mk (Kd.R_drew HO_0.out);replace HK:=Aside0.mk (Kept.drew HK.out);replace HB:=Aside0.mk (below_drew1 HB.out);obtain ⟨Ao75,co75,eo75⟩:=Kd.R_slice HO_0.out
             (first | subst eo75 | (injection eo75 with f1_ f2_ f3_;have f4_:=f1_.symm;have f5_:=f3_.symm;clear f1_ f2_ f3_;subst f4_;subst f5_))
             have p115 : 0 ≤ ((ji63) : Int):=of_decide_eq_true (q4_);have q115 : (ji63) < (l0.length : Int):=of_decide_eq_true (q4_);obtain ⟨ad115,e115,hx115_0,hx115_1,hx115_2⟩:=at_T25 (Kd.R_reads' HO_0.out).2.2 (ji63) p115 q115;cases e115;replace p115:=eq_true p115;replace q115:=eq_true q115;have p116 : 0 ≤ ((ji66) : Int):=of_decide_eq_true (q4_);have q116 : (ji66) < (l0.length : Int):=of_decide_eq_true (q4_);obtain ⟨ad116,e116,hx116_0,hx116_1,hx116_2⟩:=at_T25 (Kd.R_reads' HO_0.out).2.2 (ji66) p116 q116;obtain rfl : ad115 = ad116:=(by injection e116);replace p116:=eq_true p116;replace q116:=eq_true q116;refine start_ (n:=14) (S:=fun w' => w'.cell? (ad115.add (((ji63)).toNat * 3)) = some (.int .i64 ((rd_T25 l0 (ji63)).f0)) ∧ w'.cell? ⟨(ad115.add (((ji63)).toNat * 3)).block,(ad115.add (((ji63)).toNat * 3)).off + 1,none⟩ = some (.int .i64 ((rd_T25 l0 (ji63)).f1)) ∧ w'.cell? ⟨(ad115.add (((ji63)).toNat * 3)).block,(ad115.add (((ji63)).toNat * 3)).off + 2,none⟩ = some (.string ((rd_T25 l0 (ji63)).f2)) ∧ w'.cell? (ad115.add (((ji66)).toNat * 3)) = some (.int .i64 ((rd_T25 l0 (ji66)).f0)) ∧ w'.cell? ⟨(ad115.add (((ji66)).toNat * 3)).block,(ad115.add (((ji66)).toNat * 3)).off + 1,none⟩ = some (.int .i64 ((rd_T25 l0 (ji66)).f1)) ∧ w'.cell? ⟨(ad115.add (((ji66)).toNat * 3)).block,(ad115.add (((ji66)).toNat * 3)).off + 2,none⟩ = some (.string ((rd_T25 l0 (ji66)).f2))) (ds:=[]) f65_ (by kernel_rfl) rfl rfl ⟨hx115_0,hx115_1,hx115_2,hx116_0,hx116_1,hx116_2⟩ (fun hHeld=>?_);refine with_tabW yAA.tab35 yAA.bits35 (fun HT_ HW_=>?_);generalize wr.drew = w74 at HO_0 HK HB hx115_0 hx115_1 hx115_2 hx116_0 hx116_1 hx116_2 hHeld ⊢;refine pure_ (i:=0) (N:=some 158) (v:=?_) (a' := ?_) f66_ rfl rfl (any_of HT_.out (by kernel_rfl)) (fun _ _ _ h=>h) (Or.inl ⟨by rfl,?_⟩) ?_ ?_;rotate_left
             ·intro w';go_simp;with_reducible rfl
             rotate_left
             ·exact q53_
             refine pa_ 1 159 f67_ ?_
             refine pa_ 2 160 f68_ ?_
             refine pa_ 3 161 f69_ ?_
             refine pa_ 4 162 f70_ ?_
             refine pa_ 5 163 f71_ ?_
             refine pa_ 7 165 f72_ ?_
             refine pa_ 8 166 f73_ ?_
             refine pa_ 9 167 f74_ ?_
             refine take_ (i:=6) (N:=some 164) (v:=?_) (a' := ?_) f75_ rfl rfl (take_ofW HT_.out HW_.out (by kernel_rfl)) (fun _ _ _ h=>h) (Or.inl ⟨by rfl,?_⟩) hHeld ?_ ?_;rotate_left
             ·rintro w' ⟨s0,s1,s2,s3,s4,s5⟩;go_simp;with_reducible rfl
             rotate_left
             ·exact q53_
             refine take_ (i:=10) (N:=some 168) (v:=?_) (a' := ?_) f76_ rfl rfl (take_ofW HT_.out HW_.out (by kernel_rfl)) (fun _ _ _ h=>h) (Or.inl ⟨by rfl,?_⟩) hHeld ?_ ?_;rotate_left
             ·rintro w' ⟨s0,s1,s2,s3,s4,s5⟩;go_simp;with_reducible rfl
             rotate_left
             ·exact q53_
             refine one_ (i:=11) (N:=some 169) f77_ rfl rfl (one_of HT_.out (by kernel_rfl)) (by decide) (fun K hK=>?_);refine MFun.goesV_ Tryz.func64 (by kernel_rfl) rfl #[.agg #[.int .i64 ((rd_T25 l0 (ji63)).f0),.int .i64 ((rd_T25 l0 (ji63)).f1),.string ((rd_T25 l0 (ji63)).f2)],.agg #[.int .i64 ((rd_T25 l0 (ji66)).f0),.int .i64 ((rd_T25 l0 (ji66)).f1),.string ((rd_T25 l0 (ji66)).f2)]] (by rfl) rfl rfl rfl (by (try simp only [List.map_toArray,List.map_cons,List.map_nil]);first | done | (simp only [hji63,hji66];rfl) | rfl | (simp only [List.length_drop,List.length_take];rfl)) ?_
             with_reducible refine (yAT.calls ((rd_T25 l0 (ji63)).f0) ((rd_T25 l0 (ji63)).f1) ((rd_T25 l0 (ji63)).f2) ((rd_T25 l0 (ji66)).f0) ((rd_T25 l0 (ji66)).f1) ((rd_T25 l0 (ji66)).f2) t117 _ A69.out).mono ?_
             rintro e w76 ⟨rfl,hb⟩;have HS0_:=(hb.cell (World.block_lt_of_cell? _ _ (hHeld.1))).trans (hHeld.1);have HS1_:=(hb.cell (World.block_lt_of_cell? _ _ (hHeld.2.1))).trans (hHeld.2.1);have HS2_:=(hb.cell (World.block_lt_of_cell? _ _ (hHeld.2.2.1))).trans (hHeld.2.2.1);have HS3_:=(hb.cell (World.block_lt_of_cell? _ _ (hHeld.2.2.2.1))).trans (hHeld.2.2.2.1);have HS4_:=(hb.cell (World.block_lt_of_cell? _ _ (hHeld.2.2.2.2.1))).trans (hHeld.2.2.2.2.1);have HS5_:=(hb.cell (World.block_lt_of_cell? _ _ (hHeld.2.2.2.2.2))).trans (hHeld.2.2.2.2.2);refine ⟨_,rfl,?_⟩;replace HO_0:=rB_ HO_0 hb;replace HK:=Aside0.mk (Kept.below (S:=(fun k_=>P0_ k_)) (q19_) hb);replace HB:=bS_ HB hb
             (try clear hb)
             (try clear hk)
             refine hK.out _ _ ⟨HS0_,HS1_,HS2_,HS3_,HS4_,HS5_⟩ (fun hHeld=>?_);clear hK K;refine norm_ (a' := ?_) ?_ ?_;rotate_left
             ·show Act.put _ (some 169) _ = _;simp only [Act.put,List.setIfInBounds_toArray,List.set_cons_zero,List.set_cons_succ,i64_w,i32_w];rfl
             refine pa_ 12 170 f78_ ?_
             refine pa_ 13 171 f79_ ?_
             refine done_ (done_of HT_.out (by kernel_rfl)) ?_;try go_wp2
             go_roundg k2
             case measure=>have:=HJ59.out;have:=HK2.out;omega
             case rel=>exact ⟨(wrap64 ((ji66) + 1)),(x21_2),(by first | rfl | (simp;done) | (simp only [← hji66] <;> (first | rfl | simp)) | (simp [*];done)),(q3_),H', ⟨by have:=HJ59.out;have:=HK2.out;omega⟩,⟨q9_⟩,⟨q19_⟩,⟨q20_⟩⟩
           ·rw [if_neg c68] at H;exact absurd H (q1_)
          ·rw [if_neg c67] at H;exact absurd H (q1_)
         ·rw [if_neg c65] at H;exact absurd H (q1_)
        ·rw [if_neg c64] at H;exact absurd H (q1_)
       ·as_aux_lemma =>
        rw [if_neg c62] at H;have c62b0:=decide_eq_false c62;clear c62;have HC77:=Aside0.mk H;clear H;go_upto_region 39 with (fail)
        go_cut [185] (fun v185 wc=>∃ (kq : Nat) (x185_76 : Bool),v185 = .bool x185_76 ∧ Aside0 (yAA.j6 kq l0 a1 a2 a3 (wrap64 ((IntKind.u64.wrap (wrap64 (a1 + a3))) / 2)) x20_2 (wrap64 ((wrap64 ((wrap64 ((IntKind.u64.wrap (wrap64 (a1 + a3))) / 2)) + a2)) - x20_2)) x185_76 = some r) ∧ Aside0 (kq ≤ k2) ∧ Aside0 (Kd.R k25 25 wc w0.heap.size (fun k_=>(P0_ k_ ∨ w.heap.size ≤ k_)) u9000_ l0) ∧ Aside0 (Kept w wc (fun k_=>P0_ k_)) ∧ Aside0 (Below w0.heap.size w0 wc))
        case first =>
         have H:=HC77.out;clear HC77;by_cases c78 : x20_2 < a2
         ·rw [if_pos c78] at H;have c78b0:=decide_eq_true c78;clear c78
          (first | rw [c78b0] | (simp only [i64_w,i32_w];rw [c78b0]) | skip)
          have H' := Aside0.mk H;clear H;go_wp2;go_meet
          case rel=>exact ⟨_,(decide (a2 < (wrap64 ((wrap64 ((wrap64 ((IntKind.u64.wrap (wrap64 (a1 + a3))) / 2)) + a2)) - x20_2)))),(q3_),H', ⟨by have:=HJ59.out;have:=HK2.out;first | omega | exact Nat.le_refl _⟩,⟨q9_⟩,⟨q19_⟩,⟨q20_⟩⟩
         ·rw [if_neg c78] at H;have c78b0:=decide_eq_false c78;clear c78
          (first | rw [c78b0] | (simp only [i64_w,i32_w];rw [c78b0]) | skip)
          have H' := Aside0.mk H;clear H;go_wp2;go_meet
          case rel=>exact ⟨_,(false),(q3_),H', ⟨by have:=HJ59.out;have:=HK2.out;first | omega | exact Nat.le_refl _⟩,⟨q9_⟩,⟨q19_⟩,⟨q20_⟩⟩
        case rest =>
         as_aux_lemma =>
         clear HC77;try clear c6
         try clear c6b0
         try clear c6b1
         try clear c33
         try clear c33b0
         try clear c33b1
         try clear c62
         try clear c62b0
         obtain ⟨kq,x185_76,rfl,HA,HJ76,HO_0,HK,HB⟩:=hcut;cases kq with
         | zero=>exact absurd HA.out (by simp [yAA.j6])
         | succ kj76 =>
          have H:=HA.out;clear HA;simp only [yAA.j6] at H;have HC79:=Aside0.mk H;clear H;go_upto_if 185 with (fail)
          go_cut [] (fun wc=>∃ (kq : Nat) (x0_78 : List (S25)),Aside0 (yAA.j7 kq x0_78 a1 a3 (wrap64 ((IntKind.u64.wrap (wrap64 (a1 + a3))) / 2)) x20_2 (wrap64 ((wrap64 ((wrap64 ((IntKind.u64.wrap (wrap64 (a1 + a3))) / 2)) + a2)) - x20_2)) = some r) ∧ Aside0 (kq ≤ kj76) ∧ Aside0 (Kd.R k25 25 wc w0.heap.size (fun k_=>(P0_ k_ ∨ w.heap.size ≤ k_)) u9000_ x0_78) ∧ Aside0 (Kept w wc (fun k_=>P0_ k_)) ∧ Aside0 (Below w0.heap.size w0 wc))
          case first =>
           have H:=HC79.out;clear HC79;by_cases c80 : x185_76 = true
           ·subst c80;rw [if_pos rfl] at H;replace H:=Option.bind_eq_some_iff.mp H;obtain ⟨t118,A810,H⟩:=H;(try dsimp only at H);have A81:=Aside0.mk A810;clear A810;have H' := Aside0.mk H;clear H;obtain ⟨Ao82,co82,eo82⟩:=Kd.R_slice HO_0.out;subst eo82;go_wp2_with (first | ((with_reducible refine gate_callee (f:=101) rfl ?_);refine goesL_ (some 191) rfl rfl Tryz.func101 (by kernel_rfl) rfl #[.slice Ao82 l0.length co82,.int .i64 x20_2,.int .i64 a2,.int .i64 (wrap64 ((wrap64 ((wrap64 ((IntKind.u64.wrap (wrap64 (a1 + a3))) / 2)) + a2)) - x20_2)),.func (.func 64) #[] #[]] rfl (q21_) ?_;(with_reducible refine (yAO.calls kj76 (fun k_=>some k_ = (.slice Ao82 l0.length co82 : Value).ownBlock) (.slice Ao82 l0.length co82) l0 x20_2 a2 (wrap64 ((wrap64 ((wrap64 ((IntKind.u64.wrap (wrap64 (a1 + a3))) / 2)) + a2)) - x20_2))  t118 w0 _ ?side1 ?side2 A81.out).mono ?_);(case side1=>exact (q20_));(case side2=>exact Kd.R_tight rfl HO_0.out);rintro e w83 ⟨rfl,hy0,hb,hkp⟩;refine ⟨_,rfl,?_⟩;replace HK:=Aside0.mk (Kept.then_ (S:=(fun k_=>P0_ k_)) (q19_) hkp (fun k_ hs_=>(fun e_=>(HO_0.out.1 k_ e_.symm)) hs_));replace HO_0:=Aside0.mk (Kd.R_reok rfl hy0 (fun k_ e_=>HO_0.out.1 k_ e_));replace HB:=Aside0.mk (hb);(try clear hb);(try clear hkp);(try clear hy0)))
            go_meet
            case rel=>exact ⟨_,(t118),H', ⟨by have:=HJ59.out;have:=HK2.out;have:=HJ76.out;first | omega | exact Nat.le_refl _⟩,⟨q9_⟩,⟨q19_⟩,⟨q20_⟩⟩
           ·replace c80:=Bool.eq_false_iff.mpr c80;subst c80;rw [if_neg (show ¬ (false = true) by decide)] at H;have H' := Aside0.mk H;clear H;go_wp2;go_meet
            case rel=>exact ⟨_,(l0),H', ⟨by have:=HJ59.out;have:=HK2.out;have:=HJ76.out;first | omega | exact Nat.le_refl _⟩,⟨q9_⟩,⟨q19_⟩,⟨q20_⟩⟩
          case rest =>
           clear HC79;try clear c6
           try clear c6b0
           try clear c6b1
           try clear c33
           try clear c33b0
           try clear c33b1
           try clear c62
           try clear c62b0
           obtain ⟨kq,x0_78,HA,HJ78,HO_0,HK,HB⟩:=hcut;cases kq with
           | zero=>exact absurd HA.out (by simp [yAA.j7])
           | succ kj78 =>
            have H:=HA.out;clear HA;simp only [yAA.j7] at H;have HC84:=Aside0.mk H;clear H;go_upto_region 41 with (fail)
            go_cut [199] (fun v199 wc=>∃ (kq : Nat) (x199_83 : Bool),v199 = .bool x199_83 ∧ Aside0 (yAA.j8 kq x0_78 a1 a3 (wrap64 ((IntKind.u64.wrap (wrap64 (a1 + a3))) / 2)) x20_2 (wrap64 ((wrap64 ((wrap64 ((IntKind.u64.wrap (wrap64 (a1 + a3))) / 2)) + a2)) - x20_2)) x199_83 = some r) ∧ Aside0 (kq ≤ kj78) ∧ Aside0 (Kd.R k25 25 wc w0.heap.size (fun k_=>(P0_ k_ ∨ w.heap.size ≤ k_)) u9000_ x0_78) ∧ Aside0 (Kept w wc (fun k_=>P0_ k_)) ∧ Aside0 (Below w0.heap.size w0 wc))
            case first =>
             have H:=HC84.out;clear HC84;by_cases c85 : a1 < x20_2
             ·rw [if_pos c85] at H;have c85b0:=decide_eq_true c85;clear c85
              (first | rw [c85b0] | (simp only [i64_w,i32_w];rw [c85b0]) | skip)
              have H' := Aside0.mk H;clear H;go_wp2;go_meet
              case rel=>exact ⟨_,(decide (x20_2 < (wrap64 ((IntKind.u64.wrap (wrap64 (a1 + a3))) / 2)))),(q3_),H', ⟨by have:=HJ59.out;have:=HK2.out;have:=HJ76.out;have:=HJ78.out;first | omega | exact Nat.le_refl _⟩,⟨q9_⟩,⟨q19_⟩,⟨q20_⟩⟩
             ·rw [if_neg c85] at H;have c85b0:=decide_eq_false c85;clear c85
              (first | rw [c85b0] | (simp only [i64_w,i32_w];rw [c85b0]) | skip)
              have H' := Aside0.mk H;clear H;go_wp2;go_meet
              case rel=>exact ⟨_,(false),(q3_),H', ⟨by have:=HJ59.out;have:=HK2.out;have:=HJ76.out;have:=HJ78.out;first | omega | exact Nat.le_refl _⟩,⟨q9_⟩,⟨q19_⟩,⟨q20_⟩⟩
            case rest =>
             as_aux_lemma =>
             clear HC84;try clear c6
             try clear c6b0
             try clear c6b1
             try clear c33
             try clear c33b0
             try clear c33b1
             try clear c62
             try clear c62b0
             obtain ⟨kq,x199_83,rfl,HA,HJ83,HO_0,HK,HB⟩:=hcut;cases kq with
             | zero=>exact absurd HA.out (by simp [yAA.j8])
             | succ kj83 =>
              have H:=HA.out;clear HA;simp only [yAA.j8] at H;by_cases c86 : x199_83 = true
              ·subst c86;rw [if_pos rfl] at H;replace H:=Option.bind_eq_some_iff.mp H;obtain ⟨t119,A870,H⟩:=H;(try dsimp only at H);have A87:=Aside0.mk A870;clear A870;by_cases c88 : (wrap64 ((IntKind.u64.wrap (wrap64 (a1 + a3))) / 2)) < (wrap64 ((wrap64 ((wrap64 ((IntKind.u64.wrap (wrap64 (a1 + a3))) / 2)) + a2)) - x20_2))
               ·rw [if_pos c88] at H;have c88b0:=decide_eq_true c88;clear c88;by_cases c89 : (wrap64 ((wrap64 ((wrap64 ((IntKind.u64.wrap (wrap64 (a1 + a3))) / 2)) + a2)) - x20_2)) < a3
                ·rw [if_pos c89] at H;have c89b0:=decide_eq_true c89;clear c89;replace H:=Option.bind_eq_some_iff.mp H;obtain ⟨t120,A900,H⟩:=H;(try dsimp only at H);have A90:=Aside0.mk A900;clear A900;obtain rfl:=Option.some.inj H;obtain ⟨Ao91,co91,eo91⟩:=Kd.R_slice HO_0.out;subst eo91;go_wp2_with (first | ((with_reducible refine gate_callee (f:=89) rfl ?_);refine goesL_ (some 205) rfl rfl Tryz.func89 (by kernel_rfl) rfl #[.slice Ao91 x0_78.length co91,.int .i64 a1,.int .i64 x20_2,.int .i64 (wrap64 ((IntKind.u64.wrap (wrap64 (a1 + a3))) / 2)),.func (.func 64) #[] #[]] rfl (q21_) ?_;(with_reducible refine (ih kj83 (by have:=HJ59.out;have:=HK2.out;have:=HJ76.out;have:=HJ78.out;have:=HJ83.out;omega) (fun k_=>some k_ = (.slice Ao91 x0_78.length co91 : Value).ownBlock) (.slice Ao91 x0_78.length co91) x0_78 a1 x20_2 (wrap64 ((IntKind.u64.wrap (wrap64 (a1 + a3))) / 2))  t119 w0 _ ?side1 ?side2 A87.out).mono ?_);(case side1=>exact (q20_));(case side2=>exact Kd.R_tight rfl HO_0.out);rintro e w92 ⟨rfl,hy0,hb,hkp⟩;refine ⟨_,rfl,?_⟩;replace HK:=Aside0.mk (Kept.then_ (S:=(fun k_=>P0_ k_)) (q19_) hkp (fun k_ hs_=>(fun e_=>(HO_0.out.1 k_ e_.symm)) hs_));replace HO_0:=Aside0.mk (Kd.R_reok rfl hy0 (fun k_ e_=>HO_0.out.1 k_ e_));replace HB:=Aside0.mk (hb);(try clear hb);(try clear hkp);(try clear hy0)) | ((with_reducible refine gate_callee (f:=89) rfl ?_);refine goesL_ (some 219) rfl rfl Tryz.func89 (by kernel_rfl) rfl #[.slice Ao91 x0_78.length co91,.int .i64 (wrap64 ((IntKind.u64.wrap (wrap64 (a1 + a3))) / 2)),.int .i64 (wrap64 ((wrap64 ((wrap64 ((IntKind.u64.wrap (wrap64 (a1 + a3))) / 2)) + a2)) - x20_2)),.int .i64 a3,.func (.func 64) #[] #[]] rfl (q21_) ?_;(with_reducible refine (ih kj83 (by have:=HJ59.out;have:=HK2.out;have:=HJ76.out;have:=HJ78.out;have:=HJ83.out;omega) (fun k_=>some k_ = (.slice Ao91 x0_78.length co91 : Value).ownBlock) (.slice Ao91 x0_78.length co91) t119 (wrap64 ((IntKind.u64.wrap (wrap64 (a1 + a3))) / 2)) (wrap64 ((wrap64 ((wrap64 ((IntKind.u64.wrap (wrap64 (a1 + a3))) / 2)) + a2)) - x20_2)) a3  t120 w0 _ ?side1 ?side2 A90.out).mono ?_);(case side1=>exact (q20_));(case side2=>exact Kd.R_tight rfl HO_0.out);rintro e w93 ⟨rfl,hy0,hb,hkp⟩;refine ⟨_,rfl,?_⟩;replace HK:=Aside0.mk (Kept.then_ (S:=(fun k_=>P0_ k_)) (q19_) hkp (fun k_ hs_=>(fun e_=>(HO_0.out.1 k_ e_.symm)) hs_));replace HO_0:=Aside0.mk (Kd.R_reok rfl hy0 (fun k_ e_=>HO_0.out.1 k_ e_));replace HB:=Aside0.mk (hb);(try clear hb);(try clear hkp);(try clear hy0)))
                 first | go_end0 | ((try simp only [Exit.inBlock,Exit.then]);refine bodyPost_ret (results_none rfl _ _ _) rfl ?_)
                 exact ⟨q6_,q9_,q20_,q19_⟩
                ·rw [if_neg c89] at H;have c89b0:=decide_eq_false c89;clear c89;obtain rfl:=Option.some.inj H;obtain ⟨Ao94,co94,eo94⟩:=Kd.R_slice HO_0.out;subst eo94;go_wp2_with (first | ((with_reducible refine gate_callee (f:=89) rfl ?_);refine goesL_ (some 205) rfl rfl Tryz.func89 (by kernel_rfl) rfl #[.slice Ao94 x0_78.length co94,.int .i64 a1,.int .i64 x20_2,.int .i64 (wrap64 ((IntKind.u64.wrap (wrap64 (a1 + a3))) / 2)),.func (.func 64) #[] #[]] rfl (q21_) ?_;(with_reducible refine (ih kj83 (by have:=HJ59.out;have:=HK2.out;have:=HJ76.out;have:=HJ78.out;have:=HJ83.out;omega) (fun k_=>some k_ = (.slice Ao94 x0_78.length co94 : Value).ownBlock) (.slice Ao94 x0_78.length co94) x0_78 a1 x20_2 (wrap64 ((IntKind.u64.wrap (wrap64 (a1 + a3))) / 2))  t119 w0 _ ?side1 ?side2 A87.out).mono ?_);(case side1=>exact (q20_));(case side2=>exact Kd.R_tight rfl HO_0.out);rintro e w95 ⟨rfl,hy0,hb,hkp⟩;refine ⟨_,rfl,?_⟩;replace HK:=Aside0.mk (Kept.then_ (S:=(fun k_=>P0_ k_)) (q19_) hkp (fun k_ hs_=>(fun e_=>(HO_0.out.1 k_ e_.symm)) hs_));replace HO_0:=Aside0.mk (Kd.R_reok rfl hy0 (fun k_ e_=>HO_0.out.1 k_ e_));replace HB:=Aside0.mk (hb);(try clear hb);(try clear hkp);(try clear hy0)))
                 first | go_end0 | ((try simp only [Exit.inBlock,Exit.then]);refine bodyPost_ret (results_none rfl _ _ _) rfl ?_)
                 exact ⟨q6_,q9_,q20_,q19_⟩
               ·rw [if_neg c88] at H;have c88b0:=decide_eq_false c88;clear c88;obtain rfl:=Option.some.inj H;obtain ⟨Ao96,co96,eo96⟩:=Kd.R_slice HO_0.out;subst eo96;go_wp2_with (first | ((with_reducible refine gate_callee (f:=89) rfl ?_);refine goesL_ (some 205) rfl rfl Tryz.func89 (by kernel_rfl) rfl #[.slice Ao96 x0_78.length co96,.int .i64 a1,.int .i64 x20_2,.int .i64 (wrap64 ((IntKind.u64.wrap (wrap64 (a1 + a3))) / 2)),.func (.func 64) #[] #[]] rfl (q21_) ?_;(with_reducible refine (ih kj83 (by have:=HJ59.out;have:=HK2.out;have:=HJ76.out;have:=HJ78.out;have:=HJ83.out;omega) (fun k_=>some k_ = (.slice Ao96 x0_78.length co96 : Value).ownBlock) (.slice Ao96 x0_78.length co96) x0_78 a1 x20_2 (wrap64 ((IntKind.u64.wrap (wrap64 (a1 + a3))) / 2))  t119 w0 _ ?side1 ?side2 A87.out).mono ?_);(case side1=>exact (q20_));(case side2=>exact Kd.R_tight rfl HO_0.out);rintro e w97 ⟨rfl,hy0,hb,hkp⟩;refine ⟨_,rfl,?_⟩;replace HK:=Aside0.mk (Kept.then_ (S:=(fun k_=>P0_ k_)) (q19_) hkp (fun k_ hs_=>(fun e_=>(HO_0.out.1 k_ e_.symm)) hs_));replace HO_0:=Aside0.mk (Kd.R_reok rfl hy0 (fun k_ e_=>HO_0.out.1 k_ e_));replace HB:=Aside0.mk (hb);(try clear hb);(try clear hkp);(try clear hy0)))
                first | go_end0 | ((try simp only [Exit.inBlock,Exit.then]);refine bodyPost_ret (results_none rfl _ _ _) rfl ?_)
                exact ⟨q6_,q9_,q20_,q19_⟩
              ·replace c86:=Bool.eq_false_iff.mpr c86;subst c86;rw [if_neg (show ¬ (false = true) by decide)] at H;by_cases c98 : (wrap64 ((IntKind.u64.wrap (wrap64 (a1 + a3))) / 2)) < (wrap64 ((wrap64 ((wrap64 ((IntKind.u64.wrap (wrap64 (a1 + a3))) / 2)) + a2)) - x20_2))
               ·rw [if_pos c98] at H;have c98b0:=decide_eq_true c98;clear c98;by_cases c99 : (wrap64 ((wrap64 ((wrap64 ((IntKind.u64.wrap (wrap64 (a1 + a3))) / 2)) + a2)) - x20_2)) < a3
                ·rw [if_pos c99] at H;have c99b0:=decide_eq_true c99;clear c99;replace H:=Option.bind_eq_some_iff.mp H;obtain ⟨t121,A1000,H⟩:=H;(try dsimp only at H);have A100:=Aside0.mk A1000;clear A1000;obtain rfl:=Option.some.inj H;obtain ⟨Ao101,co101,eo101⟩:=Kd.R_slice HO_0.out;subst eo101;go_wp2_with (first | ((with_reducible refine gate_callee (f:=89) rfl ?_);refine goesL_ (some 219) rfl rfl Tryz.func89 (by kernel_rfl) rfl #[.slice Ao101 x0_78.length co101,.int .i64 (wrap64 ((IntKind.u64.wrap (wrap64 (a1 + a3))) / 2)),.int .i64 (wrap64 ((wrap64 ((wrap64 ((IntKind.u64.wrap (wrap64 (a1 + a3))) / 2)) + a2)) - x20_2)),.int .i64 a3,.func (.func 64) #[] #[]] rfl (q21_) ?_;(with_reducible refine (ih kj83 (by have:=HJ59.out;have:=HK2.out;have:=HJ76.out;have:=HJ78.out;have:=HJ83.out;omega) (fun k_=>some k_ = (.slice Ao101 x0_78.length co101 : Value).ownBlock) (.slice Ao101 x0_78.length co101) x0_78 (wrap64 ((IntKind.u64.wrap (wrap64 (a1 + a3))) / 2)) (wrap64 ((wrap64 ((wrap64 ((IntKind.u64.wrap (wrap64 (a1 + a3))) / 2)) + a2)) - x20_2)) a3  t121 w0 _ ?side1 ?side2 A100.out).mono ?_);(case side1=>exact (q20_));(case side2=>exact Kd.R_tight rfl HO_0.out);rintro e w102 ⟨rfl,hy0,hb,hkp⟩;refine ⟨_,rfl,?_⟩;replace HK:=Aside0.mk (Kept.then_ (S:=(fun k_=>P0_ k_)) (q19_) hkp (fun k_ hs_=>(fun e_=>(HO_0.out.1 k_ e_.symm)) hs_));replace HO_0:=Aside0.mk (Kd.R_reok rfl hy0 (fun k_ e_=>HO_0.out.1 k_ e_));replace HB:=Aside0.mk (hb);(try clear hb);(try clear hkp);(try clear hy0)))
                 first | go_end0 | ((try simp only [Exit.inBlock,Exit.then]);refine bodyPost_ret (results_none rfl _ _ _) rfl ?_)
                 exact ⟨q6_,q9_,q20_,q19_⟩
                ·rw [if_neg c99] at H;have c99b0:=decide_eq_false c99;clear c99;obtain rfl:=Option.some.inj H;go_wp2;first | go_end0 | ((try simp only [Exit.inBlock,Exit.then]);refine bodyPost_ret (results_none rfl _ _ _) rfl ?_)
                 exact ⟨q6_,q9_,q20_,q19_⟩
               ·rw [if_neg c98] at H;have c98b0:=decide_eq_false c98;clear c98;obtain rfl:=Option.some.inj H;go_wp2;first | go_end0 | ((try simp only [Exit.inBlock,Exit.then]);refine bodyPost_ret (results_none rfl _ _ _) rfl ?_)
                exact ⟨q6_,q9_,q20_,q19_⟩
end Go.Proofs.YtglcpghappepaaaGreatDoor.G
