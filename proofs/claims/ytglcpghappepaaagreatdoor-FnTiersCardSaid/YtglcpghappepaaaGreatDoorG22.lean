-- Written by this session's own program over the kit's print (wip/tools/myprint.py); Lean checks it.
import Derived.Test.YtglcpghappepaaaGreatDoorMBase
import Derived.Test.YtglcpghappepaaaGreatDoorG0
import Derived.Test.YtglcpghappepaaaGreatDoorG3
import Derived.Test.YtglcpghappepaaaGreatDoorG18
import Derived.Test.YtglcpghappepaaaGreatDoorG21
namespace Go.Proofs.YtglcpghappepaaaGreatDoor.G
open Go.RowKit Go.Proofs.YtglcpghappepaaaGreatDoorW.PrintWords Go.Proofs.YtglcpghappepaaaGreatDoorW.PrintLast Go.Proofs.YtglcpghappepaaaGreatDoorW.PrintMore
attribute [local go_sem] max2_int min2_int max_two min_two max_three min_three max_four min_four str_geq str_gtr str_leq   -- for this text's walks alone
set_option linter.unusedVariables false
set_option linter.unusedSimpArgs false
/-! ### yAK: function 19 -/
mutual
def yAK.l0 : Nat → ByteArray → List (S25) → List ByteArray → Int → Int → Option ((List (S25)) × Bool)
 | 0,_,_,_,_,_=>none
 | k + 1,x0,x5,x19,x20,x21=>if x21 < x20 then (if 0 ≤ x21 then (if x21 < (x19.length : Int) then ((yAb.f k (rdOf ByteArray.empty x19 x21) 32).bind fun t109=>(if 0 < (t109.length : Int) then ((yAb.f k (rdOf ByteArray.empty t109 0) 45).bind fun t113=>(if (t109.length : Int) = 2 then (yAK.j1 k x0 x5 t109 t113 x19 x20 x21 ((t113.length : Int) != 2)) else (yAK.j1 k x0 x5 t109 t113 x19 x20 x21 true))) else (none))) else (none)) else (none)) else ((yAJ.f k x5).bind fun t124=>(if t124 = true then ((yAX.f k x5).bind fun t125=>(if t125.toList = x0.toList then (some (x5,true)) else (some (([] : List (S25)),false)))) else (some (([] : List (S25)),false))))
def yAK.j1 : Nat → ByteArray → List (S25) → List ByteArray → List ByteArray → List ByteArray → Int → Int → Bool → Option ((List (S25)) × Bool)
 | 0,_,_,_,_,_,_,_,_=>none
 | k + 1,x0,x5,x8,x9,x19,x20,x21,x38=>if x38 = true then (some (([] : List (S25)),false)) else (if 0 < (x9.length : Int) then ((yAR.f k (rdOf ByteArray.empty x9 0)).bind fun t117=>(if 1 < (x9.length : Int) then ((yAR.f k (rdOf ByteArray.empty x9 1)).bind fun t119=>(if 1 < (x8.length : Int) then (if x5.length < 4398046511104 then (yAK.l0 k x0 (x5 ++ [(⟨t117,t119,rdOf ByteArray.empty x8 1⟩ : S25)]) x19 x20 (wrap64 (x21 + 1))) else (none)) else (none))) else (none))) else (none))
end
def yAK.f (k : Nat) (a0 : ByteArray) : Option ((List (S25)) × Bool):=(yAb.f k a0 59).bind fun t101=>(if (t101.length : Int) > 41 then (some (([] : List (S25)),false)) else (if 0 ≤ (wrap64 ((t101.length : Int) - 1)) then (if (wrap64 ((t101.length : Int) - 1)) ≤ (t101.length : Int) then ((some (t101.take ((wrap64 ((t101.length : Int) - 1)) : Int).toNat : List ByteArray)).bind fun y104=>(yAK.l0 k a0 ([] : List (S25)) y104 (y104.length : Int) 0)) else (none)) else (none)))
def yAK.T12 : Bool × List (List Nat × List Nat):=(true,[([],[]),([],[]),([1],[1]),([2],[2]),([3],[3]),([],[]),([5],[5]),([6],[6]),([7,4],[7]),([],[]),([9],[9]),([10],[10]),([4,8,11],[4,8,11]),([12],[12]),([0,13,8],[0,13]),([14,14,0,1,2,3,4,5,6,7,8,9,10,11,12,13,14],[0,14])])
def yAK.B12 : List Nat:=[0,0,2,6,14,0,32,96,254,0,512,1536,4094,8190,16383,32767]
theorem yAK.tab12 : rtab .any (opsOf Tryz.f19 12) = yAK.T12:=by kernel_rfl
theorem yAK.bits12 : waitsOk yAK.T12.2 yAK.B12 = true:=by kernel_rfl
theorem later_ {α : Type} {d : Kd α} {e : Nat} {w w9 W : World} {ok : Nat → Prop} {xs : List α} {E : Value → Prop} (hb : Below w.heap.size w w9) (h : ∃ v,E v ∧ Kd.R d e W w9.heap.size ok v xs ∧ Below w9.heap.size w9 W) : ∃ v,E v ∧ Kd.R d e W w.heap.size ok v xs ∧ Below w.heap.size w W:=by
 obtain ⟨v,h1,h2,h3⟩:=h;exact ⟨v,h1,Kd.R_lower h2 hb.size,below_step hb h3⟩
set_option maxHeartbeats 8000000 in
set_option maxRecDepth 100000 in
theorem yAK.calls (k : Nat) (a0 : ByteArray) (r1 : List (S25)) (r2 : Bool) (w : World) (h : yAK.f k a0 = some (r1,r2)) :
  Calls Tryz.prog 19 #[.string a0] w fun e w' => ∃ v0_ : Value,e = .returned (.tuple #[v0_,.bool r2]) ∧ Kd.R k25 25 w' w.heap.size (fun _=>True) v0_ r1 ∧ Below w.heap.size w w' := by
 have hu25:=Tryz.underlying25;have HB:=Aside0.mk (Below.refl w.heap.size w);have H : ((yAb.f k a0 59).bind fun t101=>(if (t101.length : Int) > 41 then (some (([] : List (S25)),false)) else (if 0 ≤ (wrap64 ((t101.length : Int) - 1)) then (if (wrap64 ((t101.length : Int) - 1)) ≤ (t101.length : Int) then ((some (t101.take ((wrap64 ((t101.length : Int) - 1)) : Int).toNat : List ByteArray)).bind fun y104=>(yAK.l0 k a0 ([] : List (S25)) y104 (y104.length : Int) 0)) else (none)) else (none)))) = some (r1,r2):=h;clear h;replace H:=Option.bind_eq_some_iff.mp H;obtain ⟨t101,A20,H⟩:=H;(try dsimp only at H);have A2:=Aside0.mk A20;clear A20;by_cases c3 : (t101.length : Int) > 41
 ·rw [if_pos c3] at H;have c3b0 : decide (41 < (t101.length : Int)) = true:=decide_eq_true c3;have c3b1 : decide (41 < t101.length) = true:=decide_eq_true (by omega);clear c3;simp only [Option.some.injEq,Prod.mk.injEq] at H;obtain ⟨rfl,rfl⟩:=H;go_enter Tryz.func19,Tryz.ntmps19
  go_wp2_with (first | ((with_reducible refine gate_callee (f:=51) rfl ?_);refine goesL_ (some 11) rfl rfl Tryz.func51 (by kernel_rfl) rfl #[.string a0,.int .u8 59] rfl (q21_) ?_;(with_reducible refine (yAb.calls k a0 59 t101 _ A2.out).mono ?_);rintro e w4 ⟨v102,rfl,ho0,hb⟩;refine ⟨_,rfl,?_⟩;have HO103:=Aside0.mk (Kd.R_lower ho0 (below_size (q20_)));replace HB:=bS_ HB hb;(try clear hb);(try clear ho0);obtain ⟨Ao5,co5,eo5⟩:=Kd.R_slice HO103.out;subst eo5))
  go_ret2
  exact ⟨_,q6_,q22_,q20_⟩
 ·rw [if_neg c3] at H;have c3b0 : decide (41 < (t101.length : Int)) = false:=decide_eq_false c3;have c3b1 : decide (41 < t101.length) = false:=decide_eq_false (by omega);clear c3;obtain ⟨ji6,hji6⟩ : ∃ j_ : Int,(wrap64 ((t101.length : Int) - 1)) = j_:=⟨_,rfl⟩;replace H : (if 0 ≤ (ji6) then (if (ji6) ≤ (t101.length : Int) then ((some (t101.take ((ji6) : Int).toNat : List ByteArray)).bind fun y104=>(yAK.l0 k a0 ([] : List (S25)) y104 (y104.length : Int) 0)) else (none)) else (none)) = some (r1,r2):=by first | (rw [hji6] at H;exact H) | (simp only [hji6] at H ⊢;exact H)
  (try rw [hji6] at A2)
  have hji6w : (IntKind.i64.wrap ((t101.length : Int) - 1)) = ji6:=(i64_w _).trans hji6;by_cases c7 : 0 ≤ (ji6)
  ·rw [if_pos c7] at H;have c7b0:=eq_true c7;have c7b1:=decide_eq_true c7;clear c7;by_cases c8 : (ji6) ≤ (t101.length : Int)
   ·rw [if_pos c8] at H;have c8b0:=eq_true c8;have c8b1:=decide_eq_true c8;clear c8;obtain ⟨y104,hy104⟩ : ∃ y_ : List ByteArray,y_ = (t101.take ((ji6) : Int).toNat):=⟨_,rfl⟩;replace H : (yAK.l0 k a0 ([] : List (S25)) y104 (y104.length : Int) 0) = some (r1,r2):=by first | (rw [hy104];with_reducible exact H) | (have H2_:=(Option.bind_some _ _).symm.trans H;rw [hy104];with_reducible exact H2_) | (have H2_:=(Option.bind_some _ _).symm.trans H;with_reducible exact H2_) | with_reducible exact H | (rw [hy104];exact H) | exact H
    have Ny104:=Aside0.mk hy104;clear hy104;have H' := Aside0.mk H;clear H;go_enter Tryz.func19,Tryz.ntmps19
    go_wp2_with (first | ((with_reducible refine gate_callee (f:=51) rfl ?_);refine goesL_ (some 11) rfl rfl Tryz.func51 (by kernel_rfl) rfl #[.string a0,.int .u8 59] rfl (q21_) ?_;(with_reducible refine (yAb.calls k a0 59 t101 _ A2.out).mono ?_);rintro e w9 ⟨v102,rfl,ho0,hb⟩;refine ⟨_,rfl,?_⟩;have HO103:=Aside0.mk (Kd.R_lower ho0 (below_size (q20_)));replace HB:=bS_ HB hb;(try clear hb);(try clear ho0);obtain ⟨Ao10,co10,eo10⟩:=Kd.R_slice HO103.out;subst eo10;have q11 : ((ji6) : Int) ≤ ((t101.length : Int) : Int):=of_decide_eq_true (q4_);obtain ⟨i011,hi011,_,hsz11,_⟩:=info_parts info9;have hroom11 : t101.length ≤ co10:=(Kd.R_reads' HO103.out).2.1;have hC11 : Kd.C Kd.string _ Ao10 t101.length t101:=(Kd.R_reads' HO103.out).2.2;have hcut11:=cut_to (P:=Tryz.prog) 67 9 .i64 Tryz.underlying67 hi011 Ao10 t101.length co10 (ji6) (of_decide_eq_true (q4_)) q11 hroom11;have hr11:=Kd.C_take (m:=((ji6) : Int).toNat) hC11 (by omega);have hy11 : y104.length = ((ji6) : Int).toNat:=(by rw [Ny104.out,List.length_take];omega);rw [← Ny104.out] at hr11;rw [← hy11] at hcut11;have HR107:=Aside0.mk hr11;have HC107:=Aside0.mk (show y104.length ≤ co10 from by omega);clear hr11 hC11 hroom11 hi011 hsz11;have KY11:=Aside0.mk hy11;clear hy11;have KL11:=Aside0.mk (show ((ji6) : Int).toNat ≤ t101.length from by omega);replace q11:=eq_true q11))
    have HB0:=HB;clear HB;have HB:=Aside0.mk (Below.refl w9.heap.size w9);go_loopg [5,21] k (fun kq v5 v21 w' => ∃ (x5_1 : List (S25)) (x21_1 : Int),v21 = .int .i64 x21_1 ∧ Aside0 (yAK.l0 kq a0 x5_1 y104 (y104.length : Int) x21_1 = some (r1,r2)) ∧ Aside0 (kq ≤ k) ∧ Aside0 (Kd.R k25 25 w' w9.heap.size (fun _=>True) v5 x5_1) ∧ Aside0 (Below w9.heap.size w9 w'))
    case atStart=>exact ⟨(([] : List (S25))),(0),(q3_),H', ⟨Nat.le_refl _⟩,⟨q22_⟩,⟨q20_⟩⟩
    case round =>
     clear H';try clear c3
     try clear c3b0
     try clear c3b1
     try clear c7
     try clear c7b0
     try clear c7b1
     try clear c8
     try clear c8b0
     try clear c8b1
     try clear q11
     try clear q11
     obtain ⟨x5_1,x21_1,rfl,HA,HK1,HO_5,HB⟩:=hrel;cases gk with
     | zero=>exact absurd HA.out (by simp [yAK.l0])
     | succ k1 =>
      have H:=HA.out;clear HA;simp only [yAK.l0] at H;by_cases c12 : x21_1 < (y104.length : Int)
      ·rw [if_pos c12] at H;have c12b0:=decide_eq_true c12;clear c12;by_cases c13 : 0 ≤ x21_1
       ·rw [if_pos c13] at H;have c13b0:=decide_eq_true c13;clear c13;by_cases c14 : x21_1 < (y104.length : Int)
        ·rw [if_pos c14] at H;have c14b0:=decide_eq_true c14;clear c14;replace H:=Option.bind_eq_some_iff.mp H;obtain ⟨t109,A150,H⟩:=H;(try dsimp only at H);have A15:=Aside0.mk A150;clear A150;by_cases c16 : 0 < (t109.length : Int)
         ·rw [if_pos c16] at H;have c16b0:=decide_eq_true c16;have c16b1 : decide (0 < t109.length) = true:=decide_eq_true (by omega);clear c16;replace H:=Option.bind_eq_some_iff.mp H;obtain ⟨t113,A170,H⟩:=H;(try dsimp only at H);have A17:=Aside0.mk A170;clear A170;have HC18:=Aside0.mk H;clear H;have p108 : 0 ≤ (x21_1 : Int):=of_decide_eq_true (q4_);have q108 : x21_1 < (y104.length : Int):=of_decide_eq_true (q4_);obtain ⟨ad108,e108,hx108_0⟩:=Kd.at_string HR107.out x21_1 p108 q108;cases e108;replace hx108_0:=(HB.out.cell (World.block_lt_of_cell? w9 _ hx108_0)).trans hx108_0;replace p108:=eq_true p108;replace q108:=eq_true q108;go_upto_region 10 with (first | ((with_reducible refine gate_callee (f:=51) rfl ?_);refine goesL_ (some 26) rfl rfl Tryz.func51 (by kernel_rfl) rfl #[.string (rdOf ByteArray.empty y104 x21_1),.int .u8 32] rfl (q21_) ?_;(with_reducible refine (yAb.calls k1 (rdOf ByteArray.empty y104 x21_1) 32 t109 _ A15.out).mono ?_);rintro e w19 ⟨v110,rfl,ho0,hb⟩;refine ⟨_,rfl,?_⟩;replace HO_5:=rB_ HO_5 hb;have HO111:=Aside0.mk (Kd.R_lower ho0 (below_size (q20_)));replace HB:=bS_ HB hb;(try clear hb);(try clear ho0);obtain ⟨Ao20,co20,eo20⟩:=Kd.R_slice HO111.out;subst eo20;have p112 : 0 ≤ (0 : Int):=(by omega);have q112 : 0 < (t109.length : Int):=of_decide_eq_true (q4_);obtain ⟨ad112,e112,hx112_0⟩:=Kd.at_string (Kd.R_reads' HO111.out).2.2 0 p112 q112;cases e112;have qi112 : (0 < t109.length) = True:=eq_true (by omega);(try rw [show ((0 : Int)).toNat = 0 from rfl] at hx112_0);(try rw [Addr.add_zero'] at hx112_0);replace p112:=eq_true p112;replace q112:=eq_true q112) | ((with_reducible refine gate_callee (f:=51) rfl ?_);refine goesL_ (some 30) rfl rfl Tryz.func51 (by kernel_rfl) rfl #[.string (rdOf ByteArray.empty t109 0),.int .u8 45] rfl (q21_) ?_;(with_reducible refine (yAb.calls k1 (rdOf ByteArray.empty t109 0) 45 t113 _ A17.out).mono ?_);rintro e w21 ⟨v114,rfl,ho0,hb⟩;refine ⟨_,rfl,?_⟩;replace HO_5:=rB_ HO_5 hb;have HO115:=Aside0.mk (Kd.R_lower (Kd.R_new' ho0 (Kd.R_lt (by (with_reducible repeat (first | apply Kd.R_alloc | apply Kd.R_drewN | apply Kd.R_drew));exact HO111.out))) (below_size (q20_)));replace HO111:=rE_ HO111 ho0 hb;replace HB:=bS_ HB hb;(try clear hb);(try clear ho0)))
          (try simp only [Act.put,List.setIfInBounds_toArray,List.set_cons_zero,List.set_cons_succ])
          go_cut [38] (fun v38 wc=>∃ (kq : Nat) (x38_17 : Bool),v38 = .bool x38_17 ∧ Aside0 (yAK.j1 kq a0 x5_1 t109 t113 y104 (y104.length : Int) x21_1 x38_17 = some (r1,r2)) ∧ Aside0 (kq ≤ k1) ∧ Aside0 (Kd.R k25 25 wc w9.heap.size (fun _=>True) u5 x5_1) ∧ Aside0 (Kd.R Kd.string 9 wc w9.heap.size (fun k_=>some k_ ≠ (v114 : Value).ownBlock) (.slice (some ad112) t109.length co20) t109) ∧ Aside0 (Kd.R Kd.string 9 wc w9.heap.size (fun k_=>some k_ ≠ ((.slice (some ad112) t109.length co20) : Value).ownBlock) v114 t113) ∧ Aside0 (Below w9.heap.size w9 wc))
          case first =>
           have H:=HC18.out;clear HC18;by_cases c22 : (t109.length : Int) = 2
           ·rw [if_pos c22] at H;have c22b0 : ((t109.length : Int) == 2) = true:=beq_iff_eq.mpr c22;have c22b1 : ((t109.length : Int) != 2) = false:=bne_eq_false_iff_eq.mpr c22;clear c22
            (first | rw [c22b0] | (simp only [i64_w,i32_w];rw [c22b0]) | skip)
            have H' := Aside0.mk H;clear H;obtain ⟨Ao23,co23,eo23⟩:=Kd.R_slice HO115.out;subst eo23;go_wp2;go_meet
            case rel=>exact ⟨_,(((t113.length : Int) != 2)),(q3_),H', ⟨by have:=HK1.out;first | omega | exact Nat.le_refl _⟩,⟨q8_⟩,⟨by (with_reducible repeat (first | apply Kd.R_alloc | apply Kd.R_drewN | apply Kd.R_drew));exact Kd.R_mono HO111.out (fun _ hk=>hk.2)⟩,⟨by (with_reducible repeat (first | apply Kd.R_alloc | apply Kd.R_drewN | apply Kd.R_drew));exact Kd.R_mono HO115.out (fun _ hk=>hk.2)⟩,⟨q20_⟩⟩
           ·rw [if_neg c22] at H;have c22b0 : ((t109.length : Int) == 2) = false:=beq_eq_false_iff_ne.mpr c22;have c22b1 : ((t109.length : Int) != 2) = true:=bne_iff_ne.mpr c22
            (first | rw [c22b0] | (simp only [i64_w,i32_w];rw [c22b0]) | skip)
            have H' := Aside0.mk H;clear H;go_wp2;go_meet
            case rel=>exact ⟨_,(true),(q3_),H', ⟨by have:=HK1.out;first | omega | exact Nat.le_refl _⟩,⟨q8_⟩,⟨by (with_reducible repeat (first | apply Kd.R_alloc | apply Kd.R_drewN | apply Kd.R_drew));exact Kd.R_mono HO111.out (fun _ hk=>hk.2)⟩,⟨by (with_reducible repeat (first | apply Kd.R_alloc | apply Kd.R_drewN | apply Kd.R_drew));exact Kd.R_mono HO115.out (fun _ hk=>hk.2)⟩,⟨q20_⟩⟩
          case rest =>
           clear HC18;try clear c3
           try clear c3b0
           try clear c3b1
           try clear c7
           try clear c7b0
           try clear c7b1
           try clear c8
           try clear c8b0
           try clear c8b1
           try clear q11
           try clear c12
           try clear c12b0
           try clear c13
           try clear c13b0
           try clear c14
           try clear c14b0
           try clear c16
           try clear c16b0
           try clear c16b1
           try clear hx108_0
           try clear hx112_0
           try clear p108
           try clear p112
           try clear q108
           try clear q11
           try clear q112
           obtain ⟨kq,x38_17,rfl,HA,HJ17,HO_5,HO_8,HO_9,HB⟩:=hcut;cases kq with
           | zero=>exact absurd HA.out (by simp [yAK.j1])
           | succ kj17 =>
            have H:=HA.out;clear HA;simp only [yAK.j1] at H;by_cases c24 : x38_17 = true
            ·subst c24;rw [if_pos rfl] at H;simp only [Option.some.injEq,Prod.mk.injEq] at H;obtain ⟨rfl,rfl⟩:=H;go_wp2;go_ret2
             refine later_ HB0.out ?_;exact ⟨_,by first | rfl | (simp [errW_none,errW_some] <;> rfl) | (simp only [← hji6];first | rfl | (simp [errW_none,errW_some] <;> rfl)) | (simp [*,errW_none,errW_some] <;> rfl),q22_,q20_⟩
            ·replace c24:=Bool.eq_false_iff.mpr c24;subst c24;rw [if_neg (show ¬ (false = true) by decide)] at H;by_cases c25 : 0 < (t113.length : Int)
             ·rw [if_pos c25] at H;have c25b0:=decide_eq_true c25;have c25b1 : decide (0 < t113.length) = true:=decide_eq_true (by omega);clear c25;replace H:=Option.bind_eq_some_iff.mp H;obtain ⟨t117,A260,H⟩:=H;(try dsimp only at H);have A26:=Aside0.mk A260;clear A260;by_cases c27 : 1 < (t113.length : Int)
              ·rw [if_pos c27] at H;have c27b0:=decide_eq_true c27;have c27b1 : decide (1 < t113.length) = true:=decide_eq_true (by omega);clear c27;replace H:=Option.bind_eq_some_iff.mp H;obtain ⟨t119,A280,H⟩:=H;(try dsimp only at H);have A28:=Aside0.mk A280;clear A280;by_cases c29 : 1 < (t109.length : Int)
               ·rw [if_pos c29] at H;have c29b0:=decide_eq_true c29;have c29b1 : decide (1 < t109.length) = true:=decide_eq_true (by omega);clear c29;by_cases c30 : x5_1.length < 4398046511104
                ·rw [if_pos c30] at H;have LMc30:=Aside0.mk c30;clear c30;obtain ⟨y121,hy121⟩ : ∃ y_ : List (S25),y_ = (x5_1 ++ [(⟨t117,t119,rdOf ByteArray.empty t109 1⟩ : S25)]):=⟨_,rfl⟩;replace H : (yAK.l0 kj17 a0 y121 y104 (y104.length : Int) (wrap64 (x21_1 + 1))) = some (r1,r2):=by first | (rw [hy121];with_reducible exact H) | (have H2_:=(Option.bind_some _ _).symm.trans H;rw [hy121];with_reducible exact H2_) | (have H2_:=(Option.bind_some _ _).symm.trans H;with_reducible exact H2_) | with_reducible exact H | (rw [hy121];exact H) | exact H
                 have Ny121:=Aside0.mk hy121;clear hy121;have H' := Aside0.mk H;clear H;try go_wp2
                 replace HO_5:=Aside0.mk (Kd.R_drew HO_5.out);replace HO_8:=Aside0.mk (Kd.R_drew HO_8.out);replace HO_9:=Aside0.mk (Kd.R_drew HO_9.out);replace HB:=Aside0.mk (below_drew1 HB.out);obtain ⟨Ao32,co32,eo32⟩:=Kd.R_slice HO_9.out
                 (first | subst eo32 | (injection eo32 with f1_ f2_ f3_;have f4_:=f1_.symm;have f5_:=f3_.symm;clear f1_ f2_ f3_;subst f4_;subst f5_))
                 have p116 : 0 ≤ (0 : Int):=(by omega);have q116 : 0 < (t113.length : Int):=of_decide_eq_true (q4_);obtain ⟨ad116,e116,hx116_0⟩:=Kd.at_string (Kd.R_reads' HO_9.out).2.2 0 p116 q116;cases e116;have qi116 : (0 < t113.length) = True:=eq_true (by omega)
                 (try rw [show ((0 : Int)).toNat = 0 from rfl] at hx116_0)
                 (try rw [Addr.add_zero'] at hx116_0)
                 replace p116:=eq_true p116;replace q116:=eq_true q116;have p118 : 0 ≤ (1 : Int):=(by omega);have q118 : 1 < (t113.length : Int):=of_decide_eq_true (q4_);obtain ⟨ad118,e118,hx118_0⟩:=Kd.at_string (Kd.R_reads' HO_9.out).2.2 1 p118 q118;obtain rfl : ad116 = ad118:=(by injection e118)
                 (try simp only [show (1 : Int).toNat = 1 from rfl,Nat.reduceMul,Nat.reduceEqDiff,Go.Addr.add,↓reduceIte] at hx118_0)
                 have qi118 : (1 < t113.length) = True:=eq_true (by omega)
                 (try rw [show ((1 : Int)).toNat = 1 from rfl] at hx118_0)
                 replace p118:=eq_true p118;replace q118:=eq_true q118;have p120 : 0 ≤ (1 : Int):=(by omega);have q120 : 1 < (t109.length : Int):=of_decide_eq_true (q4_);obtain ⟨ad120,e120,hx120_0⟩:=Kd.at_string (Kd.R_reads' HO_8.out).2.2 1 p120 q120;obtain rfl : ad112 = ad120:=(by injection e120)
                 (try simp only [show (1 : Int).toNat = 1 from rfl,Nat.reduceMul,Nat.reduceEqDiff,Go.Addr.add,↓reduceIte] at hx120_0)
                 have qi120 : (1 < t109.length) = True:=eq_true (by omega)
                 (try rw [show ((1 : Int)).toNat = 1 from rfl] at hx120_0)
                 replace p120:=eq_true p120;replace q120:=eq_true q120;refine start_ (n:=16) (S:=fun w' => w'.cell? ad116 = some (.string (rdOf ByteArray.empty t113 0)) ∧ w'.cell? ⟨ad116.block,ad116.off + 1,none⟩ = some (.string (rdOf ByteArray.empty t113 1)) ∧ w'.cell? ⟨ad112.block,ad112.off + 1,none⟩ = some (.string (rdOf ByteArray.empty t109 1))) (ds:=[13,14]) f0_ (by kernel_rfl) rfl rfl ⟨hx116_0,hx118_0,hx120_0⟩ (fun hHeld=>?_);refine with_tabW yAK.tab12 yAK.bits12 (fun HT_ HW_=>?_);generalize wc.drew = w31 at HO_5 HO_8 HO_9 HB hx116_0 hx118_0 hx120_0 hHeld ⊢;refine pure_ (i:=0) (N:=some 39) (v:=?_) (a' := ?_) f1_ rfl rfl (any_of HT_.out (by kernel_rfl)) (fun _ _ _ h=>h) (Or.inl ⟨by rfl,?_⟩) ?_ ?_;rotate_left
                 ·intro w';go_simp;with_reducible rfl
                 rotate_left
                 ·exact q53_
                 refine pa_ 1 40 f2_ ?_
                 refine pa_ 2 41 f3_ ?_
                 refine pa_ 5 44 f4_ ?_
                 refine pa_ 6 45 f5_ ?_
                 refine pa_ 9 48 f6_ ?_
                 refine pa_ 10 49 f7_ ?_
                 refine take_ (i:=3) (N:=some 42) (v:=?_) (a' := ?_) f8_ rfl rfl (take_ofW HT_.out HW_.out (by kernel_rfl)) (fun _ _ _ h=>h) (Or.inl ⟨by rfl,?_⟩) hHeld ?_ ?_;rotate_left
                 ·rintro w' ⟨s0,s1,s2⟩;go_simp;with_reducible rfl
                 rotate_left
                 ·exact q53_
                 refine take_ (i:=7) (N:=some 46) (v:=?_) (a' := ?_) f9_ rfl rfl (take_ofW HT_.out HW_.out (by kernel_rfl)) (fun _ _ _ h=>h) (Or.inl ⟨by rfl,?_⟩) hHeld ?_ ?_;rotate_left
                 ·rintro w' ⟨s0,s1,s2⟩;go_simp;with_reducible rfl
                 rotate_left
                 ·exact q53_
                 refine take_ (i:=11) (N:=some 50) (v:=?_) (a' := ?_) f10_ rfl rfl (take_ofW HT_.out HW_.out (by kernel_rfl)) (fun _ _ _ h=>h) (Or.inl ⟨by rfl,?_⟩) hHeld ?_ ?_;rotate_left
                 ·rintro w' ⟨s0,s1,s2⟩;go_simp;with_reducible rfl
                 rotate_left
                 ·exact q53_
                 refine one_ (i:=4) (N:=some 43) f11_ rfl rfl (one_of HT_.out (by kernel_rfl)) (by decide) (fun K hK=>?_);refine goes_ Tryz.func52 (by kernel_rfl) rfl #[.string (rdOf ByteArray.empty t113 0)] (by rfl) rfl rfl (q21_) ?_
                 with_reducible refine (yAR.calls kj17 (rdOf ByteArray.empty t113 0) t117 _ A26.out).mono ?_
                 rintro e w' ⟨rfl,⟨nd,rfl⟩⟩;refine ⟨_,rfl,?_⟩;refine hK.out _ _ ⟨hHeld.1,hHeld.2.1,hHeld.2.2⟩ (fun hHeld=>?_);clear hK K;refine norm_ (a' := ?_) ?_ ?_;rotate_left
                 ·show Act.put _ (some 43) _ = _;simp only [Act.put,List.setIfInBounds_toArray,List.set_cons_zero,List.set_cons_succ,i64_w,i32_w];rfl
                 refine one_ (i:=8) (N:=some 47) f12_ rfl rfl (one_of HT_.out (by kernel_rfl)) (by decide) (fun K hK=>?_);refine goes_ Tryz.func52 (by kernel_rfl) rfl #[.string (rdOf ByteArray.empty t113 1)] (by rfl) rfl rfl (q21_) ?_
                 with_reducible refine (yAR.calls kj17 (rdOf ByteArray.empty t113 1) t119 _ A28.out).mono ?_
                 rintro e w' ⟨rfl,⟨nd,rfl⟩⟩;refine ⟨_,rfl,?_⟩;refine hK.out _ _ ⟨hHeld.1,hHeld.2.1,hHeld.2.2⟩ (fun hHeld=>?_);clear hK K;refine norm_ (a' := ?_) ?_ ?_;rotate_left
                 ·show Act.put _ (some 47) _ = _;simp only [Act.put,List.setIfInBounds_toArray,List.set_cons_zero,List.set_cons_succ,i64_w,i32_w];rfl
                 refine pa_ 12 51 f13_ ?_
                 refine last_ (i:=13) (N:=some 52) f14_ rfl rfl (one_of HT_.out (by kernel_rfl)) (by decide) (fun K hK=>?_);refine value_ (w1:=?_) (v:=?_) (by rfl) rfl ?_ ?_;rotate_left 2
                 ·go_simp
                  constructor
                  ·rfl
                  ·rfl
                 refine hK.out _ _ ?_;clear hK K;refine norm_ (a' := ?_) ?_ ?_;rotate_left
                 ·show Act.put _ (some 52) _ = _;simp only [Act.put,List.setIfInBounds_toArray,List.set_cons_zero,List.set_cons_succ,i64_w,i32_w];rfl
                 refine last_ (i:=14) (N:=some 53) f15_ rfl rfl (one_of HT_.out (by kernel_rfl)) (by decide) (fun K hK=>?_);refine Kd.R_append_step k25 (w0:=w9) w9.heap.size (by rfl) (.tmp 39) (.tmp 52) 23 25 (.agg #[(.int .i64 0),(.int .i64 0),(.string ⟨#[]⟩)]) 32 rfl Tryz.underlying23 info25 rfl (by decide) (by omega) u5 x5_1 (⟨t117,t119,rdOf ByteArray.empty t109 1⟩ : S25) [.int .i64 t117,.int .i64 t119,.string (rdOf ByteArray.empty t109 1)] (fun _=>True) (fun _=>False) rfl rfl ?aP (fun _ hk=>hk.elim) ?aF ?aO ?aB ?aS ?aL ?_
                 (case aP=>exact k25_mkM _ _ _ (⟨t117,t119,rdOf ByteArray.empty t109 1⟩ : S25))
                 (case aB=>exact (q20_))
                 (case aF=>exact (fun _ _=>trivial))
                 (case aO=>exact (q8_))
                 (case aS=>exact (below_size (q20_)))
                 (case aL=>have:=LMc30.out;omega)
                 intro v122 w33 ho hb hg hat;rw [← Ny121.out] at ho;replace HO_8:=Aside0.mk (Kd.R_over' (by (with_reducible repeat (first | apply Kd.R_alloc | apply Kd.R_drewN | apply Kd.R_drew));exact HO_8.out) (Kd.R_typed (q8_)) (by decide) hg);replace HO_9:=Aside0.mk (Kd.R_over' (by (with_reducible repeat (first | apply Kd.R_alloc | apply Kd.R_drewN | apply Kd.R_drew));exact HO_9.out) (Kd.R_typed (q8_)) (by decide) hg);replace HB:=Aside0.mk (hb);have HO123:=Aside0.mk (ho);clear HO_5 ho hb hg hat;refine hK.out _ _ ?_;clear hK K;refine norm_ (a' := ?_) ?_ ?_;rotate_left
                 ·show Act.put _ (some 53) _ = _;simp only [Act.put,List.setIfInBounds_toArray,List.set_cons_zero,List.set_cons_succ,i64_w,i32_w];rfl
                 refine pa_ 15 5 f16_ ?_
                 refine done_ (done_of HT_.out (by kernel_rfl)) ?_;try go_wp2
                 go_roundg kj17
                 case measure=>have:=HK1.out;have:=HJ17.out;omega
                 case rel=>exact ⟨(y121),(wrap64 (x21_1 + 1)),(q3_),H', ⟨by have:=HK1.out;have:=HJ17.out;omega⟩,⟨by (with_reducible repeat (first | apply Kd.R_alloc | apply Kd.R_drewN | apply Kd.R_drew));exact HO123.out⟩,⟨q20_⟩⟩
                ·rw [if_neg c30] at H;exact absurd H (q1_)
               ·rw [if_neg c29] at H;exact absurd H (q1_)
              ·rw [if_neg c27] at H;exact absurd H (q1_)
             ·rw [if_neg c25] at H;exact absurd H (q1_)
         ·rw [if_neg c16] at H;exact absurd H (q1_)
        ·rw [if_neg c14] at H;exact absurd H (q1_)
       ·rw [if_neg c13] at H;exact absurd H (q1_)
      ·rw [if_neg c12] at H;have c12b0:=decide_eq_false c12;clear c12;replace H:=Option.bind_eq_some_iff.mp H;obtain ⟨t124,A340,H⟩:=H;(try dsimp only at H);have A34:=Aside0.mk A340;clear A340;by_cases c35 : t124 = true
       ·subst c35;rw [if_pos rfl] at H;replace H:=Option.bind_eq_some_iff.mp H;obtain ⟨t125,A360,H⟩:=H;(try dsimp only at H);have A36:=Aside0.mk A360;clear A360;by_cases c37 : t125.toList = a0.toList
        ·rw [if_pos c37] at H;have c37b0 : (t125.toList == a0.toList) = true:=beq_iff_eq.mpr c37;have c37b1 : (t125.toList != a0.toList) = false:=bne_eq_false_iff_eq.mpr c37;clear c37;simp only [Option.some.injEq,Prod.mk.injEq] at H;obtain ⟨rfl,rfl⟩:=H;obtain ⟨Ao38,co38,eo38⟩:=Kd.R_slice HO_5.out;subst eo38;go_wp2_with (first | ((with_reducible refine gate_callee (f:=28) rfl ?_);refine goesL_ (some 56) rfl rfl Tryz.func28 (by kernel_rfl) rfl #[.slice Ao38 x5_1.length co38] rfl (q21_) ?_;(with_reducible refine (yAJ.calls k1 _ _ x5_1 true _ ?side1 ?side2 A34.out).mono ?_);(case side1=>exact cX_ (Kd.R_reads' HO_5.out).2.2);(case side2=>exact (Kd.R_reads' HO_5.out).2.1);rintro e w39 ⟨rfl,hb⟩;refine ⟨_,rfl,?_⟩;replace HO_5:=rB_ HO_5 hb;replace HB:=bS_ HB hb;(try clear hb)) | (go_at_call 44;(with_reducible refine (yAX.calls k1 _ _ x5_1 t125 _ ?side1 ?side2 A36.out).mono ?_);(case side1=>exact cX_ (Kd.R_reads' HO_5.out).2.2);(case side2=>exact (Kd.R_reads' HO_5.out).2.1);rintro e w40 ⟨rfl,hb⟩;replace HO_5:=rB_ HO_5 hb;replace HB:=bS_ HB hb;(try clear hb)))
         go_ret2
         refine later_ HB0.out ?_;exact ⟨_,by first | rfl | (simp [errW_none,errW_some] <;> rfl) | (simp only [← hji6];first | rfl | (simp [errW_none,errW_some] <;> rfl)) | (simp [*,errW_none,errW_some] <;> rfl),q8_,q20_⟩
        ·rw [if_neg c37] at H;have c37b0 : (t125.toList == a0.toList) = false:=beq_eq_false_iff_ne.mpr c37;have c37b1 : (t125.toList != a0.toList) = true:=bne_iff_ne.mpr c37;simp only [Option.some.injEq,Prod.mk.injEq] at H;obtain ⟨rfl,rfl⟩:=H;obtain ⟨Ao41,co41,eo41⟩:=Kd.R_slice HO_5.out;subst eo41;go_wp2_with (first | ((with_reducible refine gate_callee (f:=28) rfl ?_);refine goesL_ (some 56) rfl rfl Tryz.func28 (by kernel_rfl) rfl #[.slice Ao41 x5_1.length co41] rfl (q21_) ?_;(with_reducible refine (yAJ.calls k1 _ _ x5_1 true _ ?side1 ?side2 A34.out).mono ?_);(case side1=>exact cX_ (Kd.R_reads' HO_5.out).2.2);(case side2=>exact (Kd.R_reads' HO_5.out).2.1);rintro e w42 ⟨rfl,hb⟩;refine ⟨_,rfl,?_⟩;replace HO_5:=rB_ HO_5 hb;replace HB:=bS_ HB hb;(try clear hb)) | (go_at_call 44;(with_reducible refine (yAX.calls k1 _ _ x5_1 t125 _ ?side1 ?side2 A36.out).mono ?_);(case side1=>exact cX_ (Kd.R_reads' HO_5.out).2.2);(case side2=>exact (Kd.R_reads' HO_5.out).2.1);rintro e w43 ⟨rfl,hb⟩;replace HO_5:=rB_ HO_5 hb;replace HB:=bS_ HB hb;(try clear hb)))
         go_ret2
         refine later_ HB0.out ?_;exact ⟨_,by first | rfl | (simp [errW_none,errW_some] <;> rfl) | (simp only [← hji6];first | rfl | (simp [errW_none,errW_some] <;> rfl)) | (simp [*,errW_none,errW_some] <;> rfl),q22_,q20_⟩
       ·replace c35:=Bool.eq_false_iff.mpr c35;subst c35;rw [if_neg (show ¬ (false = true) by decide)] at H;simp only [Option.some.injEq,Prod.mk.injEq] at H;obtain ⟨rfl,rfl⟩:=H;obtain ⟨Ao44,co44,eo44⟩:=Kd.R_slice HO_5.out;subst eo44;go_wp2_with (first | ((with_reducible refine gate_callee (f:=28) rfl ?_);refine goesL_ (some 56) rfl rfl Tryz.func28 (by kernel_rfl) rfl #[.slice Ao44 x5_1.length co44] rfl (q21_) ?_;(with_reducible refine (yAJ.calls k1 _ _ x5_1 false _ ?side1 ?side2 A34.out).mono ?_);(case side1=>exact cX_ (Kd.R_reads' HO_5.out).2.2);(case side2=>exact (Kd.R_reads' HO_5.out).2.1);rintro e w45 ⟨rfl,hb⟩;refine ⟨_,rfl,?_⟩;replace HO_5:=rB_ HO_5 hb;replace HB:=bS_ HB hb;(try clear hb)))
        go_ret2
        refine later_ HB0.out ?_;exact ⟨_,by first | rfl | (simp [errW_none,errW_some] <;> rfl) | (simp only [← hji6];first | rfl | (simp [errW_none,errW_some] <;> rfl)) | (simp [*,errW_none,errW_some] <;> rfl),q22_,q20_⟩
   ·rw [if_neg c8] at H;exact absurd H (q1_)
  ·rw [if_neg c7] at H;exact absurd H (q1_)
end Go.Proofs.YtglcpghappepaaaGreatDoor.G
