-- Written by this session's own program over the kit's print (wip/tools/myprint.py); Lean checks it.
import Derived.Test.YtgapcmmhbegdeaaMBase
import Derived.Test.YtgapcmmhbegdeaaG0
import Derived.Test.YtgapcmmhbegdeaaG61
import Derived.Test.YtgapcmmhbegdeaaG62
namespace Go.Proofs.Ytgapcmmhbegdeaa.G
open Go.RowKit Go.Proofs.YtgapcmmhbegdeaaW.PrintWords Go.Proofs.YtgapcmmhbegdeaaW.PrintLast Go.Proofs.YtgapcmmhbegdeaaW.PrintMore
attribute [local go_sem] max2_int min2_int max_two min_two max_three min_three max_four min_four str_geq str_gtr str_leq   -- for this text's walks alone
set_option linter.unusedVariables false
set_option linter.unusedSimpArgs false
/-! ### impl_ClashesOf: function 53 -/
mutual
def impl_ClashesOf.l0 : Nat → List (S77) → List (List Int) → List (S77) → Int → Int → Option ((List (List Int)) × Bool)
 | 0,_,_,_,_,_=>none
 | k + 1,x0,x4,x11,x12,x13=>if x13 < x12 then (if 0 ≤ x13 then (if x13 < (x11.length : Int) then (impl_ClashesOf.l1 k x0 x4 x13 (wrap64 (x13 + 1)) x11 x12 x13 ((rd_T77 x11 x13).f0) ((rd_T77 x11 x13).f1) ((rd_T77 x11 x13).f2) ((rd_T77 x11 x13).f3)) else (none)) else (none)) else (some (x4,true))
def impl_ClashesOf.l1 : Nat → List (S77) → List (List Int) → Int → Int → List (S77) → Int → Int → ByteArray → Int → Int → Int → Option ((List (List Int)) × Bool)
 | 0,_,_,_,_,_,_,_,_,_,_,_=>none
 | k + 1,x0,x4,x5,x7,x11,x12,x13,x104000,x104001,x104002,x104003=>if x7 < (x0.length : Int) then (if 0 ≤ x7 then ((impl_Person_clashes.f x104000 x104001 x104002 x104003 ((rd_T77 x0 x7).f1) ((rd_T77 x0 x7).f2)).bind fun t106=>(if t106 = true then (if x4.length < 5864062014805 then (impl_ClashesOf.l1 k x0 (x4 ++ [(([x5,x7] : List Int))]) x5 (wrap64 (x7 + 1)) x11 x12 x13 x104000 x104001 x104002 x104003) else (none)) else (impl_ClashesOf.l1 k x0 x4 x5 (wrap64 (x7 + 1)) x11 x12 x13 x104000 x104001 x104002 x104003))) else (none)) else (impl_ClashesOf.l0 k x0 x4 x11 x12 (wrap64 (x13 + 1)))
end
def impl_ClashesOf.f (k : Nat) (l0 : List (S77)) : Option ((List (List Int)) × Bool):=(impl_ArePeople.f k l0).bind fun t101=>(if t101 = true then (impl_ClashesOf.l0 k l0 ([] : List (List Int)) l0 (l0.length : Int) 0) else (some (([] : List (List Int)),false)))
def impl_ClashesOf.T10 : Bool × List (List Nat × List Nat):=(true,[([],[]),([],[]),([],[]),([1,2],[1,2]),([3],[3]),([4],[4]),([],[]),([],[]),([6,7],[6,7]),([8],[8]),([9],[9]),([0,5,10],[0,5,10])])
def impl_ClashesOf.B10 : List Nat:=[0,0,0,6,14,30,0,0,192,448,960,2047]
theorem impl_ClashesOf.tab10 : rtab .any (opsOf Try.f53 10) = impl_ClashesOf.T10:=by kernel_rfl
theorem impl_ClashesOf.bits10 : waitsOk impl_ClashesOf.T10.2 impl_ClashesOf.B10 = true:=by kernel_rfl
set_option maxHeartbeats 8000000 in
set_option maxRecDepth 100000 in
theorem impl_ClashesOf.calls (k : Nat) (A0 : Option Addr) (c0 : Nat) (l0 : List (S77)) (r1 : List (List Int)) (r2 : Bool) (w : World) (hr0 : Kd.C k77 w A0 l0.length l0) (hc0 : l0.length ≤ c0) (h : impl_ClashesOf.f k l0 = some (r1,r2)) :
  Calls Try.prog 53 #[.slice A0 l0.length c0] w fun e w' => ∃ v0_ : Value,e = .returned (.tuple #[v0_,.bool r2]) ∧ Kd.S (Kd.slice 3 (Kd.int .i64)) 65 w' w.heap.size (fun _=>True) v0_ r1 ∧ Below w.heap.size w w' := by
 have hu77:=Try.underlying77;have HR0:=Aside0.mk hr0;have HC0:=Aside0.mk hc0;clear hr0 hc0;have HB:=Aside0.mk (Below.refl w.heap.size w);have H : ((impl_ArePeople.f k l0).bind fun t101=>(if t101 = true then (impl_ClashesOf.l0 k l0 ([] : List (List Int)) l0 (l0.length : Int) 0) else (some (([] : List (List Int)),false)))) = some (r1,r2):=h;clear h;replace H:=Option.bind_eq_some_iff.mp H;obtain ⟨t101,A20,H⟩:=H;(try dsimp only at H);have A2:=Aside0.mk A20;clear A20;by_cases c3 : t101 = true
 ·subst c3;have H1 : (impl_ClashesOf.l0 k l0 ([] : List (List Int)) l0 (l0.length : Int) 0) = some (r1,r2):=by rw [if_pos rfl] at H;exact H
  clear H;have H:=H1;clear H1;have H' := Aside0.mk H;clear H;go_enter Try.func53,Try.ntmps53
  go_wp2_with (first | ((with_reducible refine gate_callee (f:=58) rfl ?_);refine goesL_ (some 9) rfl rfl Try.func58 (by kernel_rfl) rfl #[.slice A0 l0.length c0] rfl (q22_) ?_;(with_reducible refine (impl_ArePeople.calls k _ _ l0 true _ ?side1 ?side2 A2.out).mono ?_);(case side1=>exact cX_ HR0.out);(case side2=>exact HC0.out);rintro e w4 ⟨rfl,hb⟩;refine ⟨_,rfl,?_⟩;replace HB:=bS_ HB hb;(try clear hb)))
  go_loopg [4,13] k (fun kq v4 v13 w' => ∃ (x4_1 : List (List Int)) (x13_1 : Int),v13 = .int .i64 x13_1 ∧ Aside0 (impl_ClashesOf.l0 kq l0 x4_1 l0 (l0.length : Int) x13_1 = some (r1,r2)) ∧ Aside0 (kq ≤ k) ∧ Aside0 (Kd.S (Kd.slice 3 (Kd.int .i64)) 65 w' w.heap.size (fun _=>True) v4 x4_1) ∧ Aside0 (Below w.heap.size w w'))
  case atStart=>exact ⟨(([] : List (List Int))),(0),(q1_),H', ⟨Nat.le_refl _⟩,⟨by first | exact Kd.S_nil _ _ _ _ _ | exact Kd.N_nil _ _ _ _ _ | exact Kd.V_nil _ _ _ _ _ | exact Kd.Q_nil _ _ _ _ _ | exact Kd.R_nil _ _ _ _ _⟩,⟨q21_⟩⟩
  case round =>
   clear H';try clear c3
   obtain ⟨x4_1,x13_1,rfl,HA,HK1,HO_4,HB⟩:=hrel;cases gk with
   | zero=>exact absurd HA.out (by simp [impl_ClashesOf.l0])
   | succ k1 =>
    have H:=HA.out;clear HA;simp only [impl_ClashesOf.l0] at H;by_cases c5 : x13_1 < (l0.length : Int)
    ·rw [if_pos c5] at H;have c5b0 : decide (x13_1 < (l0.length : Int)) = true:=decide_eq_true c5;clear c5;by_cases c6 : 0 ≤ x13_1
     ·rw [if_pos c6] at H;have c6b0 : decide (0 ≤ x13_1) = true:=decide_eq_true c6;clear c6;by_cases c7 : x13_1 < (l0.length : Int)
      ·rw [if_pos c7] at H;have c7b0 : decide (x13_1 < (l0.length : Int)) = true:=decide_eq_true c7;clear c7;have H' := Aside0.mk H;clear H;have p102 : 0 ≤ (x13_1 : Int):=of_decide_eq_true (q2_);have q102 : x13_1 < (l0.length : Int):=of_decide_eq_true (q2_);obtain ⟨ad102,e102,hx102_0,hx102_1,hx102_2,hx102_3⟩:=at_T77 HR0.out x13_1 p102 q102;cases e102;replace hx102_0:=hB_ HB.out hx102_0;replace hx102_1:=hB_ HB.out hx102_1;replace hx102_2:=hB_ HB.out hx102_2;replace hx102_3:=hB_ HB.out hx102_3;replace p102:=eq_true p102;replace q102:=eq_true q102;go_wp2_with (first | ((with_reducible refine gate_dst (N:=6) rfl ?_);refine box_event ?hg (N:=6) ?hd (cs:=#[.string (⟨#[]⟩ : ByteArray),.int .i64 0,.int .i64 0,.int .i64 0]) (t:=77) ?hr ?_;(case hd=>rfl);(case hg=>rfl);(case hr=>first | (go_simp;done) | (go_simp;rfl));intro gb103 hg w8 hbox hb;replace HO_4:=Aside0.mk (Kd.S_below (q8_) hb);have BK103:=Aside0.mk (hbox);have GW103:=Aside0.mk ((q49_ : w.heap.size ≤ gb103));have GE103:=Aside0.mk ((q49_ : w.heap.size ≤ gb103));replace HB:=bS_ HB hb;clear hb hbox hg;have hcz9_0 : w8.cell? ⟨gb103,0,none⟩ = some (.string (⟨#[]⟩ : ByteArray)):=(blk_cell BK103.out 0).trans rfl;have hcz9_1 : w8.cell? ⟨gb103,1,none⟩ = some (.int .i64 0):=(blk_cell BK103.out 1).trans rfl;have hcz9_2 : w8.cell? ⟨gb103,2,none⟩ = some (.int .i64 0):=(blk_cell BK103.out 2).trans rfl;have hcz9_3 : w8.cell? ⟨gb103,3,none⟩ = some (.int .i64 0):=(blk_cell BK103.out 3).trans rfl;have hfz9_0:=blk_frozen BK103.out 0;have hfz9_1:=blk_frozen BK103.out 1;have hfz9_2:=blk_frozen BK103.out 2;have hfz9_3:=blk_frozen BK103.out 3))
       go_loopg [4,7] k1 (fun kq v4 v7 w' => ∃ (x4_2 : List (List Int)) (x7_2 : Int),v7 = .int .i64 x7_2 ∧ Aside0 (impl_ClashesOf.l1 kq l0 x4_2 x13_1 x7_2 l0 (l0.length : Int) x13_1 ((rd_T77 l0 x13_1).f0) ((rd_T77 l0 x13_1).f1) ((rd_T77 l0 x13_1).f2) ((rd_T77 l0 x13_1).f3) = some (r1,r2)) ∧ Aside0 (kq ≤ k1) ∧ Aside0 (Kd.S (Kd.slice 3 (Kd.int .i64)) 65 w' w.heap.size (fun _=>True) v4 x4_2) ∧ Aside0 (w'.heap[gb103]? = some (.cells #[.string ((rd_T77 l0 x13_1).f0),.int .i64 ((rd_T77 l0 x13_1).f1),.int .i64 ((rd_T77 l0 x13_1).f2),.int .i64 ((rd_T77 l0 x13_1).f3)] 77 (0,0))) ∧ Aside0 (Below w.heap.size w w'))
       case atStart=>exact ⟨(x4_1),(wrap64 (x13_1 + 1)),(q1_),H', ⟨Nat.le_refl _⟩,⟨by (with_reducible repeat (first | apply Kd.S_alloc | apply Kd.S_drewN | apply Kd.S_drew));exact Kd.S_mono (Kd.S_far (p:=⟨gb103,3,none⟩) (Kd.S_far (p:=⟨gb103,2,none⟩) (Kd.S_far (p:=⟨gb103,1,none⟩) (Kd.S_far (p:=⟨gb103,0,none⟩) (Kd.S_types HO_4.out BK103.out (by decide)) (fun _ hk=>hk.2) (.string ((rd_T77 l0 x13_1).f0))) (fun _ hk=>hk.2) (.int .i64 ((rd_T77 l0 x13_1).f1))) (fun _ hk=>hk.2) (.int .i64 ((rd_T77 l0 x13_1).f2))) (fun _ hk=>hk.2) (.int .i64 ((rd_T77 l0 x13_1).f3))) (fun _ hk=>trivial)⟩,⟨by (with_reducible repeat (first | refine blk_drewN ?_ _ | refine blk_drew ?_ | refine blk_alloc ?_ _));refine blk_put (cs:=#[.string ((rd_T77 l0 x13_1).f0),.int .i64 ((rd_T77 l0 x13_1).f1),.int .i64 ((rd_T77 l0 x13_1).f2),.int .i64 0]) ?_ 3 _ rfl;(with_reducible repeat (first | refine blk_drewN ?_ _ | refine blk_drew ?_ | refine blk_alloc ?_ _));refine blk_put (cs:=#[.string ((rd_T77 l0 x13_1).f0),.int .i64 ((rd_T77 l0 x13_1).f1),.int .i64 0,.int .i64 0]) ?_ 2 _ rfl;(with_reducible repeat (first | refine blk_drewN ?_ _ | refine blk_drew ?_ | refine blk_alloc ?_ _));refine blk_put (cs:=#[.string ((rd_T77 l0 x13_1).f0),.int .i64 0,.int .i64 0,.int .i64 0]) ?_ 1 _ rfl;(with_reducible repeat (first | refine blk_drewN ?_ _ | refine blk_drew ?_ | refine blk_alloc ?_ _));refine blk_put (cs:=#[.string (⟨#[]⟩ : ByteArray),.int .i64 0,.int .i64 0,.int .i64 0]) ?_ 0 _ rfl;(with_reducible repeat (first | refine blk_drewN ?_ _ | refine blk_drew ?_ | refine blk_alloc ?_ _));exact BK103.out⟩,⟨q27_⟩⟩
       case round =>
        clear H';try clear c3
        try clear c5
        try clear c5b0
        try clear c6
        try clear c6b0
        try clear c7
        try clear c7b0
        try clear hcz9_0
        try clear hcz9_1
        try clear hcz9_2
        try clear hcz9_3
        try clear hfz9_0
        try clear hfz9_1
        try clear hfz9_2
        try clear hfz9_3
        try clear hx102_0
        try clear hx102_1
        try clear hx102_2
        try clear hx102_3
        try clear p102
        try clear q102
        obtain ⟨x4_2,x7_2,rfl,HA,HK2,HO_4,BK103,HB⟩:=hrel;cases gk with
        | zero=>exact absurd HA.out (by simp [impl_ClashesOf.l1])
        | succ k2 =>
         have H:=HA.out;clear HA;simp only [impl_ClashesOf.l1] at H;by_cases c10 : x7_2 < (l0.length : Int)
         ·rw [if_pos c10] at H;have c10b0 : decide (x7_2 < (l0.length : Int)) = true:=decide_eq_true c10;clear c10;by_cases c11 : 0 ≤ x7_2
          ·rw [if_pos c11] at H;have c11b0 : decide (0 ≤ x7_2) = true:=decide_eq_true c11;clear c11;replace H:=Option.bind_eq_some_iff.mp H;obtain ⟨t106,A120,H⟩:=H;(try dsimp only at H);have A12:=Aside0.mk A120;clear A120;by_cases c13 : t106 = true
           ·subst c13;have H1 : (if x4_2.length < 5864062014805 then (impl_ClashesOf.l1 k2 l0 (x4_2 ++ [(([x13_1,x7_2] : List Int))]) x13_1 (wrap64 (x7_2 + 1)) l0 (l0.length : Int) x13_1 ((rd_T77 l0 x13_1).f0) ((rd_T77 l0 x13_1).f1) ((rd_T77 l0 x13_1).f2) ((rd_T77 l0 x13_1).f3)) else (none)) = some (r1,r2):=by rw [if_pos rfl] at H;exact H
            clear H;have H:=H1;clear H1;obtain ⟨y107,hy107⟩ : ∃ y_ : List Int,y_ = (([x13_1,x7_2] : List Int)):=⟨_,rfl⟩;replace H : (if x4_2.length < 5864062014805 then (impl_ClashesOf.l1 k2 l0 (x4_2 ++ [y107]) x13_1 (wrap64 (x7_2 + 1)) l0 (l0.length : Int) x13_1 ((rd_T77 l0 x13_1).f0) ((rd_T77 l0 x13_1).f1) ((rd_T77 l0 x13_1).f2) ((rd_T77 l0 x13_1).f3)) else (none)) = some (r1,r2):=q41_
            have Ny107:=Aside0.mk hy107;clear hy107;by_cases c14 : x4_2.length < 5864062014805
            ·rw [if_pos c14] at H;have LMc14:=Aside0.mk c14;clear c14;obtain ⟨y110,hy110⟩ : ∃ y_ : List (List Int),y_ = (x4_2 ++ [y107]):=⟨_,rfl⟩;replace H : (impl_ClashesOf.l1 k2 l0 y110 x13_1 (wrap64 (x7_2 + 1)) l0 (l0.length : Int) x13_1 ((rd_T77 l0 x13_1).f0) ((rd_T77 l0 x13_1).f1) ((rd_T77 l0 x13_1).f2) ((rd_T77 l0 x13_1).f3)) = some (r1,r2):=by first | (rw [hy110];with_reducible exact H) | (have H2_:=(Option.bind_some _ _).symm.trans H;rw [hy110];with_reducible exact H2_) | (have H2_:=(Option.bind_some _ _).symm.trans H;with_reducible exact H2_) | with_reducible exact H | (rw [hy110];exact H) | exact H
             have Ny110:=Aside0.mk hy110;clear hy110;have H' := Aside0.mk H;clear H;try go_wp2
             replace HO_4:=Aside0.mk (Kd.S_drew HO_4.out);replace BK103:=Aside0.mk (blk_drew BK103.out);replace HB:=Aside0.mk (below_drew1 HB.out);have p104 : 0 ≤ (x7_2 : Int):=of_decide_eq_true (q2_);have q104 : x7_2 < (l0.length : Int):=of_decide_eq_true (q2_);obtain ⟨ad104,e104,hx104_0,hx104_1,hx104_2,hx104_3⟩:=at_T77 HR0.out x7_2 p104 q104;have hw104_3:=hx104_3;have hw104_2:=hx104_2;have hw104_1:=hx104_1;have hw104_0:=hx104_0;obtain rfl : ad102 = ad104:=(by injection e104);replace hx104_0:=hB_ HB.out hx104_0;replace hx104_1:=hB_ HB.out hx104_1;replace hx104_2:=hB_ HB.out hx104_2;replace hx104_3:=hB_ HB.out hx104_3;replace p104:=eq_true p104;replace q104:=eq_true q104;have p105 : 0 ≤ (x7_2 : Int):=of_decide_eq_true (q2_);have q105 : x7_2 < (l0.length : Int):=of_decide_eq_true (q2_);obtain ⟨ad105,e105,hx105_0,hx105_1,hx105_2,hx105_3⟩:=at_T77 HR0.out x7_2 p105 q105;have hw105_3:=hx105_3;have hw105_2:=hx105_2;have hw105_1:=hx105_1;have hw105_0:=hx105_0;obtain rfl : ad102 = ad105:=(by injection e105);replace hx105_0:=hB_ HB.out hx105_0;replace hx105_1:=hB_ HB.out hx105_1;replace hx105_2:=hB_ HB.out hx105_2;replace hx105_3:=hB_ HB.out hx105_3;replace p105:=eq_true p105;replace q105:=eq_true q105;refine start_ (n:=12) (S:=fun w' => w'.cell? ⟨gb103,0,none⟩ = some (.string ((rd_T77 l0 x13_1).f0)) ∧ w'.cell? ⟨gb103,1,none⟩ = some (.int .i64 ((rd_T77 l0 x13_1).f1)) ∧ w'.cell? ⟨gb103,2,none⟩ = some (.int .i64 ((rd_T77 l0 x13_1).f2)) ∧ w'.cell? ⟨gb103,3,none⟩ = some (.int .i64 ((rd_T77 l0 x13_1).f3)) ∧ w'.cell? (ad102.add ((x7_2).toNat * 4)) = some (.string ((rd_T77 l0 x7_2).f0)) ∧ w'.cell? ⟨(ad102.add ((x7_2).toNat * 4)).block,(ad102.add ((x7_2).toNat * 4)).off + 1,none⟩ = some (.int .i64 ((rd_T77 l0 x7_2).f1)) ∧ w'.cell? ⟨(ad102.add ((x7_2).toNat * 4)).block,(ad102.add ((x7_2).toNat * 4)).off + 2,none⟩ = some (.int .i64 ((rd_T77 l0 x7_2).f2)) ∧ w'.cell? ⟨(ad102.add ((x7_2).toNat * 4)).block,(ad102.add ((x7_2).toNat * 4)).off + 3,none⟩ = some (.int .i64 ((rd_T77 l0 x7_2).f3)) ∧ w'.cell? (ad102.add ((x7_2).toNat * 4)) = some (.string ((rd_T77 l0 x7_2).f0)) ∧ w'.cell? ⟨(ad102.add ((x7_2).toNat * 4)).block,(ad102.add ((x7_2).toNat * 4)).off + 1,none⟩ = some (.int .i64 ((rd_T77 l0 x7_2).f1)) ∧ w'.cell? ⟨(ad102.add ((x7_2).toNat * 4)).block,(ad102.add ((x7_2).toNat * 4)).off + 2,none⟩ = some (.int .i64 ((rd_T77 l0 x7_2).f2)) ∧ w'.cell? ⟨(ad102.add ((x7_2).toNat * 4)).block,(ad102.add ((x7_2).toNat * 4)).off + 3,none⟩ = some (.int .i64 ((rd_T77 l0 x7_2).f3))) (ds:=[]) f71_ (by kernel_rfl) rfl rfl ⟨(blk_cell BK103.out 0).trans rfl,(blk_cell BK103.out 1).trans rfl,(blk_cell BK103.out 2).trans rfl,(blk_cell BK103.out 3).trans rfl,((HB.out.cell (World.block_lt_of_cell? w _ hw104_0)).trans hw104_0),((HB.out.cell (World.block_lt_of_cell? w _ hw104_1)).trans hw104_1),((HB.out.cell (World.block_lt_of_cell? w _ hw104_2)).trans hw104_2),((HB.out.cell (World.block_lt_of_cell? w _ hw104_3)).trans hw104_3),((HB.out.cell (World.block_lt_of_cell? w _ hw105_0)).trans hw105_0),((HB.out.cell (World.block_lt_of_cell? w _ hw105_1)).trans hw105_1),((HB.out.cell (World.block_lt_of_cell? w _ hw105_2)).trans hw105_2),((HB.out.cell (World.block_lt_of_cell? w _ hw105_3)).trans hw105_3)⟩ (fun hHeld=>?_);refine with_tabW impl_ClashesOf.tab10 impl_ClashesOf.bits10 (fun HT_ HW_=>?_);generalize wr.drew = w15 at HO_4 BK103 HB hx104_0 hx104_1 hx104_2 hx104_3 hx105_0 hx105_1 hx105_2 hx105_3 hHeld ⊢;refine pure_ (i:=1) (N:=some 27) (v:=?_) (a' := ?_) f72_ rfl rfl (any_of HT_.out (by kernel_rfl)) (fun _ _ _ h=>h) (Or.inl ⟨by rfl,?_⟩) ?_ ?_;rotate_left
             ·intro w';go_simp;with_reducible rfl
             rotate_left
             ·exact q56_
             refine pa_ 2 28 f73_ ?_
             refine pa_ 3 29 f74_ ?_
             refine pa_ 4 30 f75_ ?_
             refine pa_ 6 32 f76_ ?_
             refine pa_ 7 33 f77_ ?_
             refine pa_ 8 34 f78_ ?_
             refine pa_ 9 35 f79_ ?_
             refine take_ (i:=0) (N:=some 26) (v:=?_) (a' := ?_) f80_ rfl rfl (take_ofW HT_.out HW_.out (by kernel_rfl)) (fun _ _ _ h=>h) (Or.inl ⟨by rfl,?_⟩) hHeld ?_ ?_;rotate_left
             ·rintro w' ⟨s0,s1,s2,s3,s4,s5,s6,s7,s8,s9,s10,s11⟩;go_simp;with_reducible rfl
             rotate_left
             ·exact q56_
             refine take_ (i:=5) (N:=some 31) (v:=?_) (a' := ?_) f81_ rfl rfl (take_ofW HT_.out HW_.out (by kernel_rfl)) (fun _ _ _ h=>h) (Or.inl ⟨by rfl,?_⟩) hHeld ?_ ?_;rotate_left
             ·rintro w' ⟨s0,s1,s2,s3,s4,s5,s6,s7,s8,s9,s10,s11⟩;go_simp;with_reducible rfl
             rotate_left
             ·exact q56_
             refine take_ (i:=10) (N:=some 36) (v:=?_) (a' := ?_) f82_ rfl rfl (take_ofW HT_.out HW_.out (by kernel_rfl)) (fun _ _ _ h=>h) (Or.inl ⟨by rfl,?_⟩) hHeld ?_ ?_;rotate_left
             ·rintro w' ⟨s0,s1,s2,s3,s4,s5,s6,s7,s8,s9,s10,s11⟩;go_simp;with_reducible rfl
             rotate_left
             ·exact q56_
             refine one_ (i:=11) (N:=some 37) f83_ rfl rfl (one_of HT_.out (by kernel_rfl)) (by decide) (fun K hK=>?_);refine goes_ Try.func167 (by kernel_rfl) rfl #[.agg #[.string ((rd_T77 l0 x13_1).f0),.int .i64 ((rd_T77 l0 x13_1).f1),.int .i64 ((rd_T77 l0 x13_1).f2),.int .i64 ((rd_T77 l0 x13_1).f3)],.int .i64 ((rd_T77 l0 x7_2).f1),.int .i64 ((rd_T77 l0 x7_2).f2)] (by rfl) rfl rfl (q22_) ?_
             with_reducible refine (impl_Person_clashes.calls ((rd_T77 l0 x13_1).f0) ((rd_T77 l0 x13_1).f1) ((rd_T77 l0 x13_1).f2) ((rd_T77 l0 x13_1).f3) ((rd_T77 l0 x7_2).f1) ((rd_T77 l0 x7_2).f2) true _ A12.out).mono ?_
             rintro e w16 ⟨rfl,hb⟩;refine ⟨_,rfl,?_⟩;replace HO_4:=Aside0.mk (Kd.S_below (q8_) hb);replace BK103:=bkB_ BK103 hb;replace HB:=Aside0.mk (below_step (q27_) hb)
             (try clear hb)
             (try clear hb2)
             (try clear hk)
             (try clear hi)
             refine hK.out _ _ ⟨(blk_cell BK103.out 0).trans rfl,(blk_cell BK103.out 1).trans rfl,(blk_cell BK103.out 2).trans rfl,(blk_cell BK103.out 3).trans rfl,((HB.out.cell (World.block_lt_of_cell? w _ hw104_0)).trans hw104_0),((HB.out.cell (World.block_lt_of_cell? w _ hw104_1)).trans hw104_1),((HB.out.cell (World.block_lt_of_cell? w _ hw104_2)).trans hw104_2),((HB.out.cell (World.block_lt_of_cell? w _ hw104_3)).trans hw104_3),((HB.out.cell (World.block_lt_of_cell? w _ hw105_0)).trans hw105_0),((HB.out.cell (World.block_lt_of_cell? w _ hw105_1)).trans hw105_1),((HB.out.cell (World.block_lt_of_cell? w _ hw105_2)).trans hw105_2),((HB.out.cell (World.block_lt_of_cell? w _ hw105_3)).trans hw105_3)⟩ (fun hHeld=>?_);clear hK K;refine norm_ (a' := ?_) ?_ ?_;rotate_left
             ·show Act.put _ (some 37) _ = _;simp only [Act.put,List.setIfInBounds_toArray,List.set_cons_zero,List.set_cons_succ,i64_w,i32_w];rfl
             refine done_ (done_of HT_.out (by kernel_rfl)) ?_;try go_wp2_with (first | ((with_reducible refine gate_dst (N:=41) rfl ?_);refine Kd.R_lit (Kd.int .i64) _ 3 ?hg (N:=41) ?hd (xs:=([x13_1,x7_2] : List Int)) (inner:=[.int .i64 x13_1,.int .i64 x7_2]) (ok:=fun _=>True) (okp:=fun _=>True) ?hr ?hp (fun _ hk=>hk) trivial (Below.refl _ _) (Nat.le_refl _) (by simp) ?_;(case hd=>rfl);(case hg=>rfl);(case hr=>first | (go_simp;done) | (go_simp;rfl));(case hp=>exact (Reps.one (show Kd.M (Kd.int .i64) _ _ _ x13_1 [.int .i64 x13_1] from rfl) (Reps.one (show Kd.M (Kd.int .i64) _ _ _ x7_2 [.int .i64 x7_2] from rfl) (Reps.none _ _))));intro v108 w17 ho18 hb hg_ hnew_;clear hg_ hnew_;(first | rw [← Ny107.out] at ho18 | (simp only [Int.reduceToNat] at ho18;rw [← Ny107.out] at ho18));replace HO_4:=Aside0.mk (Kd.S_elder' (q8_) (Kd.R_base ho18) hb);have HO109:=Aside0.mk (Kd.R_lower ho18 (below_size (q27_)));replace BK103:=bkB_ BK103 hb;replace HB:=Aside0.mk (below_step (q27_) hb);clear hb ho18;obtain ⟨Ao20,co20,eo20⟩:=Kd.R_slice HO109.out;subst eo20) | ((with_reducible refine gate_builtin (b:=.append) (xs:=#[.tmp 38,.tmp 42]) rfl ?_);at_builtin;refine Kd.S_append (Kd.slice 3 (Kd.int .i64)) (w0:=w) w.heap.size rfl (.tmp 38) (.tmp 42) 68 65 (.slice none 0 0) 24 rfl Try.underlying68 info65 rfl (by decide) (by omega) u4 x4_2 y107 [.slice Ao20 y107.length co20] (fun _=>True) (fun k_=>some k_ = (.slice Ao20 y107.length co20 : Value).ownBlock) rfl rfl ?aP (fun k_ hk_=>((Kd.R_mono (ok' := fun k_=>((fun _=>True)) k_ ∧ some k_ ≠ (u4 : Value).ownBlock) (Kd.R_apart' (HO109.out) (Kd.S_typed HO_4.out) (by decide)) (fun k_ hk=>⟨trivial,hk.2⟩))).1 k_ hk_.symm) ?aF ?aO ?aB ?aS ?aL ?_;(case aP=>exact Kd.M_row (Kd.R_mono (Kd.R_tight rfl (Kd.R_mono (ok' := fun k_=>((fun _=>True)) k_ ∧ some k_ ≠ (u4 : Value).ownBlock) (Kd.R_apart' (HO109.out) (Kd.S_typed HO_4.out) (by decide)) (fun k_ hk=>⟨trivial,hk.2⟩))) (fun _ h_=>h_)));(case aB=>exact (q27_));(case aF=>exact (fun _ _=>trivial));(case aO=>exact (by (with_reducible repeat (first | apply Kd.S_alloc | apply Kd.S_drewN | apply Kd.S_drew));exact Kd.S_mono HO_4.out (fun k_ hk=>⟨trivial,fun e_=>hk.2 e_⟩)));(case aS=>exact (below_size (q27_)));(case aL=>have:=LMc14.out;omega);intro v111 w19 ho hb hg hat;rw [← Ny110.out] at ho;replace BK103:=Aside0.mk (blk_grown (g:=gb103) (o:=.cells #[.string ((rd_T77 l0 x13_1).f0),.int .i64 ((rd_T77 l0 x13_1).f1),.int .i64 ((rd_T77 l0 x13_1).f2),.int .i64 ((rd_T77 l0 x13_1).f3)] 77 (0,0)) (by (with_reducible repeat (first | refine blk_drewN ?_ _ | refine blk_drew ?_ | refine blk_alloc ?_ _));exact BK103.out) hg (Kd.S_ne HO_4.out BK103.out (by decide)));replace HB:=Aside0.mk (hb);have HO112:=Aside0.mk (ho);clear HO_4 HO109;clear ho hb hg hat))
             go_roundg k2
             case measure=>have:=HK1.out;have:=HK2.out;omega
             case rel=>exact ⟨(y110),(wrap64 (x7_2 + 1)),(q1_),H', ⟨by have:=HK1.out;have:=HK2.out;omega⟩,⟨by (with_reducible repeat (first | apply Kd.S_alloc | apply Kd.S_drewN | apply Kd.S_drew));exact HO112.out⟩,⟨by (with_reducible repeat (first | refine blk_drewN ?_ _ | refine blk_drew ?_ | refine blk_alloc ?_ _));exact BK103.out⟩,⟨q27_⟩⟩
            ·rw [if_neg c14] at H;exact absurd H (by simp)
           ·replace c13:=Bool.eq_false_iff.mpr c13;subst c13;have H1 : (impl_ClashesOf.l1 k2 l0 x4_2 x13_1 (wrap64 (x7_2 + 1)) l0 (l0.length : Int) x13_1 ((rd_T77 l0 x13_1).f0) ((rd_T77 l0 x13_1).f1) ((rd_T77 l0 x13_1).f2) ((rd_T77 l0 x13_1).f3)) = some (r1,r2):=by rw [if_neg (show ¬ (false = true) by decide)] at H;exact H
            clear H;have H:=H1;clear H1;have H' := Aside0.mk H;clear H;try go_wp2
            replace HO_4:=Aside0.mk (Kd.S_drew HO_4.out);replace BK103:=Aside0.mk (blk_drew BK103.out);replace HB:=Aside0.mk (below_drew1 HB.out);have p104 : 0 ≤ (x7_2 : Int):=of_decide_eq_true (q2_);have q104 : x7_2 < (l0.length : Int):=of_decide_eq_true (q2_);obtain ⟨ad104,e104,hx104_0,hx104_1,hx104_2,hx104_3⟩:=at_T77 HR0.out x7_2 p104 q104;have hw104_3:=hx104_3;have hw104_2:=hx104_2;have hw104_1:=hx104_1;have hw104_0:=hx104_0;obtain rfl : ad102 = ad104:=(by injection e104);replace hx104_0:=hB_ HB.out hx104_0;replace hx104_1:=hB_ HB.out hx104_1;replace hx104_2:=hB_ HB.out hx104_2;replace hx104_3:=hB_ HB.out hx104_3;replace p104:=eq_true p104;replace q104:=eq_true q104;have p105 : 0 ≤ (x7_2 : Int):=of_decide_eq_true (q2_);have q105 : x7_2 < (l0.length : Int):=of_decide_eq_true (q2_);obtain ⟨ad105,e105,hx105_0,hx105_1,hx105_2,hx105_3⟩:=at_T77 HR0.out x7_2 p105 q105;have hw105_3:=hx105_3;have hw105_2:=hx105_2;have hw105_1:=hx105_1;have hw105_0:=hx105_0;obtain rfl : ad102 = ad105:=(by injection e105);replace hx105_0:=hB_ HB.out hx105_0;replace hx105_1:=hB_ HB.out hx105_1;replace hx105_2:=hB_ HB.out hx105_2;replace hx105_3:=hB_ HB.out hx105_3;replace p105:=eq_true p105;replace q105:=eq_true q105;refine start_ (n:=12) (S:=fun w' => w'.cell? ⟨gb103,0,none⟩ = some (.string ((rd_T77 l0 x13_1).f0)) ∧ w'.cell? ⟨gb103,1,none⟩ = some (.int .i64 ((rd_T77 l0 x13_1).f1)) ∧ w'.cell? ⟨gb103,2,none⟩ = some (.int .i64 ((rd_T77 l0 x13_1).f2)) ∧ w'.cell? ⟨gb103,3,none⟩ = some (.int .i64 ((rd_T77 l0 x13_1).f3)) ∧ w'.cell? (ad102.add ((x7_2).toNat * 4)) = some (.string ((rd_T77 l0 x7_2).f0)) ∧ w'.cell? ⟨(ad102.add ((x7_2).toNat * 4)).block,(ad102.add ((x7_2).toNat * 4)).off + 1,none⟩ = some (.int .i64 ((rd_T77 l0 x7_2).f1)) ∧ w'.cell? ⟨(ad102.add ((x7_2).toNat * 4)).block,(ad102.add ((x7_2).toNat * 4)).off + 2,none⟩ = some (.int .i64 ((rd_T77 l0 x7_2).f2)) ∧ w'.cell? ⟨(ad102.add ((x7_2).toNat * 4)).block,(ad102.add ((x7_2).toNat * 4)).off + 3,none⟩ = some (.int .i64 ((rd_T77 l0 x7_2).f3)) ∧ w'.cell? (ad102.add ((x7_2).toNat * 4)) = some (.string ((rd_T77 l0 x7_2).f0)) ∧ w'.cell? ⟨(ad102.add ((x7_2).toNat * 4)).block,(ad102.add ((x7_2).toNat * 4)).off + 1,none⟩ = some (.int .i64 ((rd_T77 l0 x7_2).f1)) ∧ w'.cell? ⟨(ad102.add ((x7_2).toNat * 4)).block,(ad102.add ((x7_2).toNat * 4)).off + 2,none⟩ = some (.int .i64 ((rd_T77 l0 x7_2).f2)) ∧ w'.cell? ⟨(ad102.add ((x7_2).toNat * 4)).block,(ad102.add ((x7_2).toNat * 4)).off + 3,none⟩ = some (.int .i64 ((rd_T77 l0 x7_2).f3))) (ds:=[]) f71_ (by kernel_rfl) rfl rfl ⟨(blk_cell BK103.out 0).trans rfl,(blk_cell BK103.out 1).trans rfl,(blk_cell BK103.out 2).trans rfl,(blk_cell BK103.out 3).trans rfl,((HB.out.cell (World.block_lt_of_cell? w _ hw104_0)).trans hw104_0),((HB.out.cell (World.block_lt_of_cell? w _ hw104_1)).trans hw104_1),((HB.out.cell (World.block_lt_of_cell? w _ hw104_2)).trans hw104_2),((HB.out.cell (World.block_lt_of_cell? w _ hw104_3)).trans hw104_3),((HB.out.cell (World.block_lt_of_cell? w _ hw105_0)).trans hw105_0),((HB.out.cell (World.block_lt_of_cell? w _ hw105_1)).trans hw105_1),((HB.out.cell (World.block_lt_of_cell? w _ hw105_2)).trans hw105_2),((HB.out.cell (World.block_lt_of_cell? w _ hw105_3)).trans hw105_3)⟩ (fun hHeld=>?_);refine with_tabW impl_ClashesOf.tab10 impl_ClashesOf.bits10 (fun HT_ HW_=>?_);generalize wr.drew = w21 at HO_4 BK103 HB hx104_0 hx104_1 hx104_2 hx104_3 hx105_0 hx105_1 hx105_2 hx105_3 hHeld ⊢;refine pure_ (i:=1) (N:=some 27) (v:=?_) (a' := ?_) f72_ rfl rfl (any_of HT_.out (by kernel_rfl)) (fun _ _ _ h=>h) (Or.inl ⟨by rfl,?_⟩) ?_ ?_;rotate_left
            ·intro w';go_simp;with_reducible rfl
            rotate_left
            ·exact q56_
            refine pa_ 2 28 f73_ ?_
            refine pa_ 3 29 f74_ ?_
            refine pa_ 4 30 f75_ ?_
            refine pa_ 6 32 f76_ ?_
            refine pa_ 7 33 f77_ ?_
            refine pa_ 8 34 f78_ ?_
            refine pa_ 9 35 f79_ ?_
            refine take_ (i:=0) (N:=some 26) (v:=?_) (a' := ?_) f80_ rfl rfl (take_ofW HT_.out HW_.out (by kernel_rfl)) (fun _ _ _ h=>h) (Or.inl ⟨by rfl,?_⟩) hHeld ?_ ?_;rotate_left
            ·rintro w' ⟨s0,s1,s2,s3,s4,s5,s6,s7,s8,s9,s10,s11⟩;go_simp;with_reducible rfl
            rotate_left
            ·exact q56_
            refine take_ (i:=5) (N:=some 31) (v:=?_) (a' := ?_) f81_ rfl rfl (take_ofW HT_.out HW_.out (by kernel_rfl)) (fun _ _ _ h=>h) (Or.inl ⟨by rfl,?_⟩) hHeld ?_ ?_;rotate_left
            ·rintro w' ⟨s0,s1,s2,s3,s4,s5,s6,s7,s8,s9,s10,s11⟩;go_simp;with_reducible rfl
            rotate_left
            ·exact q56_
            refine take_ (i:=10) (N:=some 36) (v:=?_) (a' := ?_) f82_ rfl rfl (take_ofW HT_.out HW_.out (by kernel_rfl)) (fun _ _ _ h=>h) (Or.inl ⟨by rfl,?_⟩) hHeld ?_ ?_;rotate_left
            ·rintro w' ⟨s0,s1,s2,s3,s4,s5,s6,s7,s8,s9,s10,s11⟩;go_simp;with_reducible rfl
            rotate_left
            ·exact q56_
            refine one_ (i:=11) (N:=some 37) f83_ rfl rfl (one_of HT_.out (by kernel_rfl)) (by decide) (fun K hK=>?_);refine goes_ Try.func167 (by kernel_rfl) rfl #[.agg #[.string ((rd_T77 l0 x13_1).f0),.int .i64 ((rd_T77 l0 x13_1).f1),.int .i64 ((rd_T77 l0 x13_1).f2),.int .i64 ((rd_T77 l0 x13_1).f3)],.int .i64 ((rd_T77 l0 x7_2).f1),.int .i64 ((rd_T77 l0 x7_2).f2)] (by rfl) rfl rfl (q22_) ?_
            with_reducible refine (impl_Person_clashes.calls ((rd_T77 l0 x13_1).f0) ((rd_T77 l0 x13_1).f1) ((rd_T77 l0 x13_1).f2) ((rd_T77 l0 x13_1).f3) ((rd_T77 l0 x7_2).f1) ((rd_T77 l0 x7_2).f2) false _ A12.out).mono ?_
            rintro e w22 ⟨rfl,hb⟩;refine ⟨_,rfl,?_⟩;replace HO_4:=Aside0.mk (Kd.S_below (q8_) hb);replace BK103:=bkB_ BK103 hb;replace HB:=Aside0.mk (below_step (q27_) hb)
            (try clear hb)
            (try clear hb2)
            (try clear hk)
            (try clear hi)
            refine hK.out _ _ ⟨(blk_cell BK103.out 0).trans rfl,(blk_cell BK103.out 1).trans rfl,(blk_cell BK103.out 2).trans rfl,(blk_cell BK103.out 3).trans rfl,((HB.out.cell (World.block_lt_of_cell? w _ hw104_0)).trans hw104_0),((HB.out.cell (World.block_lt_of_cell? w _ hw104_1)).trans hw104_1),((HB.out.cell (World.block_lt_of_cell? w _ hw104_2)).trans hw104_2),((HB.out.cell (World.block_lt_of_cell? w _ hw104_3)).trans hw104_3),((HB.out.cell (World.block_lt_of_cell? w _ hw105_0)).trans hw105_0),((HB.out.cell (World.block_lt_of_cell? w _ hw105_1)).trans hw105_1),((HB.out.cell (World.block_lt_of_cell? w _ hw105_2)).trans hw105_2),((HB.out.cell (World.block_lt_of_cell? w _ hw105_3)).trans hw105_3)⟩ (fun hHeld=>?_);clear hK K;refine norm_ (a' := ?_) ?_ ?_;rotate_left
            ·show Act.put _ (some 37) _ = _;simp only [Act.put,List.setIfInBounds_toArray,List.set_cons_zero,List.set_cons_succ,i64_w,i32_w];rfl
            refine done_ (done_of HT_.out (by kernel_rfl)) ?_;try go_wp2
            go_roundg k2
            case measure=>have:=HK1.out;have:=HK2.out;omega
            case rel=>exact ⟨(x4_2),(wrap64 (x7_2 + 1)),(q1_),H', ⟨by have:=HK1.out;have:=HK2.out;omega⟩,⟨q8_⟩,⟨by (with_reducible repeat (first | refine blk_drewN ?_ _ | refine blk_drew ?_ | refine blk_alloc ?_ _));exact BK103.out⟩,⟨q27_⟩⟩
          ·rw [if_neg c11] at H;exact absurd H (by simp)
         ·rw [if_neg c10] at H;have c10b0 : decide (x7_2 < (l0.length : Int)) = false:=decide_eq_false c10;clear c10;have H' := Aside0.mk H;clear H;go_wp2;go_roundg k2
          case measure=>have:=HK1.out;have:=HK2.out;omega
          case rel=>exact ⟨(x4_2),(wrap64 (x13_1 + 1)),(q1_),H', ⟨by have:=HK1.out;have:=HK2.out;omega⟩,⟨q8_⟩,⟨q27_⟩⟩
      ·rw [if_neg c7] at H;exact absurd H (by simp)
     ·rw [if_neg c6] at H;exact absurd H (by simp)
    ·rw [if_neg c5] at H;have c5b0 : decide (x13_1 < (l0.length : Int)) = false:=decide_eq_false c5;clear c5;simp only [Option.some.injEq,Prod.mk.injEq] at H;obtain ⟨rfl,rfl⟩:=H;go_wp2;go_ret2
     exact ⟨_,q4_,q8_,q21_⟩
 ·replace c3:=Bool.eq_false_iff.mpr c3;subst c3;have H1 : (some (([] : List (List Int)),false)) = some (r1,r2):=by rw [if_neg (show ¬ (false = true) by decide)] at H;exact H
  clear H;have H:=H1;clear H1;simp only [Option.some.injEq,Prod.mk.injEq] at H;obtain ⟨rfl,rfl⟩:=H;go_enter Try.func53,Try.ntmps53
  go_wp2_with (first | ((with_reducible refine gate_callee (f:=58) rfl ?_);refine goesL_ (some 9) rfl rfl Try.func58 (by kernel_rfl) rfl #[.slice A0 l0.length c0] rfl (q22_) ?_;(with_reducible refine (impl_ArePeople.calls k _ _ l0 false _ ?side1 ?side2 A2.out).mono ?_);(case side1=>exact cX_ HR0.out);(case side2=>exact HC0.out);rintro e w23 ⟨rfl,hb⟩;refine ⟨_,rfl,?_⟩;replace HB:=bS_ HB hb;(try clear hb)))
  go_ret2
  exact ⟨_,q4_,by first | exact Kd.S_nil _ _ _ _ _ | exact Kd.N_nil _ _ _ _ _ | exact Kd.V_nil _ _ _ _ _ | exact Kd.Q_nil _ _ _ _ _ | exact Kd.R_nil _ _ _ _ _,q21_⟩
end Go.Proofs.Ytgapcmmhbegdeaa.G
