-- Written by this session's own program over the kit's print (wip/tools/myprint.py); Lean checks it.
import Derived.Test.YtglcpghappepaaaGreatDoorMBase
import Derived.Test.YtglcpghappepaaaGreatDoorG0
import Derived.Test.YtglcpghappepaaaGreatDoorG7
namespace Go.Proofs.YtglcpghappepaaaGreatDoor.G
open Go.RowKit Go.Proofs.YtglcpghappepaaaGreatDoorW.PrintWords Go.Proofs.YtglcpghappepaaaGreatDoorW.PrintLast Go.Proofs.YtglcpghappepaaaGreatDoorW.PrintMore
attribute [local go_sem] max2_int min2_int max_two min_two max_three min_three max_four min_four str_geq str_gtr str_leq   -- for this text's walks alone
set_option linter.unusedVariables false
set_option linter.unusedSimpArgs false
/-! ### yAB: function 88 -/
mutual
def yAB.l0 : Nat → List (S25) → Int → Int → Int → Option ((List (S25)))
 | 0,_,_,_,_=>none
 | k + 1,x0,x1,x2,x8=>if x8 < x2 then (yAB.l1 k x0 x1 x2 x8 x8) else (some x0)
def yAB.l1 : Nat → List (S25) → Int → Int → Int → Int → Option ((List (S25)))
 | 0,_,_,_,_,_=>none
 | k + 1,x0,x1,x2,x8,x9=>if x9 > x1 then (if 0 ≤ x9 then (if x9 < (x0.length : Int) then (if 0 ≤ (wrap64 (x9 - 1)) then (if (wrap64 (x9 - 1)) < (x0.length : Int) then ((yAT.f ((rd_T25 x0 x9).f0) ((rd_T25 x0 x9).f1) ((rd_T25 x0 x9).f2) ((rd_T25 x0 (wrap64 (x9 - 1))).f0) ((rd_T25 x0 (wrap64 (x9 - 1))).f1) ((rd_T25 x0 (wrap64 (x9 - 1))).f2)).bind fun t103=>(yAB.j2 k x0 x1 x2 x8 x9 (decide (t103 < 0)))) else (none)) else (none)) else (none)) else (none)) else (yAB.j2 k x0 x1 x2 x8 x9 false)
def yAB.j2 : Nat → List (S25) → Int → Int → Int → Int → Bool → Option ((List (S25)))
 | 0,_,_,_,_,_,_=>none
 | k + 1,x0,x1,x2,x8,x9,x34=>if x34 = true then (if 0 ≤ (wrap64 (x9 - 1)) then (if (wrap64 (x9 - 1)) < (x0.length : Int) then (if 0 ≤ x9 then (if x9 < (x0.length : Int) then (yAB.l1 k ((x0.set (x9 : Int).toNat (⟨(rd_T25 x0 (wrap64 (x9 - 1))).f0,(rd_T25 x0 (wrap64 (x9 - 1))).f1,(rd_T25 x0 (wrap64 (x9 - 1))).f2⟩ : S25)).set ((wrap64 (x9 - 1)) : Int).toNat (⟨(rd_T25 x0 x9).f0,(rd_T25 x0 x9).f1,(rd_T25 x0 x9).f2⟩ : S25)) x1 x2 x8 (wrap64 (x9 - 1))) else (none)) else (none)) else (none)) else (none)) else (yAB.l0 k x0 x1 x2 (wrap64 (x8 + 1)))
end
def yAB.f (k : Nat) (l0 : List (S25)) (a1 : Int) (a2 : Int)  : Option ((List (S25))):=yAB.l0 k l0 a1 a2 (wrap64 (a1 + 1))
def yAB.T4 : Bool × List (List Nat × List Nat):=(true,[([],[]),([],[]),([0,1],[0,1]),([2],[2]),([3],[3]),([3],[3]),([3],[3]),([5,6,3],[3,5,6]),([7,3],[3,7]),([3],[3]),([3],[3]),([10,3],[3,10]),([9,11,3],[3,9,11]),([12,3],[3,12]),([4,8,13,3,3],[3,4,8,13]),([14,3],[3,14]),([3,15],[3,15])])
def yAB.B4 : List Nat:=[0,0,3,7,15,15,15,111,239,15,15,1039,3599,7695,16383,32767,65535]
theorem yAB.tab4 : rtab .any (opsOf Tryz.f88 4) = yAB.T4:=by kernel_rfl
theorem yAB.bits4 : waitsOk yAB.T4.2 yAB.B4 = true:=by kernel_rfl
def yAB.T6 : Bool × List (List Nat × List Nat):=(true,[([],[]),([],[]),([],[]),([],[]),([3],[3]),([],[]),([],[]),([6],[6]),([5,7],[5,7]),([8],[8]),([],[]),([],[]),([10,11],[10,11]),([12],[12]),([0,1,0,1,5,6,7,8,9,13],[0,1]),([14,9,0,1,5,6,7,8,9,13],[9,14]),([2,4,0,1,2,3,4,5,6,7,8,9,10,11,12,13,14,15],[2,4]),([16,13,15,0,1,2,3,4,5,6,7,8,9,10,11,12,13,14,15],[13,16])])
def yAB.B6 : List Nat:=[0,0,0,0,8,0,0,64,224,480,0,0,3072,7168,16355,32739,65535,131071]
theorem yAB.tab6 : rtab .any (opsOf Tryz.f88 6) = yAB.T6:=by kernel_rfl
theorem yAB.bits6 : waitsOk yAB.T6.2 yAB.B6 = true:=by kernel_rfl
set_option maxHeartbeats 8000000 in
set_option maxRecDepth 100000 in
theorem yAB.calls (k : Nat) (P0_ : Nat → Prop) (u9000_ : Value) (l0 : List (S25)) (a1 : Int) (a2 : Int)  (r : List (S25)) (w0 w : World) (hB : Below w0.heap.size w0 w) (ho0 : Kd.R k25 25 w w0.heap.size P0_ u9000_ l0) (h : yAB.f k l0 a1 a2 = some r) :
  Calls Tryz.prog 88 #[u9000_,.int .i64 a1,.int .i64 a2,.func (.func 64) #[] #[]] w fun e w' => e = .returned (.tuple #[]) ∧ Kd.R k25 25 w' w0.heap.size (fun k_=>(P0_ k_ ∨ w.heap.size ≤ k_)) u9000_ r ∧ Below w0.heap.size w0 w' ∧ Kept w w' (fun k_=>P0_ k_):=by
 have hu25:=Tryz.underlying25;have HO0:=Aside0.mk (show Kd.R k25 25 w w0.heap.size (fun k_=>(P0_ k_ ∨ w.heap.size ≤ k_)) u9000_ l0 from Kd.R_mono ho0 (fun k_ hk=>(.inl hk)));have HK:=Aside0.mk (Kept.refl w (fun k_=>P0_ k_));have HW0:=Aside0.mk hB.size;have HB:=Aside0.mk hB;clear hB;have H : (yAB.l0 k l0 a1 a2 (wrap64 (a1 + 1))) = some r:=h;clear h;have H' := Aside0.mk H;clear H;go_enter Tryz.func88,Tryz.ntmps88
 go_wp2;go_loopg [8] k (fun kq v8 w' => ∃ (x0_1 : List (S25)) (x8_1 : Int),v8 = .int .i64 x8_1 ∧ Aside0 (yAB.l0 kq x0_1 a1 a2 x8_1 = some r) ∧ Aside0 (kq ≤ k) ∧ Aside0 (Kd.R k25 25 w' w0.heap.size (fun k_=>(P0_ k_ ∨ w.heap.size ≤ k_)) u9000_ x0_1) ∧ Aside0 (Kept w w' (fun k_=>P0_ k_)) ∧ Aside0 (Below w0.heap.size w0 w'))
 case atStart=>exact ⟨(l0),(wrap64 (a1 + 1)),(q3_),H', ⟨Nat.le_refl _⟩,⟨q7_⟩,⟨q19_⟩,⟨q20_⟩⟩
 case round =>
  clear H';obtain ⟨x0_1,x8_1,rfl,HA,HK1,HO_0,HK,HB⟩:=hrel;cases gk with
  | zero=>exact absurd HA.out (by simp [yAB.l0])
  | succ k1 =>
   have H:=HA.out;clear HA;simp only [yAB.l0] at H;by_cases c5 : x8_1 < a2
   ·rw [if_pos c5] at H;have c5b0:=decide_eq_true c5;clear c5;have H' := Aside0.mk H;clear H;go_wp2;go_loopg [9] k1 (fun kq v9 w' => ∃ (x0_2 : List (S25)) (x9_2 : Int),v9 = .int .i64 x9_2 ∧ Aside0 (yAB.l1 kq x0_2 a1 a2 x8_1 x9_2 = some r) ∧ Aside0 (kq ≤ k1) ∧ Aside0 (Kd.R k25 25 w' w0.heap.size (fun k_=>(P0_ k_ ∨ w.heap.size ≤ k_)) u9000_ x0_2) ∧ Aside0 (Kept w w' (fun k_=>P0_ k_)) ∧ Aside0 (Below w0.heap.size w0 w'))
    case atStart=>exact ⟨(x0_1),(x8_1),(q3_),H', ⟨Nat.le_refl _⟩,⟨q9_⟩,⟨q19_⟩,⟨q20_⟩⟩
    case round =>
     clear H';try clear c5
     try clear c5b0
     obtain ⟨x0_2,x9_2,rfl,HA,HK2,HO_0,HK,HB⟩:=hrel;cases gk with
     | zero=>exact absurd HA.out (by simp [yAB.l1])
     | succ k2 =>
      have H:=HA.out;clear HA;simp only [yAB.l1] at H;have HC6:=Aside0.mk H;clear H;go_upto_region 4 with (fail)
      go_cut [34] (fun v34 wc=>∃ (kq : Nat) (x34_5 : Bool),v34 = .bool x34_5 ∧ Aside0 (yAB.j2 kq x0_2 a1 a2 x8_1 x9_2 x34_5 = some r) ∧ Aside0 (kq ≤ k2) ∧ Aside0 (Kd.R k25 25 wc w0.heap.size (fun k_=>(P0_ k_ ∨ w.heap.size ≤ k_)) u9000_ x0_2) ∧ Aside0 (Kept w wc (fun k_=>P0_ k_)) ∧ Aside0 (Below w0.heap.size w0 wc))
      case first =>
       have H:=HC6.out;clear HC6;by_cases c7 : x9_2 > a1
       ·rw [if_pos c7] at H;have c7b0 : decide (a1 < x9_2) = true:=decide_eq_true c7;clear c7
        (first | rw [c7b0] | (simp only [i64_w,i32_w];rw [c7b0]) | skip)
        by_cases c8 : 0 ≤ x9_2
        ·rw [if_pos c8] at H;have c8b0:=decide_eq_true c8;clear c8;by_cases c9 : x9_2 < (x0_2.length : Int)
         ·rw [if_pos c9] at H;have c9b0:=decide_eq_true c9;clear c9;obtain ⟨ji10,hji10⟩ : ∃ j_ : Int,(wrap64 (x9_2 - 1)) = j_:=⟨_,rfl⟩;replace H : (if 0 ≤ (ji10) then (if (ji10) < (x0_2.length : Int) then ((yAT.f ((rd_T25 x0_2 x9_2).f0) ((rd_T25 x0_2 x9_2).f1) ((rd_T25 x0_2 x9_2).f2) ((rd_T25 x0_2 (ji10)).f0) ((rd_T25 x0_2 (ji10)).f1) ((rd_T25 x0_2 (ji10)).f2)).bind fun t103=>(yAB.j2 k2 x0_2 a1 a2 x8_1 x9_2 (decide (t103 < 0)))) else (none)) else (none)) = some r:=by first | (rw [hji10] at H;exact H) | (simp only [hji10] at H ⊢;exact H)
          have hji10w : (IntKind.i64.wrap (x9_2 - 1)) = ji10:=(i64_w _).trans hji10;by_cases c11 : 0 ≤ (ji10)
          ·rw [if_pos c11] at H;have c11b0:=decide_eq_true c11;clear c11;by_cases c12 : (ji10) < (x0_2.length : Int)
           ·rw [if_pos c12] at H;have c12b0:=decide_eq_true c12;clear c12;replace H:=Option.bind_eq_some_iff.mp H;obtain ⟨t103,A130,H⟩:=H;(try dsimp only at H);have A13:=Aside0.mk A130;clear A130;have H' := Aside0.mk H;clear H;try go_wp2
            replace HO_0:=Aside0.mk (Kd.R_drew HO_0.out);replace HK:=Aside0.mk (Kept.drew HK.out);replace HB:=Aside0.mk (below_drew1 HB.out);obtain ⟨Ao15,co15,eo15⟩:=Kd.R_slice HO_0.out
            (first | subst eo15 | (injection eo15 with f1_ f2_ f3_;have f4_:=f1_.symm;have f5_:=f3_.symm;clear f1_ f2_ f3_;subst f4_;subst f5_))
            have p101 : 0 ≤ (x9_2 : Int):=of_decide_eq_true (q4_);have q101 : x9_2 < (x0_2.length : Int):=of_decide_eq_true (q4_);obtain ⟨ad101,e101,hx101_0,hx101_1,hx101_2⟩:=at_T25 (Kd.R_reads' HO_0.out).2.2 x9_2 p101 q101;cases e101;replace p101:=eq_true p101;replace q101:=eq_true q101;have p102 : 0 ≤ ((ji10) : Int):=of_decide_eq_true (q4_);have q102 : (ji10) < (x0_2.length : Int):=of_decide_eq_true (q4_);obtain ⟨ad102,e102,hx102_0,hx102_1,hx102_2⟩:=at_T25 (Kd.R_reads' HO_0.out).2.2 (ji10) p102 q102;obtain rfl : ad101 = ad102:=(by injection e102);replace p102:=eq_true p102;replace q102:=eq_true q102;refine start_ (n:=17) (S:=fun w' => w'.cell? (ad101.add ((x9_2).toNat * 3)) = some (.int .i64 ((rd_T25 x0_2 x9_2).f0)) ∧ w'.cell? ⟨(ad101.add ((x9_2).toNat * 3)).block,(ad101.add ((x9_2).toNat * 3)).off + 1,none⟩ = some (.int .i64 ((rd_T25 x0_2 x9_2).f1)) ∧ w'.cell? ⟨(ad101.add ((x9_2).toNat * 3)).block,(ad101.add ((x9_2).toNat * 3)).off + 2,none⟩ = some (.string ((rd_T25 x0_2 x9_2).f2)) ∧ w'.cell? (ad101.add (((ji10)).toNat * 3)) = some (.int .i64 ((rd_T25 x0_2 (ji10)).f0)) ∧ w'.cell? ⟨(ad101.add (((ji10)).toNat * 3)).block,(ad101.add (((ji10)).toNat * 3)).off + 1,none⟩ = some (.int .i64 ((rd_T25 x0_2 (ji10)).f1)) ∧ w'.cell? ⟨(ad101.add (((ji10)).toNat * 3)).block,(ad101.add (((ji10)).toNat * 3)).off + 2,none⟩ = some (.string ((rd_T25 x0_2 (ji10)).f2))) (ds:=[]) f80_ (by kernel_rfl) rfl rfl ⟨hx101_0,hx101_1,hx101_2,hx102_0,hx102_1,hx102_2⟩ (fun hHeld=>?_);refine with_tabW yAB.tab4 yAB.bits4 (fun HT_ HW_=>?_);generalize wr.drew = w14 at HO_0 HK HB hx101_0 hx101_1 hx101_2 hx102_0 hx102_1 hx102_2 hHeld ⊢;refine pure_ (i:=0) (N:=some 18) (v:=?_) (a' := ?_) f81_ rfl rfl (any_of HT_.out (by kernel_rfl)) (fun _ _ _ h=>h) (Or.inl ⟨by rfl,?_⟩) ?_ ?_;rotate_left
            ·intro w';go_simp;with_reducible rfl
            rotate_left
            ·exact q53_
            refine pa_ 1 19 f82_ ?_
            refine pa_ 2 20 f83_ ?_
            refine pa_ 3 21 f84_ ?_
            refine pa_ 4 22 f85_ ?_
            refine pa_ 5 23 f86_ ?_
            refine pa_ 6 24 f87_ ?_
            refine pa_ 7 25 f88_ ?_
            refine pa_ 9 27 f89_ ?_
            refine pa_ 10 28 f90_ ?_
            refine pa_ 11 29 f91_ ?_
            refine pa_ 12 30 f92_ ?_
            refine take_ (i:=8) (N:=some 26) (v:=?_) (a' := ?_) f93_ rfl rfl (take_ofW HT_.out HW_.out (by kernel_rfl)) (fun _ _ _ h=>h) (Or.inl ⟨by rfl,?_⟩) hHeld ?_ ?_;rotate_left
            ·rintro w' ⟨s0,s1,s2,s3,s4,s5⟩;go_simp;with_reducible rfl
            rotate_left
            ·exact q53_
            refine take_ (i:=13) (N:=some 31) (v:=?_) (a' := ?_) f94_ rfl rfl (take_ofW HT_.out HW_.out (by kernel_rfl)) (fun _ _ _ h=>h) (Or.inl ⟨by rfl,?_⟩) hHeld ?_ ?_;rotate_left
            ·rintro w' ⟨s0,s1,s2,s3,s4,s5⟩;go_simp;with_reducible rfl
            rotate_left
            ·exact q53_
            refine one_ (i:=14) (N:=some 32) f95_ rfl rfl (one_of HT_.out (by kernel_rfl)) (by decide) (fun K hK=>?_);refine MFun.goesV_ Tryz.func64 (by kernel_rfl) rfl #[.agg #[.int .i64 ((rd_T25 x0_2 x9_2).f0),.int .i64 ((rd_T25 x0_2 x9_2).f1),.string ((rd_T25 x0_2 x9_2).f2)],.agg #[.int .i64 ((rd_T25 x0_2 (ji10)).f0),.int .i64 ((rd_T25 x0_2 (ji10)).f1),.string ((rd_T25 x0_2 (ji10)).f2)]] (by rfl) rfl rfl rfl (by (try simp only [List.map_toArray,List.map_cons,List.map_nil]);first | done | (simp only [hji10];rfl) | rfl | (simp only [List.length_drop,List.length_take];rfl)) ?_
            with_reducible refine (yAT.calls ((rd_T25 x0_2 x9_2).f0) ((rd_T25 x0_2 x9_2).f1) ((rd_T25 x0_2 x9_2).f2) ((rd_T25 x0_2 (ji10)).f0) ((rd_T25 x0_2 (ji10)).f1) ((rd_T25 x0_2 (ji10)).f2) t103 _ A13.out).mono ?_
            rintro e w16 ⟨rfl,hb⟩;have HS0_:=(hb.cell (World.block_lt_of_cell? _ _ (hHeld.1))).trans (hHeld.1);have HS1_:=(hb.cell (World.block_lt_of_cell? _ _ (hHeld.2.1))).trans (hHeld.2.1);have HS2_:=(hb.cell (World.block_lt_of_cell? _ _ (hHeld.2.2.1))).trans (hHeld.2.2.1);have HS3_:=(hb.cell (World.block_lt_of_cell? _ _ (hHeld.2.2.2.1))).trans (hHeld.2.2.2.1);have HS4_:=(hb.cell (World.block_lt_of_cell? _ _ (hHeld.2.2.2.2.1))).trans (hHeld.2.2.2.2.1);have HS5_:=(hb.cell (World.block_lt_of_cell? _ _ (hHeld.2.2.2.2.2))).trans (hHeld.2.2.2.2.2);refine ⟨_,rfl,?_⟩;replace HO_0:=rB_ HO_0 hb;replace HK:=Aside0.mk (Kept.below (S:=(fun k_=>P0_ k_)) (q19_) hb);replace HB:=bS_ HB hb
            (try clear hb)
            (try clear hk)
            refine hK.out _ _ ⟨HS0_,HS1_,HS2_,HS3_,HS4_,HS5_⟩ (fun hHeld=>?_);clear hK K;refine norm_ (a' := ?_) ?_ ?_;rotate_left
            ·show Act.put _ (some 32) _ = _;simp only [Act.put,List.setIfInBounds_toArray,List.set_cons_zero,List.set_cons_succ,i64_w,i32_w];rfl
            refine pa_ 15 33 f96_ ?_
            refine pa_ 16 34 f97_ ?_
            refine done_ (done_of HT_.out (by kernel_rfl)) ?_;try go_wp2
            go_meet
            case rel=>exact ⟨_,(decide (t103 < 0)),(q3_),H', ⟨by have:=HK1.out;have:=HK2.out;first | omega | exact Nat.le_refl _⟩,⟨q9_⟩,⟨q19_⟩,⟨q20_⟩⟩
           ·rw [if_neg c12] at H;exact absurd H (q1_)
          ·rw [if_neg c11] at H;exact absurd H (q1_)
         ·rw [if_neg c9] at H;exact absurd H (q1_)
        ·rw [if_neg c8] at H;exact absurd H (q1_)
       ·rw [if_neg c7] at H;have c7b0 : decide (a1 < x9_2) = false:=decide_eq_false c7;clear c7
        (first | rw [c7b0] | (simp only [i64_w,i32_w];rw [c7b0]) | skip)
        have H' := Aside0.mk H;clear H;try go_wp2
        replace HO_0:=Aside0.mk (Kd.R_drew HO_0.out);replace HK:=Aside0.mk (Kept.drew HK.out);replace HB:=Aside0.mk (below_drew1 HB.out);refine start_ (n:=17) (S:=fun w' => True) (ds:=[]) f80_ (by kernel_rfl) rfl rfl trivial (fun hHeld=>?_);refine with_tabW yAB.tab4 yAB.bits4 (fun HT_ HW_=>?_);generalize wr.drew = w17 at HO_0 HK HB hHeld ⊢;refine pure_ (i:=0) (N:=some 18) (v:=?_) (a' := ?_) f81_ rfl rfl (any_of HT_.out (by kernel_rfl)) (fun _ _ _ h=>h) (Or.inl ⟨by rfl,?_⟩) ?_ ?_;rotate_left
        ·intro w';go_simp;with_reducible rfl
        rotate_left
        ·exact q53_
        refine pa_ 1 19 f82_ ?_
        refine pa_ 2 20 f83_ ?_
        refine pa_ 3 21 f84_ ?_
        refine pu_ 4 22 f85_ ?_
        refine pu_ 5 23 f86_ ?_
        refine pu_ 6 24 f87_ ?_
        refine pu_ 7 25 f88_ ?_
        refine pu_ 8 26 f98_ ?_
        refine pu_ 9 27 f99_ ?_
        refine pu_ 10 28 f100_ ?_
        refine pu_ 11 29 f101_ ?_
        refine pu_ 12 30 f93_ ?_
        refine pu_ 13 31 f94_ ?_
        refine pu_ 14 32 f95_ ?_
        refine pu_ 15 33 f96_ ?_
        refine pa_ 16 34 f97_ ?_
        refine done_ (done_of HT_.out (by kernel_rfl)) ?_;try go_wp2
        go_meet
        case rel=>exact ⟨_,(false),(q3_),H', ⟨by have:=HK1.out;have:=HK2.out;first | omega | exact Nat.le_refl _⟩,⟨q9_⟩,⟨q19_⟩,⟨q20_⟩⟩
      case rest =>
       clear HC6;try clear c5
       try clear c5b0
       obtain ⟨kq,x34_5,rfl,HA,HJ5,HO_0,HK,HB⟩:=hcut;cases kq with
       | zero=>exact absurd HA.out (by simp [yAB.j2])
       | succ kj5 =>
        have H:=HA.out;clear HA;simp only [yAB.j2] at H;by_cases c18 : x34_5 = true
        ·subst c18;rw [if_pos rfl] at H;obtain ⟨ji19,hji19⟩ : ∃ j_ : Int,(wrap64 (x9_2 - 1)) = j_:=⟨_,rfl⟩;replace H : (if 0 ≤ (ji19) then (if (ji19) < (x0_2.length : Int) then (if 0 ≤ x9_2 then (if x9_2 < (x0_2.length : Int) then (yAB.l1 kj5 ((x0_2.set (x9_2 : Int).toNat (⟨(rd_T25 x0_2 (ji19)).f0,(rd_T25 x0_2 (ji19)).f1,(rd_T25 x0_2 (ji19)).f2⟩ : S25)).set ((ji19) : Int).toNat (⟨(rd_T25 x0_2 x9_2).f0,(rd_T25 x0_2 x9_2).f1,(rd_T25 x0_2 x9_2).f2⟩ : S25)) a1 a2 x8_1 ji19) else (none)) else (none)) else (none)) else (none)) = some r:=by first | (rw [hji19] at H;exact H) | (simp only [hji19] at H ⊢;exact H)
         have hji19w : (IntKind.i64.wrap (x9_2 - 1)) = ji19:=(i64_w _).trans hji19;by_cases c20 : 0 ≤ (ji19)
         ·rw [if_pos c20] at H;have c20b0:=decide_eq_true c20;clear c20;by_cases c21 : (ji19) < (x0_2.length : Int)
          ·rw [if_pos c21] at H;have c21b0:=decide_eq_true c21;clear c21;by_cases c22 : 0 ≤ x9_2
           ·rw [if_pos c22] at H;have c22b0:=decide_eq_true c22;clear c22;by_cases c23 : x9_2 < (x0_2.length : Int)
            ·rw [if_pos c23] at H;have c23b0:=decide_eq_true c23;clear c23;obtain ⟨y106,hy106⟩ : ∃ y_ : List (S25),y_ = (x0_2.set (x9_2 : Int).toNat (⟨(rd_T25 x0_2 (ji19)).f0,(rd_T25 x0_2 (ji19)).f1,(rd_T25 x0_2 (ji19)).f2⟩ : S25)):=⟨_,rfl⟩;replace H : (yAB.l1 kj5 (y106.set ((ji19) : Int).toNat (⟨(rd_T25 x0_2 x9_2).f0,(rd_T25 x0_2 x9_2).f1,(rd_T25 x0_2 x9_2).f2⟩ : S25)) a1 a2 x8_1 ji19) = some r:=by first | (rw [hy106];with_reducible exact H) | (have H2_:=(Option.bind_some _ _).symm.trans H;rw [hy106];with_reducible exact H2_) | (have H2_:=(Option.bind_some _ _).symm.trans H;with_reducible exact H2_) | with_reducible exact H | (rw [hy106];exact H) | exact H
             have Ny106:=Aside0.mk hy106;clear hy106;obtain ⟨y107,hy107⟩ : ∃ y_ : List (S25),y_ = (y106.set ((ji19) : Int).toNat (⟨(rd_T25 x0_2 x9_2).f0,(rd_T25 x0_2 x9_2).f1,(rd_T25 x0_2 x9_2).f2⟩ : S25)):=⟨_,rfl⟩;replace H : (yAB.l1 kj5 y107 a1 a2 x8_1 ji19) = some r:=by first | (rw [hy107];with_reducible exact H) | (have H2_:=(Option.bind_some _ _).symm.trans H;rw [hy107];with_reducible exact H2_) | (have H2_:=(Option.bind_some _ _).symm.trans H;with_reducible exact H2_) | with_reducible exact H | (rw [hy107];exact H) | exact H
             have Ny107:=Aside0.mk hy107;clear hy107;have H' := Aside0.mk H;clear H;try go_wp2
             replace HO_0:=Aside0.mk (Kd.R_drew HO_0.out);replace HK:=Aside0.mk (Kept.drew HK.out);replace HB:=Aside0.mk (below_drew1 HB.out);obtain ⟨Ao27,co27,eo27⟩:=Kd.R_slice HO_0.out
             (first | subst eo27 | (injection eo27 with f1_ f2_ f3_;have f4_:=f1_.symm;have f5_:=f3_.symm;clear f1_ f2_ f3_;subst f4_;subst f5_))
             have p104 : 0 ≤ ((ji19) : Int):=of_decide_eq_true (q4_);have q104 : (ji19) < (x0_2.length : Int):=of_decide_eq_true (q4_);obtain ⟨ad104,e104,hx104_0,hx104_1,hx104_2⟩:=at_T25 (Kd.R_reads' HO_0.out).2.2 (ji19) p104 q104;cases e104;replace p104:=eq_true p104;replace q104:=eq_true q104;have p105 : 0 ≤ (x9_2 : Int):=of_decide_eq_true (q4_);have q105 : x9_2 < (x0_2.length : Int):=of_decide_eq_true (q4_);obtain ⟨ad105,e105,hx105_0,hx105_1,hx105_2⟩:=at_T25 (Kd.R_reads' HO_0.out).2.2 x9_2 p105 q105;obtain rfl : ad104 = ad105:=(by injection e105);replace p105:=eq_true p105;replace q105:=eq_true q105;have p24 : 0 ≤ (x9_2 : Int):=of_decide_eq_true (q4_);have q24 : (x9_2 : Int) < ((x0_2.length : Int) : Int):=of_decide_eq_true (q4_);obtain ⟨go24,co24,eo24,gb24,gl24,cl24,HG24⟩:=Kd.R_form HO_0.out (by omega)
             (first | cases eo24 | (injection eo24 with ea_ en_ ec_;(first | subst ea_ | (injection ea_ with ea_;subst ea_));subst ec_;clear en_))
             have GB24:=Aside0.mk gb24;have GG24:=Aside0.mk HG24;clear gb24 gl24 HG24;have HMgo24:=Aside0.mk (show (P0_ go24 ∨ w.heap.size ≤ go24) from (HO_0.out.1 _ rfl))
             (first | simp only [add_plain] at hx104_0 | skip)
             (first | simp only [add_plain] at hx104_1 | skip)
             (first | simp only [add_plain] at hx104_2 | skip)
             (first | simp only [add_plain] at hx105_0 | skip)
             (first | simp only [add_plain] at hx105_1 | skip)
             (first | simp only [add_plain] at hx105_2 | skip)
             obtain ⟨ce24,hcl24,hM24,hcc24,hfr24⟩:=Kd.R_elem HO_0.out z25 (x9_2 : Int) p24 q24;obtain rfl:=k25_openM hM24;have hx24_0 : World.cell? _ ⟨go24,(x9_2 : Int).toNat * 3,none⟩ = some (.int .i64 ((rd_T25 x0_2 x9_2).f0)):=hcc24 0 _ rfl;have hx24_1 : World.cell? _ ⟨go24,(x9_2 : Int).toNat * 3 + 1,none⟩ = some (.int .i64 ((rd_T25 x0_2 x9_2).f1)):=hcc24 1 _ rfl;have hx24_2 : World.cell? _ ⟨go24,(x9_2 : Int).toNat * 3 + 2,none⟩ = some (.string ((rd_T25 x0_2 x9_2).f2)):=hcc24 2 _ rfl;have hf24_0 : World.frozen? _ ⟨go24,(x9_2 : Int).toNat * 3,none⟩ = false:=hfr24 0;have hf24_1 : World.frozen? _ ⟨go24,(x9_2 : Int).toNat * 3 + 1,none⟩ = false:=hfr24 1;have hf24_2 : World.frozen? _ ⟨go24,(x9_2 : Int).toNat * 3 + 2,none⟩ = false:=hfr24 2;clear hcl24 hcc24 hfr24 hM24;replace p24:=eq_true p24;replace q24:=eq_true q24;obtain ⟨ce28,hcl28,hM28,hcc28,hfr28⟩:=Kd.R_elem HO_0.out z25 (x9_2 : Int) (of_decide_eq_true (q4_)) (by have h_ : (x9_2 : Int) < ((x0_2.length : Int) : Int):=of_decide_eq_true (q4_);first | exact h_ | (have e_:=(Kd.R_reads' HO_0.out).1;omega) | simpa using h_);obtain rfl:=k25_openM hM28;have HP28:=(Kd.R_seg HO_0.out (x9_2 : Int) (of_decide_eq_true (q4_)) (by have h_ : (x9_2 : Int) < ((x0_2.length : Int) : Int):=of_decide_eq_true (q4_);first | exact h_ | (have e_:=(Kd.R_reads' HO_0.out).1;omega) | simpa using h_) (seg:=[.int .i64 ((rd_T25 x0_2 (ji19)).f0),.int .i64 ((rd_T25 x0_2 (ji19)).f1),.string ((rd_T25 x0_2 (ji19)).f2)]) (j:=0) hcl28 hcc28 (show 3 ≤ 3 from by decide) (x' := (⟨(rd_T25 x0_2 (ji19)).f0,(rd_T25 x0_2 (ji19)).f1,(rd_T25 x0_2 (ji19)).f2⟩ : S25)) (k25_mkM _ _ _ (⟨(rd_T25 x0_2 (ji19)).f0,(rd_T25 x0_2 (ji19)).f1,(rd_T25 x0_2 (ji19)).f2⟩ : S25) ) (fun _ hk=>hk)).1;rw [← Ny106.out] at HP28;have HQ28:=Aside0.mk HP28;clear hcl28 hcc28 hfr28 hM28 HP28;have p25 : 0 ≤ ((ji19) : Int):=of_decide_eq_true (q4_);have q25 : ((ji19) : Int) < ((x0_2.length : Int) : Int):=of_decide_eq_true (q4_);obtain ⟨ce25,hcl25,hM25,hcc25,hfr25⟩:=Kd.R_elem HQ28.out z25 ((ji19) : Int) p25 q25;obtain rfl:=k25_openM hM25;have hx25_0 : World.cell? _ ⟨go24,((ji19) : Int).toNat * 3,none⟩ = some (.int .i64 ((rd_T25 y106 (ji19)).f0)):=hcc25 0 _ rfl;have hx25_1 : World.cell? _ ⟨go24,((ji19) : Int).toNat * 3 + 1,none⟩ = some (.int .i64 ((rd_T25 y106 (ji19)).f1)):=hcc25 1 _ rfl;have hx25_2 : World.cell? _ ⟨go24,((ji19) : Int).toNat * 3 + 2,none⟩ = some (.string ((rd_T25 y106 (ji19)).f2)):=hcc25 2 _ rfl;have hf25_0 : World.frozen? _ ⟨go24,((ji19) : Int).toNat * 3,none⟩ = false:=hfr25 0;have hf25_1 : World.frozen? _ ⟨go24,((ji19) : Int).toNat * 3 + 1,none⟩ = false:=hfr25 1;have hf25_2 : World.frozen? _ ⟨go24,((ji19) : Int).toNat * 3 + 2,none⟩ = false:=hfr25 2;clear hcl25 hcc25 hfr25 hM25;replace p25:=eq_true p25;replace q25:=eq_true q25;obtain ⟨ce29,hcl29,hM29,hcc29,hfr29⟩:=Kd.R_elem HQ28.out z25 ((ji19) : Int) (of_decide_eq_true (q4_)) (by have h_ : ((ji19) : Int) < ((x0_2.length : Int) : Int):=of_decide_eq_true (q4_);first | exact h_ | (have e_:=(Kd.R_reads' HO_0.out).1;omega) | simpa using h_);obtain rfl:=k25_openM hM29;have HP29:=(Kd.R_seg HQ28.out ((ji19) : Int) (of_decide_eq_true (q4_)) (by have h_ : ((ji19) : Int) < ((x0_2.length : Int) : Int):=of_decide_eq_true (q4_);first | exact h_ | (have e_:=(Kd.R_reads' HO_0.out).1;omega) | simpa using h_) (seg:=[.int .i64 ((rd_T25 x0_2 x9_2).f0),.int .i64 ((rd_T25 x0_2 x9_2).f1),.string ((rd_T25 x0_2 x9_2).f2)]) (j:=0) hcl29 hcc29 (show 3 ≤ 3 from by decide) (x' := (⟨(rd_T25 x0_2 x9_2).f0,(rd_T25 x0_2 x9_2).f1,(rd_T25 x0_2 x9_2).f2⟩ : S25)) (k25_mkM _ _ _ (⟨(rd_T25 x0_2 x9_2).f0,(rd_T25 x0_2 x9_2).f1,(rd_T25 x0_2 x9_2).f2⟩ : S25) ) (fun _ hk=>hk)).1;rw [← Ny107.out] at HP29;have HQ29:=Aside0.mk HP29;clear hcl29 hcc29 hfr29 hM29 HP29;refine start_ (n:=18) (S:=fun w' => w'.cell? ⟨go24,((ji19)).toNat * 3,none⟩ = some (.int .i64 ((rd_T25 x0_2 (ji19)).f0)) ∧ w'.cell? ⟨go24,((ji19)).toNat * 3 + 1,none⟩ = some (.int .i64 ((rd_T25 x0_2 (ji19)).f1)) ∧ w'.cell? ⟨go24,((ji19)).toNat * 3 + 2,none⟩ = some (.string ((rd_T25 x0_2 (ji19)).f2)) ∧ w'.cell? ⟨go24,((x9_2).toNat * 3),none⟩ = some (.int .i64 ((rd_T25 x0_2 x9_2).f0)) ∧ w'.cell? ⟨go24,((x9_2).toNat * 3) + 1,none⟩ = some (.int .i64 ((rd_T25 x0_2 x9_2).f1)) ∧ w'.cell? ⟨go24,((x9_2).toNat * 3) + 2,none⟩ = some (.string ((rd_T25 x0_2 x9_2).f2))) (ds:=[15,17]) f17_ (by kernel_rfl) rfl rfl ⟨hx104_0,hx104_1,hx104_2,hx105_0,hx105_1,hx105_2⟩ (fun hHeld=>?_);refine with_tabW yAB.tab6 yAB.bits6 (fun HT_ HW_=>?_);generalize wc.drew = w26 at HO_0 HK HB GG24 HQ28 HQ29 hf24_0 hf24_1 hf24_2 hf25_0 hf25_1 hf25_2 hx104_0 hx104_1 hx104_2 hx105_0 hx105_1 hx105_2 hx24_0 hx24_1 hx24_2 hx25_0 hx25_1 hx25_2 hHeld ⊢
             (try simp only [World.setCells,Nat.add_zero,Nat.add_assoc,Nat.reduceAdd,show (k25).sz = 3 from rfl] at hx24_0)
             (try simp only [World.setCells,Nat.add_zero,Nat.add_assoc,Nat.reduceAdd,show (k25).sz = 3 from rfl] at hx24_1)
             (try simp only [World.setCells,Nat.add_zero,Nat.add_assoc,Nat.reduceAdd,show (k25).sz = 3 from rfl] at hx24_2)
             (try simp only [World.setCells,Nat.add_zero,Nat.add_assoc,Nat.reduceAdd,show (k25).sz = 3 from rfl] at hf24_0)
             (try simp only [World.setCells,Nat.add_zero,Nat.add_assoc,Nat.reduceAdd,show (k25).sz = 3 from rfl] at hf24_1)
             (try simp only [World.setCells,Nat.add_zero,Nat.add_assoc,Nat.reduceAdd,show (k25).sz = 3 from rfl] at hf24_2)
             (try simp only [World.setCells,Nat.add_zero,Nat.add_assoc,Nat.reduceAdd,show (k25).sz = 3 from rfl] at hx25_0)
             (try simp only [World.setCells,Nat.add_zero,Nat.add_assoc,Nat.reduceAdd,show (k25).sz = 3 from rfl] at hx25_1)
             (try simp only [World.setCells,Nat.add_zero,Nat.add_assoc,Nat.reduceAdd,show (k25).sz = 3 from rfl] at hx25_2)
             (try simp only [World.setCells,Nat.add_zero,Nat.add_assoc,Nat.reduceAdd,show (k25).sz = 3 from rfl] at hf25_0)
             (try simp only [World.setCells,Nat.add_zero,Nat.add_assoc,Nat.reduceAdd,show (k25).sz = 3 from rfl] at hf25_1)
             (try simp only [World.setCells,Nat.add_zero,Nat.add_assoc,Nat.reduceAdd,show (k25).sz = 3 from rfl] at hf25_2)
             refine pa_ 0 37 f18_ ?_
             refine pa_ 1 38 f19_ ?_
             refine pa_ 2 39 f20_ ?_
             refine pa_ 3 40 f21_ ?_
             refine pa_ 4 41 f22_ ?_
             refine pa_ 5 42 f23_ ?_
             refine pa_ 6 43 f24_ ?_
             refine pa_ 7 44 f25_ ?_
             refine pa_ 8 45 f26_ ?_
             refine pa_ 10 47 f49_ ?_
             refine pa_ 11 48 f50_ ?_
             refine pa_ 12 49 f51_ ?_
             refine take_ (i:=9) (N:=some 46) (v:=?_) (a' := ?_) f36_ rfl rfl (take_ofW HT_.out HW_.out (by kernel_rfl)) (fun _ _ _ h=>h) (Or.inl ⟨by rfl,?_⟩) hHeld ?_ ?_;rotate_left
             ·rintro w' ⟨s0,s1,s2,s3,s4,s5⟩;go_simp;with_reducible rfl
             rotate_left
             ·exact q53_
             refine take_ (i:=13) (N:=some 50) (v:=?_) (a' := ?_) f31_ rfl rfl (take_ofW HT_.out HW_.out (by kernel_rfl)) (fun _ _ _ h=>h) (Or.inl ⟨by rfl,?_⟩) hHeld ?_ ?_;rotate_left
             ·rintro w' ⟨s0,s1,s2,s3,s4,s5⟩;go_simp;with_reducible rfl
             rotate_left
             ·exact q53_
             refine pa_ 14 51 f32_ ?_
             refine last_ (i:=15) (N:=none) f33_ rfl rfl (one_of HT_.out (by kernel_rfl)) (by decide) (fun K hK=>?_);refine skip_ (w1:=?_) (by rfl) rfl ?_ ?_;rotate_left
             ·go_simp;rfl
             refine hK.out _ _ ?_;clear hK K;refine pure_ (i:=16) (N:=some 52) (v:=?_) (a' := ?_) f34_ rfl rfl (any_of HT_.out (by kernel_rfl)) (fun _ _ _ h=>h) (Or.inl ⟨by rfl,?_⟩) ?_ ?_;rotate_left
             ·intro w';go_simp;with_reducible rfl
             rotate_left
             ·exact q53_
             refine last_ (i:=17) (N:=none) f35_ rfl rfl (one_of HT_.out (by kernel_rfl)) (by decide) (fun K hK=>?_);refine skip_ (w1:=?_) (by rfl) rfl ?_ ?_;rotate_left
             ·go_simp;rfl
             refine hK.out _ _ ?_;clear hK K;refine done_ (done_of HT_.out (by kernel_rfl)) ?_;try go_wp2
             go_roundg kj5
             case measure=>have:=HK1.out;have:=HK2.out;have:=HJ5.out;omega
             case rel=>exact ⟨(y107),(ji19),(by first | rfl | (simp;done) | (simp only [← hji19] <;> (first | rfl | simp)) | (simp [*];done)),H', ⟨by have:=HK1.out;have:=HK2.out;have:=HJ5.out;omega⟩,⟨by (with_reducible repeat (first | apply Kd.R_alloc | apply Kd.R_drewN | apply Kd.R_drew));exact HQ29.out⟩,⟨by repeat (first | (with_reducible first | exact HK.out | apply Kept.alloc | apply Kept.drewN | apply Kept.drew | refine Kept.setCell ?_ HMgo24.out _ | refine Kept.setCell ?_ HMgo24.out _ | refine Kept.setCell ?_ HMgo24.out _ | refine Kept.setCell ?_ HMgo24.out _ | refine Kept.setCell ?_ HMgo24.out _ | refine Kept.setCell ?_ HMgo24.out _) | exact HK.out)⟩,⟨by repeat (first | (with_reducible first | exact HB.out | apply below_alloc | apply pw_below_drewN | apply below_drew1 | refine below_set ?_ GB24.out | refine below_set ?_ GB24.out | refine below_set ?_ GB24.out | refine below_set ?_ GB24.out | refine below_set ?_ GB24.out | refine below_set ?_ GB24.out) | exact HB.out)⟩⟩
            ·rw [if_neg c23] at H;exact absurd H (q1_)
           ·rw [if_neg c22] at H;exact absurd H (q1_)
          ·rw [if_neg c21] at H;exact absurd H (q1_)
         ·rw [if_neg c20] at H;exact absurd H (q1_)
        ·replace c18:=Bool.eq_false_iff.mpr c18;subst c18;rw [if_neg (show ¬ (false = true) by decide)] at H;have H' := Aside0.mk H;clear H;go_wp2;go_roundg kj5
         case measure=>have:=HK1.out;have:=HK2.out;have:=HJ5.out;omega
         case rel=>exact ⟨(x0_2),(wrap64 (x8_1 + 1)),(q3_),H', ⟨by have:=HK1.out;have:=HK2.out;have:=HJ5.out;omega⟩,⟨q9_⟩,⟨q19_⟩,⟨q20_⟩⟩
   ·rw [if_neg c5] at H;have c5b0:=decide_eq_false c5;clear c5;obtain rfl:=Option.some.inj H;go_wp2;first | go_end0 | ((try simp only [Exit.inBlock,Exit.then]);refine bodyPost_ret (results_none rfl _ _ _) rfl ?_)
    exact ⟨q6_,q9_,q20_,q19_⟩
end Go.Proofs.YtglcpghappepaaaGreatDoor.G
