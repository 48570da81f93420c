-- Written by this session's own program over the kit's print (wip/tools/myprint.py); Lean checks it.
import Derived.Test.YtglcpghappepaaaGreatDoorMBase
import Derived.Test.YtglcpghappepaaaGreatDoorG0
import Derived.Test.YtglcpghappepaaaGreatDoorG2
namespace Go.Proofs.YtglcpghappepaaaGreatDoor.G
open Go.RowKit Go.Proofs.YtglcpghappepaaaGreatDoorW.PrintWords Go.Proofs.YtglcpghappepaaaGreatDoorW.PrintLast Go.Proofs.YtglcpghappepaaaGreatDoorW.PrintMore
attribute [local go_sem] max2_int min2_int max_two min_two max_three min_three max_four min_four str_geq str_gtr str_leq   -- for this text's walks alone
set_option linter.unusedVariables false
set_option linter.unusedSimpArgs false
/-! ### yAJ: function 28 -/
def yAJ.l0 : Nat → List (S25) → List (S25) → Int → Int → Option (Bool)
 | 0,_,_,_,_=>none
 | k + 1,x0,x5,x6,x7=>if x7 < x6 then (if 0 ≤ x7 then (if x7 < (x5.length : Int) then ((yA2.f k ((rd_T25 x5 x7).f0) ((rd_T25 x5 x7).f1) ((rd_T25 x5 x7).f2)).bind fun t103=>(if t103 = true then (if x7 > 0 then (if 0 ≤ (wrap64 (x7 - 1)) then (if (wrap64 (x7 - 1)) < (x0.length : Int) then (if ((rd_T25 x0 (wrap64 (x7 - 1))).f1) > ((rd_T25 x5 x7).f0) then (some false) else (yAJ.l0 k x0 x5 x6 (wrap64 (x7 + 1)))) else (none)) else (none)) else (yAJ.l0 k x0 x5 x6 (wrap64 (x7 + 1)))) else (some false))) else (none)) else (none)) else (some (decide ((x0.length : Int) ≤ 40)))
def yAJ.f (k : Nat) (l0 : List (S25)) : Option (Bool):=yAJ.l0 k l0 l0 (l0.length : Int) 0
def yAJ.T4 : Bool × List (List Nat × List Nat):=(true,[([],[]),([0],[0]),([1],[1]),([2,1],[2]),([3],[3]),([4,3],[3,4]),([5,3,3],[3,5]),([6],[6]),([6],[6]),([8,6],[6,8]),([7,9,6],[6,7,9]),([10,6],[6,10]),([11,6],[6,11]),([6],[6]),([13,6],[6,13]),([12,14,6],[6,12,14]),([6,15,3],[3,6,15]),([3,16],[3,16])])
def yAJ.B4 : List Nat:=[0,1,3,7,15,31,63,127,127,383,1023,2047,4095,127,8319,32767,65535,131071]
theorem yAJ.tab4 : rtab .any (opsOf Tryz.f28 4) = yAJ.T4:=by kernel_rfl
theorem yAJ.bits4 : waitsOk yAJ.T4.2 yAJ.B4 = true:=by kernel_rfl
set_option maxHeartbeats 8000000 in
set_option maxRecDepth 100000 in
theorem yAJ.calls (k : Nat) (A0 : Option Addr) (c0 : Nat) (l0 : List (S25)) (r : Bool) (w : World) (hr0 : Kd.C k25 w A0 l0.length l0) (hc0 : l0.length ≤ c0) (h : yAJ.f k l0 = some r) :
  Calls Tryz.prog 28 #[.slice A0 l0.length c0] w fun e w' => e = .returned (.bool r) ∧ Below w.heap.size w w' := by
 have hu25:=Tryz.underlying25;have HR0:=Aside0.mk hr0;have HC0:=Aside0.mk hc0;clear hr0 hc0;have HB:=Aside0.mk (Below.refl w.heap.size w);have H : (yAJ.l0 k l0 l0 (l0.length : Int) 0) = some r:=h;clear h;have H' := Aside0.mk H;clear H;go_enter Tryz.func28,Tryz.ntmps28
 go_wp2;go_loopg [7] k (fun kq v7 w' => ∃ (x7_1 : Int),v7 = .int .i64 x7_1 ∧ Aside0 (yAJ.l0 kq l0 l0 (l0.length : Int) x7_1 = some r) ∧ Aside0 (kq ≤ k) ∧ Aside0 (Below w.heap.size w w'))
 case atStart=>exact ⟨(0),(q3_),H', ⟨Nat.le_refl _⟩,⟨q20_⟩⟩
 case round =>
  clear H';obtain ⟨x7_1,rfl,HA,HK1,HB⟩:=hrel;cases gk with
  | zero=>exact absurd HA.out (by simp [yAJ.l0])
  | succ k1 =>
   have H:=HA.out;clear HA;simp only [yAJ.l0] at H;by_cases c2 : x7_1 < (l0.length : Int)
   ·rw [if_pos c2] at H;have c2b0:=decide_eq_true c2;clear c2;by_cases c3 : 0 ≤ x7_1
    ·rw [if_pos c3] at H;have c3b0:=decide_eq_true c3;clear c3;by_cases c4 : x7_1 < (l0.length : Int)
     ·rw [if_pos c4] at H;have c4b0:=decide_eq_true c4;clear c4;replace H:=Option.bind_eq_some_iff.mp H;obtain ⟨t103,A50,H⟩:=H;(try dsimp only at H);have A5:=Aside0.mk A50;clear A50;by_cases c6 : t103 = true
      ·subst c6;rw [if_pos rfl] at H;by_cases c7 : x7_1 > 0
       ·rw [if_pos c7] at H;have c7b0 : decide (0 < x7_1) = true:=decide_eq_true c7;clear c7;obtain ⟨ji8,hji8⟩ : ∃ j_ : Int,(wrap64 (x7_1 - 1)) = j_:=⟨_,rfl⟩;replace H : (if 0 ≤ (ji8) then (if (ji8) < (l0.length : Int) then (if ((rd_T25 l0 (ji8)).f1) > ((rd_T25 l0 x7_1).f0) then (some false) else (yAJ.l0 k1 l0 l0 (l0.length : Int) (wrap64 (x7_1 + 1)))) else (none)) else (none)) = some r:=by first | (rw [hji8] at H;exact H) | (simp only [hji8] at H ⊢;exact H)
        (try rw [hji8] at A5)
        have hji8w : (IntKind.i64.wrap (x7_1 - 1)) = ji8:=(i64_w _).trans hji8;by_cases c9 : 0 ≤ (ji8)
        ·rw [if_pos c9] at H;have c9b0:=decide_eq_true c9;clear c9;by_cases c10 : (ji8) < (l0.length : Int)
         ·rw [if_pos c10] at H;have c10b0:=decide_eq_true c10;clear c10;by_cases c11 : ((rd_T25 l0 (ji8)).f1) > ((rd_T25 l0 x7_1).f0)
          ·rw [if_pos c11] at H;have c11b0 : decide (((rd_T25 l0 x7_1).f0) < ((rd_T25 l0 (ji8)).f1)) = true:=decide_eq_true c11;clear c11;obtain rfl:=Option.some.inj H;have p101 : 0 ≤ (x7_1 : Int):=of_decide_eq_true (q4_);have q101 : x7_1 < (l0.length : Int):=of_decide_eq_true (q4_);obtain ⟨ad101,e101,hx101_0,hx101_1,hx101_2⟩:=at_T25 HR0.out x7_1 p101 q101;cases e101;replace hx101_0:=hB_ HB.out hx101_0;replace hx101_1:=hB_ HB.out hx101_1;replace hx101_2:=hB_ HB.out hx101_2;replace p101:=eq_true p101;replace q101:=eq_true q101;try go_wp2_with (first | ((with_reducible refine gate_dst (N:=4) rfl ?_);refine box_event ?hg (N:=4) ?hd (cs:=#[.int .i64 0,.int .i64 0,.string (⟨#[]⟩ : ByteArray)]) (t:=25) ?hr ?_;(case hd=>rfl);(case hg=>rfl);(case hr=>first | (go_simp;done) | (go_simp;rfl));intro gb102 hg w12 hbox hb;have BK102:=Aside0.mk (hbox);have GW102:=Aside0.mk ((q49_ : w.heap.size ≤ gb102));have GE102:=Aside0.mk ((q49_ : w.heap.size ≤ gb102));replace HB:=bS_ HB hb;clear hb hbox hg;obtain ⟨hcz13_0,hcz13_1,hcz13_2,hfz13_0,hfz13_1,hfz13_2⟩:=bx3_ BK102.out))
           have n0_ : Aside0 ((((w12.setCell ⟨gb102,0,none⟩ (.int .i64 ((rd_T25 l0 x7_1).f0))).setCell ⟨gb102,1,none⟩ (.int .i64 ((rd_T25 l0 x7_1).f1))).setCell ⟨gb102,2,none⟩ (.string ((rd_T25 l0 x7_1).f2))).heap[gb102]? = some (.cells #[.int .i64 ((rd_T25 l0 x7_1).f0),.int .i64 ((rd_T25 l0 x7_1).f1),.string ((rd_T25 l0 x7_1).f2)] 25 (0,0))):=⟨q48_⟩;have n1_ : Aside0 (Below w.heap.size w (((w12.setCell ⟨gb102,0,none⟩ (.int .i64 ((rd_T25 l0 x7_1).f0))).setCell ⟨gb102,1,none⟩ (.int .i64 ((rd_T25 l0 x7_1).f1))).setCell ⟨gb102,2,none⟩ (.string ((rd_T25 l0 x7_1).f2)))):=⟨q24_⟩
           (try clear BK102)
           (try clear HB)
           generalize (((w12.setCell ⟨gb102,0,none⟩ (.int .i64 ((rd_T25 l0 x7_1).f0))).setCell ⟨gb102,1,none⟩ (.int .i64 ((rd_T25 l0 x7_1).f1))).setCell ⟨gb102,2,none⟩ (.string ((rd_T25 l0 x7_1).f2))) = w14 at n0_ n1_ ⊢;have BK102:=n0_;have HB:=n1_;clear n0_ n1_;replace BK102:=Aside0.mk (blk_drew BK102.out);replace HB:=Aside0.mk (below_drew1 HB.out);have p104 : 0 ≤ ((ji8) : Int):=of_decide_eq_true (q4_);have q104 : (ji8) < (l0.length : Int):=of_decide_eq_true (q4_);obtain ⟨ad104,e104,hx104_0,hx104_1,hx104_2⟩:=at_T25 HR0.out (ji8) p104 q104;have hw104_2:=hx104_2;have hw104_1:=hx104_1;have hw104_0:=hx104_0;obtain rfl : ad101 = ad104:=(by injection e104);replace hx104_0:=hB_ HB.out hx104_0;replace hx104_1:=hB_ HB.out hx104_1;replace hx104_2:=hB_ HB.out hx104_2;replace p104:=eq_true p104;replace q104:=eq_true q104;refine start_ (n:=18) (S:=fun w' => w'.cell? ⟨gb102,0,none⟩ = some (.int .i64 ((rd_T25 l0 x7_1).f0)) ∧ w'.cell? ⟨gb102,1,none⟩ = some (.int .i64 ((rd_T25 l0 x7_1).f1)) ∧ w'.cell? ⟨gb102,2,none⟩ = some (.string ((rd_T25 l0 x7_1).f2)) ∧ w'.cell? (ad101.add (((ji8)).toNat * 3)) = some (.int .i64 ((rd_T25 l0 (ji8)).f0)) ∧ w'.cell? ⟨(ad101.add (((ji8)).toNat * 3)).block,(ad101.add (((ji8)).toNat * 3)).off + 1,none⟩ = some (.int .i64 ((rd_T25 l0 (ji8)).f1)) ∧ w'.cell? ⟨(ad101.add (((ji8)).toNat * 3)).block,(ad101.add (((ji8)).toNat * 3)).off + 2,none⟩ = some (.string ((rd_T25 l0 (ji8)).f2))) (ds:=[]) f17_ (by kernel_rfl) rfl rfl ⟨(blk_cell BK102.out 0).trans rfl,(blk_cell BK102.out 1).trans rfl,(blk_cell BK102.out 2).trans rfl,((HB.out.cell (World.block_lt_of_cell? w _ hw104_0)).trans hw104_0),((HB.out.cell (World.block_lt_of_cell? w _ hw104_1)).trans hw104_1),((HB.out.cell (World.block_lt_of_cell? w _ hw104_2)).trans hw104_2)⟩ (fun hHeld=>?_);refine with_tabW yAJ.tab4 yAJ.bits4 (fun HT_ HW_=>?_);generalize w14.drew = w15 at BK102 HB hx104_0 hx104_1 hx104_2 hHeld ⊢;refine take_ (i:=0) (N:=some 12) (v:=?_) (a' := ?_) f18_ rfl rfl (take_ofW HT_.out HW_.out (by kernel_rfl)) (fun _ _ _ h=>h) (Or.inl ⟨by rfl,?_⟩) hHeld ?_ ?_;rotate_left
           ·rintro w' ⟨s0,s1,s2,s3,s4,s5⟩;go_simp;with_reducible rfl
           rotate_left
           ·exact q53_
           refine one_ (i:=1) (N:=some 13) f19_ rfl rfl (one_of HT_.out (by kernel_rfl)) (by decide) (fun K hK=>?_);refine goes_ Tryz.func34 (by kernel_rfl) rfl #[.agg #[.int .i64 ((rd_T25 l0 x7_1).f0),.int .i64 ((rd_T25 l0 x7_1).f1),.string ((rd_T25 l0 x7_1).f2)]] (by rfl) rfl rfl (q21_) ?_
           with_reducible refine (yA2.calls k1 ((rd_T25 l0 x7_1).f0) ((rd_T25 l0 x7_1).f1) ((rd_T25 l0 x7_1).f2) true _ A5.out).mono ?_
           rintro e w16 ⟨rfl,hb⟩;refine ⟨_,rfl,?_⟩;replace BK102:=bkB_ BK102 hb;replace HB:=Aside0.mk (below_step (q24_) hb)
           (try clear hb)
           refine hK.out _ _ ⟨(blk_cell BK102.out 0).trans rfl,(blk_cell BK102.out 1).trans rfl,(blk_cell BK102.out 2).trans rfl,((HB.out.cell (World.block_lt_of_cell? w _ hw104_0)).trans hw104_0),((HB.out.cell (World.block_lt_of_cell? w _ hw104_1)).trans hw104_1),((HB.out.cell (World.block_lt_of_cell? w _ hw104_2)).trans hw104_2)⟩ (fun hHeld=>?_);clear hK K;refine norm_ (a' := ?_) ?_ ?_;rotate_left
           ·show Act.put _ (some 13) _ = _;simp only [Act.put,List.setIfInBounds_toArray,List.set_cons_zero,List.set_cons_succ,i64_w,i32_w];rfl
           refine pa_ 2 14 f20_ ?_
           refine pa_ 3 15 f21_ ?_
           refine pa_ 4 16 f22_ ?_
           refine pa_ 5 17 f23_ ?_
           refine pa_ 6 18 f24_ ?_
           refine pa_ 7 19 f25_ ?_
           refine pa_ 8 20 f26_ ?_
           refine pa_ 9 21 f27_ ?_
           refine pa_ 10 22 f28_ ?_
           refine pa_ 11 23 f29_ ?_
           refine pa_ 13 25 f30_ ?_
           refine take_ (i:=12) (N:=some 24) (v:=?_) (a' := ?_) f31_ rfl rfl (take_ofW HT_.out HW_.out (by kernel_rfl)) (fun _ _ _ h=>h) (Or.inl ⟨by rfl,?_⟩) hHeld ?_ ?_;rotate_left
           ·rintro w' ⟨s0,s1,s2,s3,s4,s5⟩;go_simp;with_reducible rfl
           rotate_left
           ·exact q53_
           refine take_ (i:=14) (N:=some 26) (v:=?_) (a' := ?_) f32_ rfl rfl (take_ofW HT_.out HW_.out (by kernel_rfl)) (fun _ _ _ h=>h) (Or.inl ⟨by rfl,?_⟩) hHeld ?_ ?_;rotate_left
           ·rintro w' ⟨s0,s1,s2,s3,s4,s5⟩;go_simp;with_reducible rfl
           rotate_left
           ·exact q53_
           refine pa_ 15 27 f33_ ?_
           refine pa_ 16 28 f34_ ?_
           refine pa_ 17 29 f35_ ?_
           refine done_ (done_of HT_.out (by kernel_rfl)) ?_;try go_wp2
           go_ret;exact ⟨by first | rfl | (simp [errW_none,errW_some] <;> rfl) | (simp only [← hji8];first | rfl | (simp [errW_none,errW_some] <;> rfl)) | (simp [*,errW_none,errW_some] <;> rfl),q24_⟩
          ·rw [if_neg c11] at H;have c11b0 : decide (((rd_T25 l0 x7_1).f0) < ((rd_T25 l0 (ji8)).f1)) = false:=decide_eq_false c11;clear c11;have H' := Aside0.mk H;clear H;have p101 : 0 ≤ (x7_1 : Int):=of_decide_eq_true (q4_);have q101 : x7_1 < (l0.length : Int):=of_decide_eq_true (q4_);obtain ⟨ad101,e101,hx101_0,hx101_1,hx101_2⟩:=at_T25 HR0.out x7_1 p101 q101;cases e101;replace hx101_0:=hB_ HB.out hx101_0;replace hx101_1:=hB_ HB.out hx101_1;replace hx101_2:=hB_ HB.out hx101_2;replace p101:=eq_true p101;replace q101:=eq_true q101;try go_wp2_with (first | ((with_reducible refine gate_dst (N:=4) rfl ?_);refine box_event ?hg (N:=4) ?hd (cs:=#[.int .i64 0,.int .i64 0,.string (⟨#[]⟩ : ByteArray)]) (t:=25) ?hr ?_;(case hd=>rfl);(case hg=>rfl);(case hr=>first | (go_simp;done) | (go_simp;rfl));intro gb102 hg w17 hbox hb;have BK102:=Aside0.mk (hbox);have GW102:=Aside0.mk ((q49_ : w.heap.size ≤ gb102));have GE102:=Aside0.mk ((q49_ : w.heap.size ≤ gb102));replace HB:=bS_ HB hb;clear hb hbox hg;obtain ⟨hcz18_0,hcz18_1,hcz18_2,hfz18_0,hfz18_1,hfz18_2⟩:=bx3_ BK102.out))
           have n0_ : Aside0 ((((w17.setCell ⟨gb102,0,none⟩ (.int .i64 ((rd_T25 l0 x7_1).f0))).setCell ⟨gb102,1,none⟩ (.int .i64 ((rd_T25 l0 x7_1).f1))).setCell ⟨gb102,2,none⟩ (.string ((rd_T25 l0 x7_1).f2))).heap[gb102]? = some (.cells #[.int .i64 ((rd_T25 l0 x7_1).f0),.int .i64 ((rd_T25 l0 x7_1).f1),.string ((rd_T25 l0 x7_1).f2)] 25 (0,0))):=⟨q48_⟩;have n1_ : Aside0 (Below w.heap.size w (((w17.setCell ⟨gb102,0,none⟩ (.int .i64 ((rd_T25 l0 x7_1).f0))).setCell ⟨gb102,1,none⟩ (.int .i64 ((rd_T25 l0 x7_1).f1))).setCell ⟨gb102,2,none⟩ (.string ((rd_T25 l0 x7_1).f2)))):=⟨q24_⟩
           (try clear BK102)
           (try clear HB)
           generalize (((w17.setCell ⟨gb102,0,none⟩ (.int .i64 ((rd_T25 l0 x7_1).f0))).setCell ⟨gb102,1,none⟩ (.int .i64 ((rd_T25 l0 x7_1).f1))).setCell ⟨gb102,2,none⟩ (.string ((rd_T25 l0 x7_1).f2))) = w19 at n0_ n1_ ⊢;have BK102:=n0_;have HB:=n1_;clear n0_ n1_;replace BK102:=Aside0.mk (blk_drew BK102.out);replace HB:=Aside0.mk (below_drew1 HB.out);have p104 : 0 ≤ ((ji8) : Int):=of_decide_eq_true (q4_);have q104 : (ji8) < (l0.length : Int):=of_decide_eq_true (q4_);obtain ⟨ad104,e104,hx104_0,hx104_1,hx104_2⟩:=at_T25 HR0.out (ji8) p104 q104;have hw104_2:=hx104_2;have hw104_1:=hx104_1;have hw104_0:=hx104_0;obtain rfl : ad101 = ad104:=(by injection e104);replace hx104_0:=hB_ HB.out hx104_0;replace hx104_1:=hB_ HB.out hx104_1;replace hx104_2:=hB_ HB.out hx104_2;replace p104:=eq_true p104;replace q104:=eq_true q104;refine start_ (n:=18) (S:=fun w' => w'.cell? ⟨gb102,0,none⟩ = some (.int .i64 ((rd_T25 l0 x7_1).f0)) ∧ w'.cell? ⟨gb102,1,none⟩ = some (.int .i64 ((rd_T25 l0 x7_1).f1)) ∧ w'.cell? ⟨gb102,2,none⟩ = some (.string ((rd_T25 l0 x7_1).f2)) ∧ w'.cell? (ad101.add (((ji8)).toNat * 3)) = some (.int .i64 ((rd_T25 l0 (ji8)).f0)) ∧ w'.cell? ⟨(ad101.add (((ji8)).toNat * 3)).block,(ad101.add (((ji8)).toNat * 3)).off + 1,none⟩ = some (.int .i64 ((rd_T25 l0 (ji8)).f1)) ∧ w'.cell? ⟨(ad101.add (((ji8)).toNat * 3)).block,(ad101.add (((ji8)).toNat * 3)).off + 2,none⟩ = some (.string ((rd_T25 l0 (ji8)).f2))) (ds:=[]) f17_ (by kernel_rfl) rfl rfl ⟨(blk_cell BK102.out 0).trans rfl,(blk_cell BK102.out 1).trans rfl,(blk_cell BK102.out 2).trans rfl,((HB.out.cell (World.block_lt_of_cell? w _ hw104_0)).trans hw104_0),((HB.out.cell (World.block_lt_of_cell? w _ hw104_1)).trans hw104_1),((HB.out.cell (World.block_lt_of_cell? w _ hw104_2)).trans hw104_2)⟩ (fun hHeld=>?_);refine with_tabW yAJ.tab4 yAJ.bits4 (fun HT_ HW_=>?_);generalize w19.drew = w20 at BK102 HB hx104_0 hx104_1 hx104_2 hHeld ⊢;refine take_ (i:=0) (N:=some 12) (v:=?_) (a' := ?_) f18_ rfl rfl (take_ofW HT_.out HW_.out (by kernel_rfl)) (fun _ _ _ h=>h) (Or.inl ⟨by rfl,?_⟩) hHeld ?_ ?_;rotate_left
           ·rintro w' ⟨s0,s1,s2,s3,s4,s5⟩;go_simp;with_reducible rfl
           rotate_left
           ·exact q53_
           refine one_ (i:=1) (N:=some 13) f19_ rfl rfl (one_of HT_.out (by kernel_rfl)) (by decide) (fun K hK=>?_);refine goes_ Tryz.func34 (by kernel_rfl) rfl #[.agg #[.int .i64 ((rd_T25 l0 x7_1).f0),.int .i64 ((rd_T25 l0 x7_1).f1),.string ((rd_T25 l0 x7_1).f2)]] (by rfl) rfl rfl (q21_) ?_
           with_reducible refine (yA2.calls k1 ((rd_T25 l0 x7_1).f0) ((rd_T25 l0 x7_1).f1) ((rd_T25 l0 x7_1).f2) true _ A5.out).mono ?_
           rintro e w21 ⟨rfl,hb⟩;refine ⟨_,rfl,?_⟩;replace BK102:=bkB_ BK102 hb;replace HB:=Aside0.mk (below_step (q24_) hb)
           (try clear hb)
           refine hK.out _ _ ⟨(blk_cell BK102.out 0).trans rfl,(blk_cell BK102.out 1).trans rfl,(blk_cell BK102.out 2).trans rfl,((HB.out.cell (World.block_lt_of_cell? w _ hw104_0)).trans hw104_0),((HB.out.cell (World.block_lt_of_cell? w _ hw104_1)).trans hw104_1),((HB.out.cell (World.block_lt_of_cell? w _ hw104_2)).trans hw104_2)⟩ (fun hHeld=>?_);clear hK K;refine norm_ (a' := ?_) ?_ ?_;rotate_left
           ·show Act.put _ (some 13) _ = _;simp only [Act.put,List.setIfInBounds_toArray,List.set_cons_zero,List.set_cons_succ,i64_w,i32_w];rfl
           refine pa_ 2 14 f20_ ?_
           refine pa_ 3 15 f21_ ?_
           refine pa_ 4 16 f22_ ?_
           refine pa_ 5 17 f23_ ?_
           refine pa_ 6 18 f24_ ?_
           refine pa_ 7 19 f25_ ?_
           refine pa_ 8 20 f26_ ?_
           refine pa_ 9 21 f27_ ?_
           refine pa_ 10 22 f28_ ?_
           refine pa_ 11 23 f29_ ?_
           refine pa_ 13 25 f30_ ?_
           refine take_ (i:=12) (N:=some 24) (v:=?_) (a' := ?_) f31_ rfl rfl (take_ofW HT_.out HW_.out (by kernel_rfl)) (fun _ _ _ h=>h) (Or.inl ⟨by rfl,?_⟩) hHeld ?_ ?_;rotate_left
           ·rintro w' ⟨s0,s1,s2,s3,s4,s5⟩;go_simp;with_reducible rfl
           rotate_left
           ·exact q53_
           refine take_ (i:=14) (N:=some 26) (v:=?_) (a' := ?_) f32_ rfl rfl (take_ofW HT_.out HW_.out (by kernel_rfl)) (fun _ _ _ h=>h) (Or.inl ⟨by rfl,?_⟩) hHeld ?_ ?_;rotate_left
           ·rintro w' ⟨s0,s1,s2,s3,s4,s5⟩;go_simp;with_reducible rfl
           rotate_left
           ·exact q53_
           refine pa_ 15 27 f33_ ?_
           refine pa_ 16 28 f34_ ?_
           refine pa_ 17 29 f35_ ?_
           refine done_ (done_of HT_.out (by kernel_rfl)) ?_;try go_wp2
           go_roundg k1
           case measure=>have:=HK1.out;omega
           case rel=>exact ⟨(wrap64 (x7_1 + 1)),(q3_),H', ⟨by have:=HK1.out;omega⟩,⟨q24_⟩⟩
         ·rw [if_neg c10] at H;exact absurd H (q1_)
        ·rw [if_neg c9] at H;exact absurd H (q1_)
       ·rw [if_neg c7] at H;have c7b0 : decide (0 < x7_1) = false:=decide_eq_false c7;clear c7;have H' := Aside0.mk H;clear H;have p101 : 0 ≤ (x7_1 : Int):=of_decide_eq_true (q4_);have q101 : x7_1 < (l0.length : Int):=of_decide_eq_true (q4_);obtain ⟨ad101,e101,hx101_0,hx101_1,hx101_2⟩:=at_T25 HR0.out x7_1 p101 q101;cases e101;replace hx101_0:=hB_ HB.out hx101_0;replace hx101_1:=hB_ HB.out hx101_1;replace hx101_2:=hB_ HB.out hx101_2;replace p101:=eq_true p101;replace q101:=eq_true q101;try go_wp2_with (first | ((with_reducible refine gate_dst (N:=4) rfl ?_);refine box_event ?hg (N:=4) ?hd (cs:=#[.int .i64 0,.int .i64 0,.string (⟨#[]⟩ : ByteArray)]) (t:=25) ?hr ?_;(case hd=>rfl);(case hg=>rfl);(case hr=>first | (go_simp;done) | (go_simp;rfl));intro gb102 hg w22 hbox hb;have BK102:=Aside0.mk (hbox);have GW102:=Aside0.mk ((q49_ : w.heap.size ≤ gb102));have GE102:=Aside0.mk ((q49_ : w.heap.size ≤ gb102));replace HB:=bS_ HB hb;clear hb hbox hg;obtain ⟨hcz23_0,hcz23_1,hcz23_2,hfz23_0,hfz23_1,hfz23_2⟩:=bx3_ BK102.out))
        have n0_ : Aside0 ((((w22.setCell ⟨gb102,0,none⟩ (.int .i64 ((rd_T25 l0 x7_1).f0))).setCell ⟨gb102,1,none⟩ (.int .i64 ((rd_T25 l0 x7_1).f1))).setCell ⟨gb102,2,none⟩ (.string ((rd_T25 l0 x7_1).f2))).heap[gb102]? = some (.cells #[.int .i64 ((rd_T25 l0 x7_1).f0),.int .i64 ((rd_T25 l0 x7_1).f1),.string ((rd_T25 l0 x7_1).f2)] 25 (0,0))):=⟨q48_⟩;have n1_ : Aside0 (Below w.heap.size w (((w22.setCell ⟨gb102,0,none⟩ (.int .i64 ((rd_T25 l0 x7_1).f0))).setCell ⟨gb102,1,none⟩ (.int .i64 ((rd_T25 l0 x7_1).f1))).setCell ⟨gb102,2,none⟩ (.string ((rd_T25 l0 x7_1).f2)))):=⟨q24_⟩
        (try clear BK102)
        (try clear HB)
        generalize (((w22.setCell ⟨gb102,0,none⟩ (.int .i64 ((rd_T25 l0 x7_1).f0))).setCell ⟨gb102,1,none⟩ (.int .i64 ((rd_T25 l0 x7_1).f1))).setCell ⟨gb102,2,none⟩ (.string ((rd_T25 l0 x7_1).f2))) = w24 at n0_ n1_ ⊢;have BK102:=n0_;have HB:=n1_;clear n0_ n1_;replace BK102:=Aside0.mk (blk_drew BK102.out);replace HB:=Aside0.mk (below_drew1 HB.out);refine start_ (n:=18) (S:=fun w' => w'.cell? ⟨gb102,0,none⟩ = some (.int .i64 ((rd_T25 l0 x7_1).f0)) ∧ w'.cell? ⟨gb102,1,none⟩ = some (.int .i64 ((rd_T25 l0 x7_1).f1)) ∧ w'.cell? ⟨gb102,2,none⟩ = some (.string ((rd_T25 l0 x7_1).f2))) (ds:=[]) f17_ (by kernel_rfl) rfl rfl ⟨(blk_cell BK102.out 0).trans rfl,(blk_cell BK102.out 1).trans rfl,(blk_cell BK102.out 2).trans rfl⟩ (fun hHeld=>?_);refine with_tabW yAJ.tab4 yAJ.bits4 (fun HT_ HW_=>?_);generalize w24.drew = w25 at BK102 HB hHeld ⊢;refine take_ (i:=0) (N:=some 12) (v:=?_) (a' := ?_) f18_ rfl rfl (take_ofW HT_.out HW_.out (by kernel_rfl)) (fun _ _ _ h=>h) (Or.inl ⟨by rfl,?_⟩) hHeld ?_ ?_;rotate_left
        ·rintro w' ⟨s0,s1,s2⟩;go_simp;with_reducible rfl
        rotate_left
        ·exact q53_
        refine one_ (i:=1) (N:=some 13) f19_ rfl rfl (one_of HT_.out (by kernel_rfl)) (by decide) (fun K hK=>?_);refine goes_ Tryz.func34 (by kernel_rfl) rfl #[.agg #[.int .i64 ((rd_T25 l0 x7_1).f0),.int .i64 ((rd_T25 l0 x7_1).f1),.string ((rd_T25 l0 x7_1).f2)]] (by rfl) rfl rfl (q21_) ?_
        with_reducible refine (yA2.calls k1 ((rd_T25 l0 x7_1).f0) ((rd_T25 l0 x7_1).f1) ((rd_T25 l0 x7_1).f2) true _ A5.out).mono ?_
        rintro e w26 ⟨rfl,hb⟩;refine ⟨_,rfl,?_⟩;replace BK102:=bkB_ BK102 hb;replace HB:=Aside0.mk (below_step (q24_) hb)
        (try clear hb)
        refine hK.out _ _ ⟨(blk_cell BK102.out 0).trans rfl,(blk_cell BK102.out 1).trans rfl,(blk_cell BK102.out 2).trans rfl⟩ (fun hHeld=>?_);clear hK K;refine norm_ (a' := ?_) ?_ ?_;rotate_left
        ·show Act.put _ (some 13) _ = _;simp only [Act.put,List.setIfInBounds_toArray,List.set_cons_zero,List.set_cons_succ,i64_w,i32_w];rfl
        refine pa_ 2 14 f20_ ?_
        refine pa_ 3 15 f21_ ?_
        refine pa_ 4 16 f22_ ?_
        refine pa_ 5 17 f23_ ?_
        refine pa_ 6 18 f24_ ?_
        refine pu_ 7 19 f25_ ?_
        refine pu_ 8 20 f26_ ?_
        refine pu_ 9 21 f27_ ?_
        refine pu_ 10 22 f28_ ?_
        refine pu_ 11 23 f29_ ?_
        refine pu_ 12 24 f36_ ?_
        refine pu_ 13 25 f31_ ?_
        refine pu_ 14 26 f32_ ?_
        refine pu_ 15 27 f33_ ?_
        refine pa_ 16 28 f34_ ?_
        refine pa_ 17 29 f35_ ?_
        refine done_ (done_of HT_.out (by kernel_rfl)) ?_;try go_wp2
        go_roundg k1
        case measure=>have:=HK1.out;omega
        case rel=>exact ⟨(wrap64 (x7_1 + 1)),(q3_),H', ⟨by have:=HK1.out;omega⟩,⟨q24_⟩⟩
      ·replace c6:=Bool.eq_false_iff.mpr c6;subst c6;rw [if_neg (show ¬ (false = true) by decide)] at H;obtain rfl:=Option.some.inj H;have p101 : 0 ≤ (x7_1 : Int):=of_decide_eq_true (q4_);have q101 : x7_1 < (l0.length : Int):=of_decide_eq_true (q4_);obtain ⟨ad101,e101,hx101_0,hx101_1,hx101_2⟩:=at_T25 HR0.out x7_1 p101 q101;cases e101;replace hx101_0:=hB_ HB.out hx101_0;replace hx101_1:=hB_ HB.out hx101_1;replace hx101_2:=hB_ HB.out hx101_2;replace p101:=eq_true p101;replace q101:=eq_true q101;try go_wp2_with (first | ((with_reducible refine gate_dst (N:=4) rfl ?_);refine box_event ?hg (N:=4) ?hd (cs:=#[.int .i64 0,.int .i64 0,.string (⟨#[]⟩ : ByteArray)]) (t:=25) ?hr ?_;(case hd=>rfl);(case hg=>rfl);(case hr=>first | (go_simp;done) | (go_simp;rfl));intro gb102 hg w27 hbox hb;have BK102:=Aside0.mk (hbox);have GW102:=Aside0.mk ((q49_ : w.heap.size ≤ gb102));have GE102:=Aside0.mk ((q49_ : w.heap.size ≤ gb102));replace HB:=bS_ HB hb;clear hb hbox hg;obtain ⟨hcz28_0,hcz28_1,hcz28_2,hfz28_0,hfz28_1,hfz28_2⟩:=bx3_ BK102.out))
       have n0_ : Aside0 ((((w27.setCell ⟨gb102,0,none⟩ (.int .i64 ((rd_T25 l0 x7_1).f0))).setCell ⟨gb102,1,none⟩ (.int .i64 ((rd_T25 l0 x7_1).f1))).setCell ⟨gb102,2,none⟩ (.string ((rd_T25 l0 x7_1).f2))).heap[gb102]? = some (.cells #[.int .i64 ((rd_T25 l0 x7_1).f0),.int .i64 ((rd_T25 l0 x7_1).f1),.string ((rd_T25 l0 x7_1).f2)] 25 (0,0))):=⟨q48_⟩;have n1_ : Aside0 (Below w.heap.size w (((w27.setCell ⟨gb102,0,none⟩ (.int .i64 ((rd_T25 l0 x7_1).f0))).setCell ⟨gb102,1,none⟩ (.int .i64 ((rd_T25 l0 x7_1).f1))).setCell ⟨gb102,2,none⟩ (.string ((rd_T25 l0 x7_1).f2)))):=⟨q24_⟩
       (try clear BK102)
       (try clear HB)
       generalize (((w27.setCell ⟨gb102,0,none⟩ (.int .i64 ((rd_T25 l0 x7_1).f0))).setCell ⟨gb102,1,none⟩ (.int .i64 ((rd_T25 l0 x7_1).f1))).setCell ⟨gb102,2,none⟩ (.string ((rd_T25 l0 x7_1).f2))) = w29 at n0_ n1_ ⊢;have BK102:=n0_;have HB:=n1_;clear n0_ n1_;replace BK102:=Aside0.mk (blk_drew BK102.out);replace HB:=Aside0.mk (below_drew1 HB.out);refine start_ (n:=18) (S:=fun w' => w'.cell? ⟨gb102,0,none⟩ = some (.int .i64 ((rd_T25 l0 x7_1).f0)) ∧ w'.cell? ⟨gb102,1,none⟩ = some (.int .i64 ((rd_T25 l0 x7_1).f1)) ∧ w'.cell? ⟨gb102,2,none⟩ = some (.string ((rd_T25 l0 x7_1).f2))) (ds:=[]) f17_ (by kernel_rfl) rfl rfl ⟨(blk_cell BK102.out 0).trans rfl,(blk_cell BK102.out 1).trans rfl,(blk_cell BK102.out 2).trans rfl⟩ (fun hHeld=>?_);refine with_tabW yAJ.tab4 yAJ.bits4 (fun HT_ HW_=>?_);generalize w29.drew = w30 at BK102 HB hHeld ⊢;refine take_ (i:=0) (N:=some 12) (v:=?_) (a' := ?_) f18_ rfl rfl (take_ofW HT_.out HW_.out (by kernel_rfl)) (fun _ _ _ h=>h) (Or.inl ⟨by rfl,?_⟩) hHeld ?_ ?_;rotate_left
       ·rintro w' ⟨s0,s1,s2⟩;go_simp;with_reducible rfl
       rotate_left
       ·exact q53_
       refine one_ (i:=1) (N:=some 13) f19_ rfl rfl (one_of HT_.out (by kernel_rfl)) (by decide) (fun K hK=>?_);refine goes_ Tryz.func34 (by kernel_rfl) rfl #[.agg #[.int .i64 ((rd_T25 l0 x7_1).f0),.int .i64 ((rd_T25 l0 x7_1).f1),.string ((rd_T25 l0 x7_1).f2)]] (by rfl) rfl rfl (q21_) ?_
       with_reducible refine (yA2.calls k1 ((rd_T25 l0 x7_1).f0) ((rd_T25 l0 x7_1).f1) ((rd_T25 l0 x7_1).f2) false _ A5.out).mono ?_
       rintro e w31 ⟨rfl,hb⟩;refine ⟨_,rfl,?_⟩;replace BK102:=bkB_ BK102 hb;replace HB:=Aside0.mk (below_step (q24_) hb)
       (try clear hb)
       refine hK.out _ _ ⟨(blk_cell BK102.out 0).trans rfl,(blk_cell BK102.out 1).trans rfl,(blk_cell BK102.out 2).trans rfl⟩ (fun hHeld=>?_);clear hK K;refine norm_ (a' := ?_) ?_ ?_;rotate_left
       ·show Act.put _ (some 13) _ = _;simp only [Act.put,List.setIfInBounds_toArray,List.set_cons_zero,List.set_cons_succ,i64_w,i32_w];rfl
       refine pa_ 2 14 f20_ ?_
       refine pa_ 3 15 f21_ ?_
       refine pu_ 4 16 f22_ ?_
       refine pu_ 5 17 f23_ ?_
       refine pu_ 6 18 f24_ ?_
       refine pu_ 7 19 f25_ ?_
       refine pu_ 8 20 f26_ ?_
       refine pu_ 9 21 f27_ ?_
       refine pu_ 10 22 f28_ ?_
       refine pu_ 11 23 f29_ ?_
       refine pu_ 12 24 f36_ ?_
       refine pu_ 13 25 f31_ ?_
       refine pu_ 14 26 f32_ ?_
       refine pu_ 15 27 f33_ ?_
       refine pu_ 16 28 f34_ ?_
       refine pa_ 17 29 f35_ ?_
       refine done_ (done_of HT_.out (by kernel_rfl)) ?_;try go_wp2
       go_ret;exact ⟨q6_,q24_⟩
     ·rw [if_neg c4] at H;exact absurd H (q1_)
    ·rw [if_neg c3] at H;exact absurd H (q1_)
   ·rw [if_neg c2] at H;have c2b0:=decide_eq_false c2;clear c2;obtain rfl:=Option.some.inj H;go_wp2;go_ret;exact ⟨q6_,q20_⟩
end Go.Proofs.YtglcpghappepaaaGreatDoor.G
