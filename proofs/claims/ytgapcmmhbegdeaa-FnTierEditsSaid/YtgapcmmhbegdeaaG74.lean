-- Written by this session's own program over the kit's print (wip/tools/myprint.py); Lean checks it.
import Derived.Test.YtgapcmmhbegdeaaMBase
import Derived.Test.YtgapcmmhbegdeaaG0
import Derived.Test.YtgapcmmhbegdeaaG1
import Derived.Test.YtgapcmmhbegdeaaG8
import Derived.Test.YtgapcmmhbegdeaaG45
import Derived.Test.YtgapcmmhbegdeaaG73
namespace Go.Proofs.Ytgapcmmhbegdeaa.G
open Go.RowKit Go.Proofs.YtgapcmmhbegdeaaW.PrintWords Go.Proofs.YtgapcmmhbegdeaaW.PrintLast Go.Proofs.YtgapcmmhbegdeaaW.PrintMore
attribute [local go_sem] max2_int min2_int max_two min_two max_three min_three max_four min_four str_geq str_gtr str_leq   -- for this text's walks alone
set_option linter.unusedVariables false
set_option linter.unusedSimpArgs false
/-! ### impl_SplitNote: function 34 -/
def impl_SplitNote.j0 : Nat → List (S58) → Int → Int → Bool → Option ((List (S58)) × Bool)
 | 0,_,_,_,_=>none
 | k + 1,x0,x1,x2,x41=>if x41 = true then (some (([] : List (S58)),false)) else ((slices_Clone_Note.f x0).bind fun t106=>(if 0 ≤ x1 then (if x1 < (x0.length : Int) then ((slices_Insert_Note.f t106 (wrap64 (x1 + 1)) (([(⟨x2,(rd_T58 x0 x1).f1,(rd_T58 x0 x1).f2⟩ : S58)] : List (S58)))).bind fun t114=>(if x1 < (t114.length : Int) then (some ((t114.set (x1 : Int).toNat (⟨(rd_T58 t114 x1).f0,x2,(rd_T58 t114 x1).f2⟩ : S58)),true)) else (none))) else (none)) else (none)))
def impl_SplitNote.f (k : Nat) (l0 : List (S58)) (a1 : Int) (a2 : Int) : Option ((List (S58)) × Bool):=(impl_IsTier.f k l0).bind fun t101=>(if t101 = true then ((impl_within.f a1 0 (wrap64 ((l0.length : Int) - 1))).bind fun t102=>(if t102 = true then (if 0 ≤ a1 then (if a1 < (l0.length : Int) then ((impl_within.f a2 (wrap64 (((rd_T58 l0 a1).f0) + 1)) (wrap64 (((rd_T58 l0 a1).f1) - 1))).bind fun t105=>(if t105 = true then (impl_SplitNote.j0 k l0 a1 a2 ((l0.length : Int) == 40)) else (impl_SplitNote.j0 k l0 a1 a2 true))) else (none)) else (none)) else (impl_SplitNote.j0 k l0 a1 a2 true))) else (impl_SplitNote.j0 k l0 a1 a2 true))
def impl_SplitNote.T1 : Bool × List (List Nat × List Nat):=(true,[([],[]),([0],[0]),([1],[1]),([2,1],[2]),([3],[3]),([3],[3]),([5,3],[3,5]),([6,3],[3,6]),([4,7,3,3],[3,4,7]),([8,3],[3,8]),([3,9],[3,9]),([10,8],[10]),([11],[11]),([11],[11]),([11],[11]),([13,14,11],[11,13,14]),([15,11],[11,15]),([16,11],[11,16]),([17,11],[11,17]),([11],[11]),([11],[11]),([19,20,11],[11,19,20]),([21,11],[11,21]),([22,11],[11,22]),([23,11],[11,23]),([12,18,24,11,11],[11,12,18,24]),([25,11],[11,25]),([11,26],[11,26]),([27,25],[27]),([28],[28]),([29,28],[28,29]),([30,28],[28,30]),([28,31],[28,31])])
def impl_SplitNote.B1 : List Nat:=[0,1,3,7,15,15,47,111,255,511,1023,2047,4095,4095,4095,28671,61439,126975,258047,4095,4095,1576959,3674111,7868415,16257023,33554431,67108863,134217727,268435455,536870911,1073741823,2147483647,4294967295]
theorem impl_SplitNote.tab1 : rtab .any (opsOf Try.f34 1) = impl_SplitNote.T1:=by kernel_rfl
theorem impl_SplitNote.bits1 : waitsOk impl_SplitNote.T1.2 impl_SplitNote.B1 = true:=by kernel_rfl
def impl_SplitNote.T3 : Bool × List (List Nat × List Nat):=(true,[([],[]),([0],[0]),([],[]),([2],[2]),([],[]),([],[]),([],[]),([5,6],[5,6]),([7],[7]),([8],[8]),([],[]),([],[]),([10,11],[10,11]),([12],[12]),([13],[13]),([4,9,14],[4,9,14]),([15],[15]),([1,3,16,1],[1,3,16]),([17,17,0,1,2,3,4,5,6,7,8,9,10,11,12,13,14,15,16,17],[17])])
def impl_SplitNote.B3 : List Nat:=[0,1,0,4,0,0,0,96,224,480,0,0,3072,7168,15360,32752,65520,131071,262143]
theorem impl_SplitNote.tab3 : rtab .any (opsOf Try.f34 3) = impl_SplitNote.T3:=by kernel_rfl
theorem impl_SplitNote.bits3 : waitsOk impl_SplitNote.T3.2 impl_SplitNote.B3 = true:=by kernel_rfl
set_option maxHeartbeats 8000000 in
set_option maxRecDepth 100000 in
theorem impl_SplitNote.calls (k : Nat) (A0 : Option Addr) (c0 : Nat) (l0 : List (S58)) (a1 : Int) (a2 : Int) (r1 : List (S58)) (r2 : Bool) (w : World) (hr0 : Kd.C k58 w A0 l0.length l0) (hc0 : l0.length ≤ c0) (h : impl_SplitNote.f k l0 a1 a2 = some (r1,r2)) :
  Calls Try.prog 34 #[.slice A0 l0.length c0,.int .i64 a1,.int .i64 a2] w fun e w' => ∃ v0_ : Value,e = .returned (.tuple #[v0_,.bool r2]) ∧ Kd.R k58 58 w' w.heap.size (fun _=>True) v0_ r1 ∧ Below w.heap.size w w' := by
 have hu58:=Try.underlying58;have HR0:=Aside0.mk hr0;have HC0:=Aside0.mk hc0;clear hr0 hc0;have HB:=Aside0.mk (Below.refl w.heap.size w);have H : ((impl_IsTier.f k l0).bind fun t101=>(if t101 = true then ((impl_within.f a1 0 (wrap64 ((l0.length : Int) - 1))).bind fun t102=>(if t102 = true then (if 0 ≤ a1 then (if a1 < (l0.length : Int) then ((impl_within.f a2 (wrap64 (((rd_T58 l0 a1).f0) + 1)) (wrap64 (((rd_T58 l0 a1).f1) - 1))).bind fun t105=>(if t105 = true then (impl_SplitNote.j0 k l0 a1 a2 ((l0.length : Int) == 40)) else (impl_SplitNote.j0 k l0 a1 a2 true))) else (none)) else (none)) else (impl_SplitNote.j0 k l0 a1 a2 true))) else (impl_SplitNote.j0 k l0 a1 a2 true))) = some (r1,r2):=h;clear h;have HC4:=Aside0.mk H;clear H;go_enter Try.func34,Try.ntmps34
 go_upto_region 1 with (fail)
 go_cut [41] (fun v41 wc=>∃ (kq : Nat) (x41_3 : Bool),v41 = .bool x41_3 ∧ Aside0 (impl_SplitNote.j0 kq l0 a1 a2 x41_3 = some (r1,r2)) ∧ Aside0 (kq ≤ k) ∧ Aside0 (Below w.heap.size w wc))
 case first =>
  have H:=HC4.out;clear HC4;replace H:=Option.bind_eq_some_iff.mp H;obtain ⟨t101,A50,H⟩:=H;(try dsimp only at H);have A5:=Aside0.mk A50;clear A50;by_cases c6 : t101 = true
  ·subst c6;have H1 : ((impl_within.f a1 0 (wrap64 ((l0.length : Int) - 1))).bind fun t102=>(if t102 = true then (if 0 ≤ a1 then (if a1 < (l0.length : Int) then ((impl_within.f a2 (wrap64 (((rd_T58 l0 a1).f0) + 1)) (wrap64 (((rd_T58 l0 a1).f1) - 1))).bind fun t105=>(if t105 = true then (impl_SplitNote.j0 k l0 a1 a2 ((l0.length : Int) == 40)) else (impl_SplitNote.j0 k l0 a1 a2 true))) else (none)) else (none)) else (impl_SplitNote.j0 k l0 a1 a2 true))) = some (r1,r2):=by rw [if_pos rfl] at H;exact H
   clear H;have H:=H1;clear H1;replace H:=Option.bind_eq_some_iff.mp H;obtain ⟨t102,A70,H⟩:=H;(try dsimp only at H);have A7:=Aside0.mk A70;clear A70;by_cases c8 : t102 = true
   ·subst c8;have H1 : (if 0 ≤ a1 then (if a1 < (l0.length : Int) then ((impl_within.f a2 (wrap64 (((rd_T58 l0 a1).f0) + 1)) (wrap64 (((rd_T58 l0 a1).f1) - 1))).bind fun t105=>(if t105 = true then (impl_SplitNote.j0 k l0 a1 a2 ((l0.length : Int) == 40)) else (impl_SplitNote.j0 k l0 a1 a2 true))) else (none)) else (none)) = some (r1,r2):=by rw [if_pos rfl] at H;exact H
    clear H;have H:=H1;clear H1;by_cases c9 : 0 ≤ a1
    ·rw [if_pos c9] at H;have c9b0 : decide (0 ≤ a1) = true:=decide_eq_true c9;clear c9
     (first | rw [c9b0] | (simp only [i64_w,i32_w];rw [c9b0]) | skip)
     by_cases c10 : a1 < (l0.length : Int)
     ·rw [if_pos c10] at H;have c10b0 : decide (a1 < (l0.length : Int)) = true:=decide_eq_true c10;clear c10;replace H:=Option.bind_eq_some_iff.mp H;obtain ⟨t105,A110,H⟩:=H;(try dsimp only at H);have A11:=Aside0.mk A110;clear A110;by_cases c12 : t105 = true
      ·subst c12;have H1 : (impl_SplitNote.j0 k l0 a1 a2 ((l0.length : Int) == 40)) = some (r1,r2):=by rw [if_pos rfl] at H;exact H
       clear H;have H:=H1;clear H1;have H' := Aside0.mk H;clear H;try go_wp2
       replace HB:=Aside0.mk (below_drew1 HB.out);have p103 : 0 ≤ (a1 : Int):=of_decide_eq_true (q3_);have q103 : a1 < (l0.length : Int):=of_decide_eq_true (q3_);obtain ⟨ad103,e103,hx103_0,hx103_1,hx103_2⟩:=at_T58 HR0.out a1 p103 q103;have hw103_2:=hx103_2;have hw103_1:=hx103_1;have hw103_0:=hx103_0;cases e103;replace hx103_0:=hB_ HB.out hx103_0;replace hx103_1:=hB_ HB.out hx103_1;replace hx103_2:=hB_ HB.out hx103_2;replace p103:=eq_true p103;replace q103:=eq_true q103;have p104 : 0 ≤ (a1 : Int):=of_decide_eq_true (q3_);have q104 : a1 < (l0.length : Int):=of_decide_eq_true (q3_);obtain ⟨ad104,e104,hx104_0,hx104_1,hx104_2⟩:=at_T58 HR0.out a1 p104 q104;have hw104_2:=hx104_2;have hw104_1:=hx104_1;have hw104_0:=hx104_0;obtain rfl : ad103 = ad104:=(by injection e104);replace hx104_0:=hB_ HB.out hx104_0;replace hx104_1:=hB_ HB.out hx104_1;replace hx104_2:=hB_ HB.out hx104_2;replace p104:=eq_true p104;replace q104:=eq_true q104;refine start_ (n:=33) (S:=fun w' => w'.cell? (ad103.add ((a1).toNat * 3)) = some (.int .i64 ((rd_T58 l0 a1).f0)) ∧ w'.cell? ⟨(ad103.add ((a1).toNat * 3)).block,(ad103.add ((a1).toNat * 3)).off + 1,none⟩ = some (.int .i64 ((rd_T58 l0 a1).f1)) ∧ w'.cell? ⟨(ad103.add ((a1).toNat * 3)).block,(ad103.add ((a1).toNat * 3)).off + 2,none⟩ = some (.string ((rd_T58 l0 a1).f2)) ∧ w'.cell? (ad103.add ((a1).toNat * 3)) = some (.int .i64 ((rd_T58 l0 a1).f0)) ∧ w'.cell? ⟨(ad103.add ((a1).toNat * 3)).block,(ad103.add ((a1).toNat * 3)).off + 1,none⟩ = some (.int .i64 ((rd_T58 l0 a1).f1)) ∧ w'.cell? ⟨(ad103.add ((a1).toNat * 3)).block,(ad103.add ((a1).toNat * 3)).off + 2,none⟩ = some (.string ((rd_T58 l0 a1).f2))) (ds:=[]) f138_ (by kernel_rfl) rfl rfl ⟨((HB.out.cell (World.block_lt_of_cell? w _ hw103_0)).trans hw103_0),((HB.out.cell (World.block_lt_of_cell? w _ hw103_1)).trans hw103_1),((HB.out.cell (World.block_lt_of_cell? w _ hw103_2)).trans hw103_2),((HB.out.cell (World.block_lt_of_cell? w _ hw104_0)).trans hw104_0),((HB.out.cell (World.block_lt_of_cell? w _ hw104_1)).trans hw104_1),((HB.out.cell (World.block_lt_of_cell? w _ hw104_2)).trans hw104_2)⟩ (fun hHeld=>?_);refine with_tabW impl_SplitNote.tab1 impl_SplitNote.bits1 (fun HT_ HW_=>?_);generalize w.drew = w13 at HB hx103_0 hx103_1 hx103_2 hx104_0 hx104_1 hx104_2 hHeld ⊢;refine pure_ (i:=0) (N:=some 9) (v:=?_) (a' := ?_) f139_ rfl rfl (any_of HT_.out (by kernel_rfl)) (fun _ _ _ h=>h) (Or.inl ⟨by rfl,?_⟩) ?_ ?_;rotate_left
       ·intro w';go_simp;with_reducible rfl
       rotate_left
       ·exact q46_
       refine one_ (i:=1) (N:=some 10) f140_ rfl rfl (one_of HT_.out (by kernel_rfl)) (by decide) (fun K hK=>?_);refine goes_ Try.func46 (by kernel_rfl) rfl #[.slice _ l0.length c0] (by rfl) rfl rfl (q18_) ?_
       with_reducible refine (impl_IsTier.calls k _ _ l0 true _ ?side1 ?side2 A5.out).mono ?_
       (case side1=>exact cX_ (Kd.C_below HR0.out HB.out))
       (case side2=>exact HC0.out)
       rintro e w14 ⟨rfl,hb⟩;refine ⟨_,rfl,?_⟩;replace HB:=bS_ HB hb
       (try clear hb)
       (try clear hb2)
       (try clear hk)
       (try clear hi)
       refine hK.out _ _ ⟨((HB.out.cell (World.block_lt_of_cell? w _ hw103_0)).trans hw103_0),((HB.out.cell (World.block_lt_of_cell? w _ hw103_1)).trans hw103_1),((HB.out.cell (World.block_lt_of_cell? w _ hw103_2)).trans hw103_2),((HB.out.cell (World.block_lt_of_cell? w _ hw104_0)).trans hw104_0),((HB.out.cell (World.block_lt_of_cell? w _ hw104_1)).trans hw104_1),((HB.out.cell (World.block_lt_of_cell? w _ hw104_2)).trans hw104_2)⟩ (fun hHeld=>?_);clear hK K;refine norm_ (a' := ?_) ?_ ?_;rotate_left
       ·show Act.put _ (some 10) _ = _;simp only [Act.put,List.setIfInBounds_toArray,List.set_cons_zero,List.set_cons_succ,i64_w,i32_w];rfl
       refine pa_ 2 11 f141_ ?_
       refine pa_ 3 12 f142_ ?_
       refine pa_ 4 13 f143_ ?_
       refine pa_ 5 14 f144_ ?_
       refine pa_ 6 15 f145_ ?_
       refine pa_ 7 16 f146_ ?_
       refine one_ (i:=8) (N:=some 17) f147_ rfl rfl (one_of HT_.out (by kernel_rfl)) (by decide) (fun K hK=>?_);refine goes_ Try.func132 (by kernel_rfl) rfl #[.int .i64 a1,.int .i64 0,.int .i64 (wrap64 ((l0.length : Int) - 1))] (by rfl) rfl rfl (q18_) ?_
       with_reducible refine (impl_within.calls a1 0 (wrap64 ((l0.length : Int) - 1)) true _ A7.out).mono ?_
       rintro e w' ⟨rfl,⟨nd,rfl⟩⟩;refine ⟨_,rfl,?_⟩;refine hK.out _ _ ⟨((HB.out.cell (World.block_lt_of_cell? w _ hw103_0)).trans hw103_0),((HB.out.cell (World.block_lt_of_cell? w _ hw103_1)).trans hw103_1),((HB.out.cell (World.block_lt_of_cell? w _ hw103_2)).trans hw103_2),((HB.out.cell (World.block_lt_of_cell? w _ hw104_0)).trans hw104_0),((HB.out.cell (World.block_lt_of_cell? w _ hw104_1)).trans hw104_1),((HB.out.cell (World.block_lt_of_cell? w _ hw104_2)).trans hw104_2)⟩ (fun hHeld=>?_);clear hK K;refine norm_ (a' := ?_) ?_ ?_;rotate_left
       ·show Act.put _ (some 17) _ = _;simp only [Act.put,List.setIfInBounds_toArray,List.set_cons_zero,List.set_cons_succ,i64_w,i32_w];rfl
       refine pa_ 9 18 f148_ ?_
       refine pa_ 10 19 f149_ ?_
       refine pa_ 11 20 f150_ ?_
       refine pa_ 12 21 f151_ ?_
       refine pa_ 13 22 f152_ ?_
       refine pa_ 14 23 f153_ ?_
       refine pa_ 15 24 f154_ ?_
       refine pa_ 16 25 f155_ ?_
       refine pa_ 19 28 f156_ ?_
       refine pa_ 20 29 f157_ ?_
       refine pa_ 21 30 f158_ ?_
       refine pa_ 22 31 f159_ ?_
       refine take_ (i:=17) (N:=some 26) (v:=?_) (a' := ?_) f160_ rfl rfl (take_ofW HT_.out HW_.out (by kernel_rfl)) (fun _ _ _ h=>h) (Or.inl ⟨by rfl,?_⟩) hHeld ?_ ?_;rotate_left
       ·rintro w' ⟨s0,s1,s2,s3,s4,s5⟩;go_simp;with_reducible rfl
       rotate_left
       ·exact q46_
       refine pa_ 18 27 f161_ ?_
       refine take_ (i:=23) (N:=some 32) (v:=?_) (a' := ?_) f162_ rfl rfl (take_ofW HT_.out HW_.out (by kernel_rfl)) (fun _ _ _ h=>h) (Or.inl ⟨by rfl,?_⟩) hHeld ?_ ?_;rotate_left
       ·rintro w' ⟨s0,s1,s2,s3,s4,s5⟩;go_simp;with_reducible rfl
       rotate_left
       ·exact q46_
       refine pa_ 24 33 f163_ ?_
       refine one_ (i:=25) (N:=some 34) f164_ rfl rfl (one_of HT_.out (by kernel_rfl)) (by decide) (fun K hK=>?_);refine goes_ Try.func132 (by kernel_rfl) rfl #[.int .i64 a2,.int .i64 (wrap64 (((rd_T58 l0 a1).f0) + 1)),.int .i64 (wrap64 (((rd_T58 l0 a1).f1) - 1))] (by rfl) rfl rfl (q18_) ?_
       with_reducible refine (impl_within.calls a2 (wrap64 (((rd_T58 l0 a1).f0) + 1)) (wrap64 (((rd_T58 l0 a1).f1) - 1)) true _ A11.out).mono ?_
       rintro e w' ⟨rfl,⟨nd,rfl⟩⟩;refine ⟨_,rfl,?_⟩;refine hK.out _ _ ⟨((HB.out.cell (World.block_lt_of_cell? w _ hw103_0)).trans hw103_0),((HB.out.cell (World.block_lt_of_cell? w _ hw103_1)).trans hw103_1),((HB.out.cell (World.block_lt_of_cell? w _ hw103_2)).trans hw103_2),((HB.out.cell (World.block_lt_of_cell? w _ hw104_0)).trans hw104_0),((HB.out.cell (World.block_lt_of_cell? w _ hw104_1)).trans hw104_1),((HB.out.cell (World.block_lt_of_cell? w _ hw104_2)).trans hw104_2)⟩ (fun hHeld=>?_);clear hK K;refine norm_ (a' := ?_) ?_ ?_;rotate_left
       ·show Act.put _ (some 34) _ = _;simp only [Act.put,List.setIfInBounds_toArray,List.set_cons_zero,List.set_cons_succ,i64_w,i32_w];rfl
       refine pa_ 26 35 f165_ ?_
       refine pa_ 27 36 f166_ ?_
       refine pa_ 28 37 f167_ ?_
       refine pa_ 29 38 f168_ ?_
       refine pa_ 30 39 f169_ ?_
       refine pa_ 31 40 f170_ ?_
       refine pa_ 32 41 f171_ ?_
       refine done_ (done_of HT_.out (by kernel_rfl)) ?_;try go_wp2
       go_meet
       case rel=>exact ⟨_,(((l0.length : Int) == 40)),(q2_),H', ⟨q1_⟩,⟨q17_⟩⟩
      ·replace c12:=Bool.eq_false_iff.mpr c12;subst c12;have H1 : (impl_SplitNote.j0 k l0 a1 a2 true) = some (r1,r2):=by rw [if_neg (show ¬ (false = true) by decide)] at H;exact H
       clear H;have H:=H1;clear H1;have H' := Aside0.mk H;clear H;try go_wp2
       replace HB:=Aside0.mk (below_drew1 HB.out);have p103 : 0 ≤ (a1 : Int):=of_decide_eq_true (q3_);have q103 : a1 < (l0.length : Int):=of_decide_eq_true (q3_);obtain ⟨ad103,e103,hx103_0,hx103_1,hx103_2⟩:=at_T58 HR0.out a1 p103 q103;have hw103_2:=hx103_2;have hw103_1:=hx103_1;have hw103_0:=hx103_0;cases e103;replace hx103_0:=hB_ HB.out hx103_0;replace hx103_1:=hB_ HB.out hx103_1;replace hx103_2:=hB_ HB.out hx103_2;replace p103:=eq_true p103;replace q103:=eq_true q103;have p104 : 0 ≤ (a1 : Int):=of_decide_eq_true (q3_);have q104 : a1 < (l0.length : Int):=of_decide_eq_true (q3_);obtain ⟨ad104,e104,hx104_0,hx104_1,hx104_2⟩:=at_T58 HR0.out a1 p104 q104;have hw104_2:=hx104_2;have hw104_1:=hx104_1;have hw104_0:=hx104_0;obtain rfl : ad103 = ad104:=(by injection e104);replace hx104_0:=hB_ HB.out hx104_0;replace hx104_1:=hB_ HB.out hx104_1;replace hx104_2:=hB_ HB.out hx104_2;replace p104:=eq_true p104;replace q104:=eq_true q104;refine start_ (n:=33) (S:=fun w' => w'.cell? (ad103.add ((a1).toNat * 3)) = some (.int .i64 ((rd_T58 l0 a1).f0)) ∧ w'.cell? ⟨(ad103.add ((a1).toNat * 3)).block,(ad103.add ((a1).toNat * 3)).off + 1,none⟩ = some (.int .i64 ((rd_T58 l0 a1).f1)) ∧ w'.cell? ⟨(ad103.add ((a1).toNat * 3)).block,(ad103.add ((a1).toNat * 3)).off + 2,none⟩ = some (.string ((rd_T58 l0 a1).f2)) ∧ w'.cell? (ad103.add ((a1).toNat * 3)) = some (.int .i64 ((rd_T58 l0 a1).f0)) ∧ w'.cell? ⟨(ad103.add ((a1).toNat * 3)).block,(ad103.add ((a1).toNat * 3)).off + 1,none⟩ = some (.int .i64 ((rd_T58 l0 a1).f1)) ∧ w'.cell? ⟨(ad103.add ((a1).toNat * 3)).block,(ad103.add ((a1).toNat * 3)).off + 2,none⟩ = some (.string ((rd_T58 l0 a1).f2))) (ds:=[]) f138_ (by kernel_rfl) rfl rfl ⟨((HB.out.cell (World.block_lt_of_cell? w _ hw103_0)).trans hw103_0),((HB.out.cell (World.block_lt_of_cell? w _ hw103_1)).trans hw103_1),((HB.out.cell (World.block_lt_of_cell? w _ hw103_2)).trans hw103_2),((HB.out.cell (World.block_lt_of_cell? w _ hw104_0)).trans hw104_0),((HB.out.cell (World.block_lt_of_cell? w _ hw104_1)).trans hw104_1),((HB.out.cell (World.block_lt_of_cell? w _ hw104_2)).trans hw104_2)⟩ (fun hHeld=>?_);refine with_tabW impl_SplitNote.tab1 impl_SplitNote.bits1 (fun HT_ HW_=>?_);generalize w.drew = w15 at HB hx103_0 hx103_1 hx103_2 hx104_0 hx104_1 hx104_2 hHeld ⊢;refine pure_ (i:=0) (N:=some 9) (v:=?_) (a' := ?_) f139_ rfl rfl (any_of HT_.out (by kernel_rfl)) (fun _ _ _ h=>h) (Or.inl ⟨by rfl,?_⟩) ?_ ?_;rotate_left
       ·intro w';go_simp;with_reducible rfl
       rotate_left
       ·exact q46_
       refine one_ (i:=1) (N:=some 10) f140_ rfl rfl (one_of HT_.out (by kernel_rfl)) (by decide) (fun K hK=>?_);refine goes_ Try.func46 (by kernel_rfl) rfl #[.slice _ l0.length c0] (by rfl) rfl rfl (q18_) ?_
       with_reducible refine (impl_IsTier.calls k _ _ l0 true _ ?side1 ?side2 A5.out).mono ?_
       (case side1=>exact cX_ (Kd.C_below HR0.out HB.out))
       (case side2=>exact HC0.out)
       rintro e w16 ⟨rfl,hb⟩;refine ⟨_,rfl,?_⟩;replace HB:=bS_ HB hb
       (try clear hb)
       (try clear hb2)
       (try clear hk)
       (try clear hi)
       refine hK.out _ _ ⟨((HB.out.cell (World.block_lt_of_cell? w _ hw103_0)).trans hw103_0),((HB.out.cell (World.block_lt_of_cell? w _ hw103_1)).trans hw103_1),((HB.out.cell (World.block_lt_of_cell? w _ hw103_2)).trans hw103_2),((HB.out.cell (World.block_lt_of_cell? w _ hw104_0)).trans hw104_0),((HB.out.cell (World.block_lt_of_cell? w _ hw104_1)).trans hw104_1),((HB.out.cell (World.block_lt_of_cell? w _ hw104_2)).trans hw104_2)⟩ (fun hHeld=>?_);clear hK K;refine norm_ (a' := ?_) ?_ ?_;rotate_left
       ·show Act.put _ (some 10) _ = _;simp only [Act.put,List.setIfInBounds_toArray,List.set_cons_zero,List.set_cons_succ,i64_w,i32_w];rfl
       refine pa_ 2 11 f141_ ?_
       refine pa_ 3 12 f142_ ?_
       refine pa_ 4 13 f143_ ?_
       refine pa_ 5 14 f144_ ?_
       refine pa_ 6 15 f145_ ?_
       refine pa_ 7 16 f146_ ?_
       refine one_ (i:=8) (N:=some 17) f147_ rfl rfl (one_of HT_.out (by kernel_rfl)) (by decide) (fun K hK=>?_);refine goes_ Try.func132 (by kernel_rfl) rfl #[.int .i64 a1,.int .i64 0,.int .i64 (wrap64 ((l0.length : Int) - 1))] (by rfl) rfl rfl (q18_) ?_
       with_reducible refine (impl_within.calls a1 0 (wrap64 ((l0.length : Int) - 1)) true _ A7.out).mono ?_
       rintro e w' ⟨rfl,⟨nd,rfl⟩⟩;refine ⟨_,rfl,?_⟩;refine hK.out _ _ ⟨((HB.out.cell (World.block_lt_of_cell? w _ hw103_0)).trans hw103_0),((HB.out.cell (World.block_lt_of_cell? w _ hw103_1)).trans hw103_1),((HB.out.cell (World.block_lt_of_cell? w _ hw103_2)).trans hw103_2),((HB.out.cell (World.block_lt_of_cell? w _ hw104_0)).trans hw104_0),((HB.out.cell (World.block_lt_of_cell? w _ hw104_1)).trans hw104_1),((HB.out.cell (World.block_lt_of_cell? w _ hw104_2)).trans hw104_2)⟩ (fun hHeld=>?_);clear hK K;refine norm_ (a' := ?_) ?_ ?_;rotate_left
       ·show Act.put _ (some 17) _ = _;simp only [Act.put,List.setIfInBounds_toArray,List.set_cons_zero,List.set_cons_succ,i64_w,i32_w];rfl
       refine pa_ 9 18 f148_ ?_
       refine pa_ 10 19 f149_ ?_
       refine pa_ 11 20 f150_ ?_
       refine pa_ 12 21 f151_ ?_
       refine pa_ 13 22 f152_ ?_
       refine pa_ 14 23 f153_ ?_
       refine pa_ 15 24 f154_ ?_
       refine pa_ 16 25 f155_ ?_
       refine pa_ 19 28 f156_ ?_
       refine pa_ 20 29 f157_ ?_
       refine pa_ 21 30 f158_ ?_
       refine pa_ 22 31 f159_ ?_
       refine take_ (i:=17) (N:=some 26) (v:=?_) (a' := ?_) f160_ rfl rfl (take_ofW HT_.out HW_.out (by kernel_rfl)) (fun _ _ _ h=>h) (Or.inl ⟨by rfl,?_⟩) hHeld ?_ ?_;rotate_left
       ·rintro w' ⟨s0,s1,s2,s3,s4,s5⟩;go_simp;with_reducible rfl
       rotate_left
       ·exact q46_
       refine pa_ 18 27 f161_ ?_
       refine take_ (i:=23) (N:=some 32) (v:=?_) (a' := ?_) f162_ rfl rfl (take_ofW HT_.out HW_.out (by kernel_rfl)) (fun _ _ _ h=>h) (Or.inl ⟨by rfl,?_⟩) hHeld ?_ ?_;rotate_left
       ·rintro w' ⟨s0,s1,s2,s3,s4,s5⟩;go_simp;with_reducible rfl
       rotate_left
       ·exact q46_
       refine pa_ 24 33 f163_ ?_
       refine one_ (i:=25) (N:=some 34) f164_ rfl rfl (one_of HT_.out (by kernel_rfl)) (by decide) (fun K hK=>?_);refine goes_ Try.func132 (by kernel_rfl) rfl #[.int .i64 a2,.int .i64 (wrap64 (((rd_T58 l0 a1).f0) + 1)),.int .i64 (wrap64 (((rd_T58 l0 a1).f1) - 1))] (by rfl) rfl rfl (q18_) ?_
       with_reducible refine (impl_within.calls a2 (wrap64 (((rd_T58 l0 a1).f0) + 1)) (wrap64 (((rd_T58 l0 a1).f1) - 1)) false _ A11.out).mono ?_
       rintro e w' ⟨rfl,⟨nd,rfl⟩⟩;refine ⟨_,rfl,?_⟩;refine hK.out _ _ ⟨((HB.out.cell (World.block_lt_of_cell? w _ hw103_0)).trans hw103_0),((HB.out.cell (World.block_lt_of_cell? w _ hw103_1)).trans hw103_1),((HB.out.cell (World.block_lt_of_cell? w _ hw103_2)).trans hw103_2),((HB.out.cell (World.block_lt_of_cell? w _ hw104_0)).trans hw104_0),((HB.out.cell (World.block_lt_of_cell? w _ hw104_1)).trans hw104_1),((HB.out.cell (World.block_lt_of_cell? w _ hw104_2)).trans hw104_2)⟩ (fun hHeld=>?_);clear hK K;refine norm_ (a' := ?_) ?_ ?_;rotate_left
       ·show Act.put _ (some 34) _ = _;simp only [Act.put,List.setIfInBounds_toArray,List.set_cons_zero,List.set_cons_succ,i64_w,i32_w];rfl
       refine pa_ 26 35 f165_ ?_
       refine pa_ 27 36 f166_ ?_
       refine pa_ 28 37 f167_ ?_
       refine pu_ 29 38 f168_ ?_
       refine pu_ 30 39 f169_ ?_
       refine pu_ 31 40 f170_ ?_
       refine pa_ 32 41 f171_ ?_
       refine done_ (done_of HT_.out (by kernel_rfl)) ?_;try go_wp2
       go_meet
       case rel=>exact ⟨_,(true),(q2_),H', ⟨q1_⟩,⟨q17_⟩⟩
     ·rw [if_neg c10] at H;exact absurd H (by simp)
    ·rw [if_neg c9] at H;exact absurd H (by simp)
   ·replace c8:=Bool.eq_false_iff.mpr c8;subst c8;have H1 : (impl_SplitNote.j0 k l0 a1 a2 true) = some (r1,r2):=by rw [if_neg (show ¬ (false = true) by decide)] at H;exact H
    clear H;have H:=H1;clear H1;have H' := Aside0.mk H;clear H;try go_wp2
    replace HB:=Aside0.mk (below_drew1 HB.out);refine start_ (n:=33) (S:=fun w' => True) (ds:=[]) f138_ (by kernel_rfl) rfl rfl trivial (fun hHeld=>?_);refine with_tabW impl_SplitNote.tab1 impl_SplitNote.bits1 (fun HT_ HW_=>?_);generalize w.drew = w17 at HB hHeld ⊢;refine pure_ (i:=0) (N:=some 9) (v:=?_) (a' := ?_) f139_ rfl rfl (any_of HT_.out (by kernel_rfl)) (fun _ _ _ h=>h) (Or.inl ⟨by rfl,?_⟩) ?_ ?_;rotate_left
    ·intro w';go_simp;with_reducible rfl
    rotate_left
    ·exact q46_
    refine one_ (i:=1) (N:=some 10) f140_ rfl rfl (one_of HT_.out (by kernel_rfl)) (by decide) (fun K hK=>?_);refine goes_ Try.func46 (by kernel_rfl) rfl #[.slice _ l0.length c0] (by rfl) rfl rfl (q18_) ?_
    with_reducible refine (impl_IsTier.calls k _ _ l0 true _ ?side1 ?side2 A5.out).mono ?_
    (case side1=>exact cX_ (Kd.C_below HR0.out HB.out))
    (case side2=>exact HC0.out)
    rintro e w18 ⟨rfl,hb⟩;refine ⟨_,rfl,?_⟩;replace HB:=bS_ HB hb
    (try clear hb)
    (try clear hb2)
    (try clear hk)
    (try clear hi)
    refine hK.out _ _ trivial (fun hHeld=>?_);clear hK K;refine norm_ (a' := ?_) ?_ ?_;rotate_left
    ·show Act.put _ (some 10) _ = _;simp only [Act.put,List.setIfInBounds_toArray,List.set_cons_zero,List.set_cons_succ,i64_w,i32_w];rfl
    refine pa_ 2 11 f141_ ?_
    refine pa_ 3 12 f142_ ?_
    refine pa_ 4 13 f143_ ?_
    refine pa_ 5 14 f144_ ?_
    refine pa_ 6 15 f145_ ?_
    refine pa_ 7 16 f146_ ?_
    refine one_ (i:=8) (N:=some 17) f147_ rfl rfl (one_of HT_.out (by kernel_rfl)) (by decide) (fun K hK=>?_);refine goes_ Try.func132 (by kernel_rfl) rfl #[.int .i64 a1,.int .i64 0,.int .i64 (wrap64 ((l0.length : Int) - 1))] (by rfl) rfl rfl (q18_) ?_
    with_reducible refine (impl_within.calls a1 0 (wrap64 ((l0.length : Int) - 1)) false _ A7.out).mono ?_
    rintro e w' ⟨rfl,⟨nd,rfl⟩⟩;refine ⟨_,rfl,?_⟩;refine hK.out _ _ trivial (fun hHeld=>?_);clear hK K;refine norm_ (a' := ?_) ?_ ?_;rotate_left
    ·show Act.put _ (some 17) _ = _;simp only [Act.put,List.setIfInBounds_toArray,List.set_cons_zero,List.set_cons_succ,i64_w,i32_w];rfl
    refine pa_ 9 18 f148_ ?_
    refine pa_ 10 19 f149_ ?_
    refine pa_ 11 20 f150_ ?_
    refine pu_ 12 21 f151_ ?_
    refine pu_ 13 22 f152_ ?_
    refine pu_ 14 23 f153_ ?_
    refine pu_ 15 24 f154_ ?_
    refine pu_ 16 25 f155_ ?_
    refine pu_ 17 26 f172_ ?_
    refine pu_ 18 27 f173_ ?_
    refine pu_ 19 28 f174_ ?_
    refine pu_ 20 29 f175_ ?_
    refine pu_ 21 30 f176_ ?_
    refine pu_ 22 31 f161_ ?_
    refine pu_ 23 32 f162_ ?_
    refine pu_ 24 33 f163_ ?_
    refine pu_ 25 34 f164_ ?_
    refine pu_ 26 35 f165_ ?_
    refine pa_ 27 36 f166_ ?_
    refine pa_ 28 37 f167_ ?_
    refine pu_ 29 38 f168_ ?_
    refine pu_ 30 39 f169_ ?_
    refine pu_ 31 40 f170_ ?_
    refine pa_ 32 41 f171_ ?_
    refine done_ (done_of HT_.out (by kernel_rfl)) ?_;try go_wp2
    go_meet
    case rel=>exact ⟨_,(true),(q2_),H', ⟨q1_⟩,⟨q17_⟩⟩
  ·replace c6:=Bool.eq_false_iff.mpr c6;subst c6;have H1 : (impl_SplitNote.j0 k l0 a1 a2 true) = some (r1,r2):=by rw [if_neg (show ¬ (false = true) by decide)] at H;exact H
   clear H;have H:=H1;clear H1;have H' := Aside0.mk H;clear H;try go_wp2
   replace HB:=Aside0.mk (below_drew1 HB.out);refine start_ (n:=33) (S:=fun w' => True) (ds:=[]) f138_ (by kernel_rfl) rfl rfl trivial (fun hHeld=>?_);refine with_tabW impl_SplitNote.tab1 impl_SplitNote.bits1 (fun HT_ HW_=>?_);generalize w.drew = w19 at HB hHeld ⊢;refine pure_ (i:=0) (N:=some 9) (v:=?_) (a' := ?_) f139_ rfl rfl (any_of HT_.out (by kernel_rfl)) (fun _ _ _ h=>h) (Or.inl ⟨by rfl,?_⟩) ?_ ?_;rotate_left
   ·intro w';go_simp;with_reducible rfl
   rotate_left
   ·exact q46_
   refine one_ (i:=1) (N:=some 10) f140_ rfl rfl (one_of HT_.out (by kernel_rfl)) (by decide) (fun K hK=>?_);refine goes_ Try.func46 (by kernel_rfl) rfl #[.slice _ l0.length c0] (by rfl) rfl rfl (q18_) ?_
   with_reducible refine (impl_IsTier.calls k _ _ l0 false _ ?side1 ?side2 A5.out).mono ?_
   (case side1=>exact cX_ (Kd.C_below HR0.out HB.out))
   (case side2=>exact HC0.out)
   rintro e w20 ⟨rfl,hb⟩;refine ⟨_,rfl,?_⟩;replace HB:=bS_ HB hb
   (try clear hb)
   (try clear hb2)
   (try clear hk)
   (try clear hi)
   refine hK.out _ _ trivial (fun hHeld=>?_);clear hK K;refine norm_ (a' := ?_) ?_ ?_;rotate_left
   ·show Act.put _ (some 10) _ = _;simp only [Act.put,List.setIfInBounds_toArray,List.set_cons_zero,List.set_cons_succ,i64_w,i32_w];rfl
   refine pa_ 2 11 f141_ ?_
   refine pa_ 3 12 f142_ ?_
   refine pu_ 4 13 f143_ ?_
   refine pu_ 5 14 f144_ ?_
   refine pu_ 6 15 f145_ ?_
   refine pu_ 7 16 f146_ ?_
   refine pu_ 8 17 f147_ ?_
   refine pu_ 9 18 f148_ ?_
   refine pa_ 10 19 f149_ ?_
   refine pa_ 11 20 f150_ ?_
   refine pu_ 12 21 f151_ ?_
   refine pu_ 13 22 f152_ ?_
   refine pu_ 14 23 f153_ ?_
   refine pu_ 15 24 f154_ ?_
   refine pu_ 16 25 f155_ ?_
   refine pu_ 17 26 f172_ ?_
   refine pu_ 18 27 f173_ ?_
   refine pu_ 19 28 f174_ ?_
   refine pu_ 20 29 f175_ ?_
   refine pu_ 21 30 f176_ ?_
   refine pu_ 22 31 f161_ ?_
   refine pu_ 23 32 f162_ ?_
   refine pu_ 24 33 f163_ ?_
   refine pu_ 25 34 f164_ ?_
   refine pu_ 26 35 f165_ ?_
   refine pa_ 27 36 f166_ ?_
   refine pa_ 28 37 f167_ ?_
   refine pu_ 29 38 f168_ ?_
   refine pu_ 30 39 f169_ ?_
   refine pu_ 31 40 f170_ ?_
   refine pa_ 32 41 f171_ ?_
   refine done_ (done_of HT_.out (by kernel_rfl)) ?_;try go_wp2
   go_meet
   case rel=>exact ⟨_,(true),(q2_),H', ⟨q1_⟩,⟨q17_⟩⟩
 case rest =>
  clear HC4;try clear c6
  try clear c8
  try clear c9
  try clear c10
  obtain ⟨kq,x41_3,rfl,HA,HJ3,HB⟩:=hcut;cases kq with
  | zero=>exact absurd HA.out (by simp [impl_SplitNote.j0])
  | succ kj3 =>
   have H:=HA.out;clear HA;simp only [impl_SplitNote.j0] at H;by_cases c21 : x41_3 = true
   ·subst c21;have H1 : (some (([] : List (S58)),false)) = some (r1,r2):=by rw [if_pos rfl] at H;exact H
    clear H;have H:=H1;clear H1;simp only [Option.some.injEq,Prod.mk.injEq] at H;obtain ⟨rfl,rfl⟩:=H;go_wp2;go_ret2
    exact ⟨_,q5_,q19_,q17_⟩
   ·replace c21:=Bool.eq_false_iff.mpr c21;subst c21;have H1 : ((slices_Clone_Note.f l0).bind fun t106=>(if 0 ≤ a1 then (if a1 < (l0.length : Int) then ((slices_Insert_Note.f t106 (wrap64 (a1 + 1)) (([(⟨a2,(rd_T58 l0 a1).f1,(rd_T58 l0 a1).f2⟩ : S58)] : List (S58)))).bind fun t114=>(if a1 < (t114.length : Int) then (some ((t114.set (a1 : Int).toNat (⟨(rd_T58 t114 a1).f0,a2,(rd_T58 t114 a1).f2⟩ : S58)),true)) else (none))) else (none)) else (none))) = some (r1,r2):=by rw [if_neg (show ¬ (false = true) by decide)] at H;exact H
    clear H;have H:=H1;clear H1;replace H:=Option.bind_eq_some_iff.mp H;obtain ⟨t106,A220,H⟩:=H;(try dsimp only at H);have A22:=Aside0.mk A220;clear A220;by_cases c23 : 0 ≤ a1
    ·rw [if_pos c23] at H;have c23b0 : decide (0 ≤ a1) = true:=decide_eq_true c23;clear c23;by_cases c24 : a1 < (l0.length : Int)
     ·rw [if_pos c24] at H;have c24b0 : decide (a1 < (l0.length : Int)) = true:=decide_eq_true c24;clear c24;obtain ⟨y111,hy111⟩ : ∃ y_ : List (S58),y_ = (([(⟨a2,(rd_T58 l0 a1).f1,(rd_T58 l0 a1).f2⟩ : S58)] : List (S58))):=⟨_,rfl⟩;replace H : ((slices_Insert_Note.f t106 (wrap64 (a1 + 1)) y111).bind fun t114=>(if a1 < (t114.length : Int) then (some ((t114.set (a1 : Int).toNat (⟨(rd_T58 t114 a1).f0,a2,(rd_T58 t114 a1).f2⟩ : S58)),true)) else (none))) = some (r1,r2):=by first | (rw [hy111];with_reducible exact H) | (have H2_:=(Option.bind_some _ _).symm.trans H;rw [hy111];with_reducible exact H2_) | (have H2_:=(Option.bind_some _ _).symm.trans H;with_reducible exact H2_) | with_reducible exact H | (rw [hy111];exact H) | exact H
      have Ny111:=Aside0.mk hy111;clear hy111;replace H:=Option.bind_eq_some_iff.mp H;obtain ⟨t114,A250,H⟩:=H;(try dsimp only at H);have A25:=Aside0.mk A250;clear A250;by_cases c26 : a1 < (t114.length : Int)
      ·rw [if_pos c26] at H;have c26b0 : decide (a1 < (t114.length : Int)) = true:=decide_eq_true c26;clear c26;obtain ⟨y117,hy117⟩ : ∃ y_ : List (S58),y_ = (t114.set (a1 : Int).toNat (⟨(rd_T58 t114 a1).f0,a2,(rd_T58 t114 a1).f2⟩ : S58)):=⟨_,rfl⟩;replace H : (some (y117,true)) = some (r1,r2):=by first | (rw [hy117];with_reducible exact H) | (have H2_:=(Option.bind_some _ _).symm.trans H;rw [hy117];with_reducible exact H2_) | (have H2_:=(Option.bind_some _ _).symm.trans H;with_reducible exact H2_) | with_reducible exact H | (rw [hy117];exact H) | exact H
       have Ny117:=Aside0.mk hy117;clear hy117;simp only [Option.some.injEq,Prod.mk.injEq] at H;obtain ⟨rfl,rfl⟩:=H;try go_wp2
       replace HB:=Aside0.mk (below_drew1 HB.out);have p109 : 0 ≤ (a1 : Int):=of_decide_eq_true (q3_);have q109 : a1 < (l0.length : Int):=of_decide_eq_true (q3_);obtain ⟨ad109,e109,hx109_0,hx109_1,hx109_2⟩:=at_T58 HR0.out a1 p109 q109;have hw109_2:=hx109_2;have hw109_1:=hx109_1;have hw109_0:=hx109_0;cases e109;replace hx109_0:=hB_ HB.out hx109_0;replace hx109_1:=hB_ HB.out hx109_1;replace hx109_2:=hB_ HB.out hx109_2;replace p109:=eq_true p109;replace q109:=eq_true q109;have p110 : 0 ≤ (a1 : Int):=of_decide_eq_true (q3_);have q110 : a1 < (l0.length : Int):=of_decide_eq_true (q3_);obtain ⟨ad110,e110,hx110_0,hx110_1,hx110_2⟩:=at_T58 HR0.out a1 p110 q110;have hw110_2:=hx110_2;have hw110_1:=hx110_1;have hw110_0:=hx110_0;obtain rfl : ad109 = ad110:=(by injection e110);replace hx110_0:=hB_ HB.out hx110_0;replace hx110_1:=hB_ HB.out hx110_1;replace hx110_2:=hB_ HB.out hx110_2;replace p110:=eq_true p110;replace q110:=eq_true q110;refine start_ (n:=19) (S:=fun w' => True) (ds:=[]) f111_ (by kernel_rfl) rfl rfl trivial (fun hHeld=>?_);refine with_tabW impl_SplitNote.tab3 impl_SplitNote.bits3 (fun HT_ HW_=>?_);generalize wc.drew = w28 at HB hx109_0 hx109_1 hx109_2 hx110_0 hx110_1 hx110_2 hHeld ⊢;refine pure_ (i:=0) (N:=some 42) (v:=?_) (a' := ?_) f177_ rfl rfl (any_of HT_.out (by kernel_rfl)) (fun _ _ _ h=>h) (Or.inl ⟨by rfl,?_⟩) ?_ ?_;rotate_left
       ·intro w';go_simp;with_reducible rfl
       rotate_left
       ·exact q46_
       refine pa_ 2 44 f178_ ?_
       refine pa_ 4 46 f179_ ?_
       refine pa_ 5 47 f180_ ?_
       refine pa_ 6 48 f181_ ?_
       refine pa_ 10 52 f182_ ?_
       refine pa_ 11 53 f183_ ?_
       refine inv_at [1,3,7,8,9,12,13,14,15,16,17,18] (fun a0_ b a w' => ∃ (v107 : Value) (v112 : Value) (v115 : Value) (m18_ : Value),a = putSel a0_ b [(1,43,v107),(3,45,.int .i64 (wrap64 (a1 + 1))),(7,49,.pointer (some (ad109.add ((a1).toNat * 3)))),(8,50,.pointer (some ⟨(ad109.add ((a1).toNat * 3)).block,(ad109.add ((a1).toNat * 3)).off + 1,none⟩)),(9,51,.int .i64 ((rd_T58 l0 a1).f1)),(12,54,.pointer (some (ad109.add ((a1).toNat * 3)))),(13,55,.pointer (some ⟨(ad109.add ((a1).toNat * 3)).block,(ad109.add ((a1).toNat * 3)).off + 2,none⟩)),(14,56,.string ((rd_T58 l0 a1).f2)),(15,57,.agg #[.int .i64 a2,.int .i64 ((rd_T58 l0 a1).f1),.string ((rd_T58 l0 a1).f2)]),(16,58,v112),(17,59,v115),(18,8,m18_)] ∧ (Below w.heap.size w w') ∧ (b 1 = true → b 17 = false → Kd.R k58 58 w' w.heap.size (fun _=>True) v107 t106 ∧ (b 16 = true → ∀ k_,(v107 : Value).ownBlock = some k_ → (v112 : Value).ownBlock ≠ some k_)) ∧ (b 16 = true → b 17 = false → Kd.R k58 58 w' w.heap.size (fun _=>True) v112 y111) ∧ (b 17 = true → Kd.R k58 58 w' w.heap.size (fun _=>True) v115 t114) ∧ (b 18 = true → (m18_ : Value) = v115)) HT_.out HW_.out (by kernel_rfl) (by kernel_rfl) ?_ ?_ ?_
       ·exact ⟨.bool false,.bool false,.bool false,.bool false,by simp only [putSel,Bool.false_eq_true,if_false],HB.out,fun h_=>absurd h_ (by decide),fun h_=>absurd h_ (by decide),fun h_=>absurd h_ (by decide),fun h_=>absurd h_ (by decide)⟩
       ·skip
        clear HB;refine steps_cons ?_ ?_
        ·rintro b a w' ⟨v107,v112,v115,m18_,ha,Q_HB,Q_HO108,Q_HO113,Q_HO116,Q_X18_⟩ hb_ hon hoff;refine ⟨_,rfl,fun K hK=>?_⟩;have e42 : a.tmps[42]? = some (.slice (some ad109) l0.length c0):=by rw [ha];exact (putSel_off rfl).trans rfl
         replace ha:=Aside0.mk ha;have HB:=Aside0.mk Q_HB;refine goes_ Try.func145 (by kernel_rfl) rfl #[.slice (some ad109) l0.length c0] (by rfl) rfl rfl (by first | (simp only [List.map_toArray,List.map_cons,List.map_nil,Act.eval,Array.getD_eq_getD_getElem?,Option.getD_some,e42];done) | (simp only [List.map_toArray,List.map_cons,List.map_nil,Act.eval,Array.getD_eq_getD_getElem?,Option.getD_some,e42];rfl)) ?_
         with_reducible refine (slices_Clone_Note.calls _ _ l0 t106 _ ?side1 ?side2 A22.out).mono ?_
         (case side1=>exact cX_ (Kd.C_below HR0.out HB.out))
         (case side2=>exact HC0.out)
         rintro e w29 ⟨v107,rfl,ho0,hb⟩;refine ⟨_,rfl,?_⟩;have hbase_:=Aside0.mk (Kd.R_base ho0);have n0_:=Aside0.mk (Kd.R_lower ho0 (below_size (q17_)));have n1_:=bS_ HB hb;have z_HO113:=fun (h0_ : b 16 = true) (h1_ : b 17 = false)=>(show Kd.R k58 58 w29 w.heap.size (fun _=>True) v112 y111 from by first | exact (Kd.R_elder' (by (with_reducible repeat (first | apply Kd.R_alloc | apply Kd.R_drewN | apply Kd.R_drew));exact (Q_HO113 h0_ h1_)) (Kd.R_base ho0) hb) | exact Kd.R_mono (Kd.R_elder' (by (with_reducible repeat (first | apply Kd.R_alloc | apply Kd.R_drewN | apply Kd.R_drew));exact (Q_HO113 h0_ h1_)) (Kd.R_base ho0) hb) (fun _ h_=>by first | trivial | exact h_ | exact h_.1))
         clear HB;have HO108:=n0_;have HB:=n1_;clear n0_ n1_
         (try clear hb)
         (try clear hb2)
         (try clear hk)
         (try clear hi)
         (try clear ho0)
         refine hK.out _ _ ⟨v107,v112,v115,m18_,(by rw [ha.out];exact putSel_upk 0 hb_ rfl rfl rfl),(q17_),fun _ h17_=>⟨(by (with_reducible repeat (first | apply Kd.R_alloc | apply Kd.R_drewN | apply Kd.R_drew));exact HO108.out),fun h16_ k_ hk1_ hk2_=>absurd (hbase_.out k_ hk1_) (Nat.not_le.2 (Kd.R_lt (Q_HO113 h16_ h17_) k_ hk2_))⟩,z_HO113,fun h0_=>absurd ((hoff 17 (by kernel_rfl)).symm.trans h0_) (by decide),fun h0_=>absurd ((hoff 18 (by kernel_rfl)).symm.trans h0_) (by decide)⟩
        refine steps_cons ?_ ?_
        ·rintro b a w' ⟨v107,v112,v115,m18_,ha,Q_HB,Q_HO108,Q_HO113,Q_HO116,Q_X18_⟩ hb_ hon hoff;refine ⟨_,rfl,fun K hK=>?_⟩;have e44 : a.tmps[44]? = some (.int .i64 a1):=by rw [ha];exact (putSel_off rfl).trans rfl
         replace ha:=Aside0.mk ha;have HB:=Aside0.mk Q_HB;refine value_ (w1:=w') (v:=.int .i64 (wrap64 (a1 + 1))) (by rfl) rfl ?_ ?_
         ·go_simp
          (try simp only [i64_w])
          try rfl
         refine hK.out _ _ ⟨v107,v112,v115,m18_,(by rw [ha.out];exact putSel_upk 1 hb_ rfl rfl rfl),Q_HB,Q_HO108,Q_HO113,fun h0_=>absurd ((hoff 17 (by kernel_rfl)).symm.trans h0_) (by decide),fun h0_=>absurd ((hoff 18 (by kernel_rfl)).symm.trans h0_) (by decide)⟩
        refine steps_cons ?_ ?_
        ·rintro b a w' ⟨v107,v112,v115,m18_,ha,Q_HB,Q_HO108,Q_HO113,Q_HO116,Q_X18_⟩ hb_ hon hoff;refine ⟨_,rfl,fun K hK=>?_⟩;have e47 : a.tmps[47]? = some (.slice (some ad109) l0.length c0):=by rw [ha];exact (putSel_off rfl).trans rfl
         have e48 : a.tmps[48]? = some (.int .i64 a1):=by rw [ha];exact (putSel_off rfl).trans rfl
         replace ha:=Aside0.mk ha;have HB:=Aside0.mk Q_HB;have hs0_ : w'.cell? (ad109.add ((a1).toNat * 3)) = some (.int .i64 ((rd_T58 l0 a1).f0)):=((HB.out.cell (World.block_lt_of_cell? w _ hw109_0)).trans hw109_0);have hs1_ : w'.cell? ⟨(ad109.add ((a1).toNat * 3)).block,(ad109.add ((a1).toNat * 3)).off + 1,none⟩ = some (.int .i64 ((rd_T58 l0 a1).f1)):=((HB.out.cell (World.block_lt_of_cell? w _ hw109_1)).trans hw109_1);have hs2_ : w'.cell? ⟨(ad109.add ((a1).toNat * 3)).block,(ad109.add ((a1).toNat * 3)).off + 2,none⟩ = some (.string ((rd_T58 l0 a1).f2)):=((HB.out.cell (World.block_lt_of_cell? w _ hw109_2)).trans hw109_2);refine value_ (w1:=w') (v:=.pointer (some (ad109.add ((a1).toNat * 3)))) (by rfl) rfl ?_ ?_
         ·go_simp
          (try simp only [i64_w])
          try rfl
         refine hK.out _ _ ⟨v107,v112,v115,m18_,(by rw [ha.out];exact putSel_upk 2 hb_ rfl rfl rfl),Q_HB,Q_HO108,fun h0_=>absurd ((hoff 16 (by kernel_rfl)).symm.trans h0_) (by decide),fun h0_=>absurd ((hoff 17 (by kernel_rfl)).symm.trans h0_) (by decide),fun h0_=>absurd ((hoff 18 (by kernel_rfl)).symm.trans h0_) (by decide)⟩
        refine steps_cons ?_ ?_
        ·rintro b a w' ⟨v107,v112,v115,m18_,ha,Q_HB,Q_HO108,Q_HO113,Q_HO116,Q_X18_⟩ hb_ hon hoff;refine ⟨_,rfl,fun K hK=>?_⟩;have e49 : a.tmps[49]? = some (.pointer (some (ad109.add ((a1).toNat * 3)))):=by rw [ha];exact putSel_on (e:=(7,49,.pointer (some (ad109.add ((a1).toNat * 3))))) 2 rfl rfl (hon 7 (by kernel_rfl)) rfl
         replace ha:=Aside0.mk ha;have HB:=Aside0.mk Q_HB;refine value_ (w1:=w') (v:=.pointer (some ⟨(ad109.add ((a1).toNat * 3)).block,(ad109.add ((a1).toNat * 3)).off + 1,none⟩)) (by rfl) rfl ?_ ?_
         ·go_simp
          (try simp only [i64_w])
          try rfl
         refine hK.out _ _ ⟨v107,v112,v115,m18_,(by rw [ha.out];exact putSel_upk 3 hb_ rfl rfl rfl),Q_HB,Q_HO108,fun h0_=>absurd ((hoff 16 (by kernel_rfl)).symm.trans h0_) (by decide),fun h0_=>absurd ((hoff 17 (by kernel_rfl)).symm.trans h0_) (by decide),fun h0_=>absurd ((hoff 18 (by kernel_rfl)).symm.trans h0_) (by decide)⟩
        refine steps_cons ?_ ?_
        ·rintro b a w' ⟨v107,v112,v115,m18_,ha,Q_HB,Q_HO108,Q_HO113,Q_HO116,Q_X18_⟩ hb_ hon hoff;refine ⟨_,rfl,fun K hK=>?_⟩;have e50 : a.tmps[50]? = some (.pointer (some ⟨(ad109.add ((a1).toNat * 3)).block,(ad109.add ((a1).toNat * 3)).off + 1,none⟩)):=by rw [ha];exact putSel_on (e:=(8,50,.pointer (some ⟨(ad109.add ((a1).toNat * 3)).block,(ad109.add ((a1).toNat * 3)).off + 1,none⟩))) 3 rfl rfl (hon 8 (by kernel_rfl)) rfl
         replace ha:=Aside0.mk ha;have HB:=Aside0.mk Q_HB;have hs0_ : w'.cell? (ad109.add ((a1).toNat * 3)) = some (.int .i64 ((rd_T58 l0 a1).f0)):=((HB.out.cell (World.block_lt_of_cell? w _ hw109_0)).trans hw109_0);have hs1_ : w'.cell? ⟨(ad109.add ((a1).toNat * 3)).block,(ad109.add ((a1).toNat * 3)).off + 1,none⟩ = some (.int .i64 ((rd_T58 l0 a1).f1)):=((HB.out.cell (World.block_lt_of_cell? w _ hw109_1)).trans hw109_1);have hs2_ : w'.cell? ⟨(ad109.add ((a1).toNat * 3)).block,(ad109.add ((a1).toNat * 3)).off + 2,none⟩ = some (.string ((rd_T58 l0 a1).f2)):=((HB.out.cell (World.block_lt_of_cell? w _ hw109_2)).trans hw109_2);refine value_ (w1:=w') (v:=.int .i64 ((rd_T58 l0 a1).f1)) (by rfl) rfl ?_ ?_
         ·go_simp
          (try simp only [i64_w])
          try rfl
         refine hK.out _ _ ⟨v107,v112,v115,m18_,(by rw [ha.out];exact putSel_upk 4 hb_ rfl rfl rfl),Q_HB,Q_HO108,fun h0_=>absurd ((hoff 16 (by kernel_rfl)).symm.trans h0_) (by decide),fun h0_=>absurd ((hoff 17 (by kernel_rfl)).symm.trans h0_) (by decide),fun h0_=>absurd ((hoff 18 (by kernel_rfl)).symm.trans h0_) (by decide)⟩
        refine steps_cons ?_ ?_
        ·rintro b a w' ⟨v107,v112,v115,m18_,ha,Q_HB,Q_HO108,Q_HO113,Q_HO116,Q_X18_⟩ hb_ hon hoff;refine ⟨_,rfl,fun K hK=>?_⟩;have e52 : a.tmps[52]? = some (.slice (some ad109) l0.length c0):=by rw [ha];exact (putSel_off rfl).trans rfl
         have e53 : a.tmps[53]? = some (.int .i64 a1):=by rw [ha];exact (putSel_off rfl).trans rfl
         replace ha:=Aside0.mk ha;have HB:=Aside0.mk Q_HB;have hs3_ : w'.cell? (ad109.add ((a1).toNat * 3)) = some (.int .i64 ((rd_T58 l0 a1).f0)):=((HB.out.cell (World.block_lt_of_cell? w _ hw110_0)).trans hw110_0);have hs4_ : w'.cell? ⟨(ad109.add ((a1).toNat * 3)).block,(ad109.add ((a1).toNat * 3)).off + 1,none⟩ = some (.int .i64 ((rd_T58 l0 a1).f1)):=((HB.out.cell (World.block_lt_of_cell? w _ hw110_1)).trans hw110_1);have hs5_ : w'.cell? ⟨(ad109.add ((a1).toNat * 3)).block,(ad109.add ((a1).toNat * 3)).off + 2,none⟩ = some (.string ((rd_T58 l0 a1).f2)):=((HB.out.cell (World.block_lt_of_cell? w _ hw110_2)).trans hw110_2);refine value_ (w1:=w') (v:=.pointer (some (ad109.add ((a1).toNat * 3)))) (by rfl) rfl ?_ ?_
         ·go_simp
          (try simp only [i64_w])
          try rfl
         refine hK.out _ _ ⟨v107,v112,v115,m18_,(by rw [ha.out];exact putSel_upk 5 hb_ rfl rfl rfl),Q_HB,Q_HO108,fun h0_=>absurd ((hoff 16 (by kernel_rfl)).symm.trans h0_) (by decide),fun h0_=>absurd ((hoff 17 (by kernel_rfl)).symm.trans h0_) (by decide),fun h0_=>absurd ((hoff 18 (by kernel_rfl)).symm.trans h0_) (by decide)⟩
        refine steps_cons ?_ ?_
        ·rintro b a w' ⟨v107,v112,v115,m18_,ha,Q_HB,Q_HO108,Q_HO113,Q_HO116,Q_X18_⟩ hb_ hon hoff;refine ⟨_,rfl,fun K hK=>?_⟩;have e54 : a.tmps[54]? = some (.pointer (some (ad109.add ((a1).toNat * 3)))):=by rw [ha];exact putSel_on (e:=(12,54,.pointer (some (ad109.add ((a1).toNat * 3))))) 5 rfl rfl (hon 12 (by kernel_rfl)) rfl
         replace ha:=Aside0.mk ha;have HB:=Aside0.mk Q_HB;refine value_ (w1:=w') (v:=.pointer (some ⟨(ad109.add ((a1).toNat * 3)).block,(ad109.add ((a1).toNat * 3)).off + 2,none⟩)) (by rfl) rfl ?_ ?_
         ·go_simp
          (try simp only [i64_w])
          try rfl
         refine hK.out _ _ ⟨v107,v112,v115,m18_,(by rw [ha.out];exact putSel_upk 6 hb_ rfl rfl rfl),Q_HB,Q_HO108,fun h0_=>absurd ((hoff 16 (by kernel_rfl)).symm.trans h0_) (by decide),fun h0_=>absurd ((hoff 17 (by kernel_rfl)).symm.trans h0_) (by decide),fun h0_=>absurd ((hoff 18 (by kernel_rfl)).symm.trans h0_) (by decide)⟩
        refine steps_cons ?_ ?_
        ·rintro b a w' ⟨v107,v112,v115,m18_,ha,Q_HB,Q_HO108,Q_HO113,Q_HO116,Q_X18_⟩ hb_ hon hoff;refine ⟨_,rfl,fun K hK=>?_⟩;have e55 : a.tmps[55]? = some (.pointer (some ⟨(ad109.add ((a1).toNat * 3)).block,(ad109.add ((a1).toNat * 3)).off + 2,none⟩)):=by rw [ha];exact putSel_on (e:=(13,55,.pointer (some ⟨(ad109.add ((a1).toNat * 3)).block,(ad109.add ((a1).toNat * 3)).off + 2,none⟩))) 6 rfl rfl (hon 13 (by kernel_rfl)) rfl
         replace ha:=Aside0.mk ha;have HB:=Aside0.mk Q_HB;have hs3_ : w'.cell? (ad109.add ((a1).toNat * 3)) = some (.int .i64 ((rd_T58 l0 a1).f0)):=((HB.out.cell (World.block_lt_of_cell? w _ hw110_0)).trans hw110_0);have hs4_ : w'.cell? ⟨(ad109.add ((a1).toNat * 3)).block,(ad109.add ((a1).toNat * 3)).off + 1,none⟩ = some (.int .i64 ((rd_T58 l0 a1).f1)):=((HB.out.cell (World.block_lt_of_cell? w _ hw110_1)).trans hw110_1);have hs5_ : w'.cell? ⟨(ad109.add ((a1).toNat * 3)).block,(ad109.add ((a1).toNat * 3)).off + 2,none⟩ = some (.string ((rd_T58 l0 a1).f2)):=((HB.out.cell (World.block_lt_of_cell? w _ hw110_2)).trans hw110_2);refine value_ (w1:=w') (v:=.string ((rd_T58 l0 a1).f2)) (by rfl) rfl ?_ ?_
         ·go_simp
          (try simp only [i64_w])
          try rfl
         refine hK.out _ _ ⟨v107,v112,v115,m18_,(by rw [ha.out];exact putSel_upk 7 hb_ rfl rfl rfl),Q_HB,Q_HO108,fun h0_=>absurd ((hoff 16 (by kernel_rfl)).symm.trans h0_) (by decide),fun h0_=>absurd ((hoff 17 (by kernel_rfl)).symm.trans h0_) (by decide),fun h0_=>absurd ((hoff 18 (by kernel_rfl)).symm.trans h0_) (by decide)⟩
        refine steps_cons ?_ ?_
        ·rintro b a w' ⟨v107,v112,v115,m18_,ha,Q_HB,Q_HO108,Q_HO113,Q_HO116,Q_X18_⟩ hb_ hon hoff;refine ⟨_,rfl,fun K hK=>?_⟩;have e46 : a.tmps[46]? = some (.int .i64 a2):=by rw [ha];exact (putSel_off rfl).trans rfl
         have e51 : a.tmps[51]? = some (.int .i64 ((rd_T58 l0 a1).f1)):=by rw [ha];exact putSel_on (e:=(9,51,.int .i64 ((rd_T58 l0 a1).f1))) 4 rfl rfl (hon 9 (by kernel_rfl)) rfl
         have e56 : a.tmps[56]? = some (.string ((rd_T58 l0 a1).f2)):=by rw [ha];exact putSel_on (e:=(14,56,.string ((rd_T58 l0 a1).f2))) 7 rfl rfl (hon 14 (by kernel_rfl)) rfl
         replace ha:=Aside0.mk ha;have HB:=Aside0.mk Q_HB;refine value_ (w1:=w') (v:=.agg #[.int .i64 a2,.int .i64 ((rd_T58 l0 a1).f1),.string ((rd_T58 l0 a1).f2)]) (by rfl) rfl ?_ ?_
         ·go_simp
          (try simp only [i64_w])
          try rfl
         refine hK.out _ _ ⟨v107,v112,v115,m18_,(by rw [ha.out];exact putSel_upk 8 hb_ rfl rfl rfl),Q_HB,Q_HO108,fun h0_=>absurd ((hoff 16 (by kernel_rfl)).symm.trans h0_) (by decide),fun h0_=>absurd ((hoff 17 (by kernel_rfl)).symm.trans h0_) (by decide),fun h0_=>absurd ((hoff 18 (by kernel_rfl)).symm.trans h0_) (by decide)⟩
        refine steps_cons ?_ ?_
        ·rintro b a w' ⟨v107,v112,v115,m18_,ha,Q_HB,Q_HO108,Q_HO113,Q_HO116,Q_X18_⟩ hb_ hon hoff;refine ⟨_,rfl,fun K hK=>?_⟩;have e57 : a.tmps[57]? = some (.agg #[.int .i64 a2,.int .i64 ((rd_T58 l0 a1).f1),.string ((rd_T58 l0 a1).f2)]):=by rw [ha];exact putSel_on (e:=(15,57,.agg #[.int .i64 a2,.int .i64 ((rd_T58 l0 a1).f1),.string ((rd_T58 l0 a1).f2)])) 8 rfl rfl (hon 15 (by kernel_rfl)) rfl
         replace ha:=Aside0.mk ha;have HB:=Aside0.mk Q_HB;refine Kd.R_lit_step k58 _ 58 ?hg (N:=58) ?hd (xs:=([(⟨a2,(rd_T58 l0 a1).f1,(rd_T58 l0 a1).f2⟩ : S58)] : List (S58))) (inner:=[.int .i64 a2,.int .i64 ((rd_T58 l0 a1).f1),.string ((rd_T58 l0 a1).f2)]) (ok:=fun _=>True) (okp:=fun _=>True) ?hr ?hp (fun _ hk=>hk) trivial (Below.refl _ _) (Nat.le_refl _) (by simp) ?_;(case hd=>rfl);(case hg=>rfl);(case hr=>first | (go_simp;done) | (go_simp;rfl));(case hp=>exact (Reps.c3 (show Kd.M k58 _ _ _ (⟨a2,(rd_T58 l0 a1).f1,(rd_T58 l0 a1).f2⟩ : S58) [.int .i64 a2,.int .i64 ((rd_T58 l0 a1).f1),.string ((rd_T58 l0 a1).f2)] from (k58_mkM _ _ _ (⟨a2,(rd_T58 l0 a1).f1,(rd_T58 l0 a1).f2⟩ : S58) )) (Reps.none _ _)));intro v112 w29 ho30 hb hg_ hnew_;clear hg_ hnew_
         (first | rw [← Ny111.out] at ho30 | (simp only [Int.reduceToNat] at ho30;rw [← Ny111.out] at ho30))
         have n0_:=Aside0.mk (Kd.R_lower ho30 (below_size (q17_)));have n1_:=bS_ HB hb;have z_HO108:=fun (h0_ : b 1 = true) (h1_ : b 17 = false)=>(show Kd.R k58 58 w29 w.heap.size (fun _=>True) v107 t106 ∧ (True → ∀ k_,(v107 : Value).ownBlock = some k_ → (v112 : Value).ownBlock ≠ some k_) from ⟨by first | exact (Kd.R_elder' (by (with_reducible repeat (first | apply Kd.R_alloc | apply Kd.R_drewN | apply Kd.R_drew));exact (Q_HO108 h0_ h1_).1) (Kd.R_base ho30) hb) | exact Kd.R_mono (Kd.R_elder' (by (with_reducible repeat (first | apply Kd.R_alloc | apply Kd.R_drewN | apply Kd.R_drew));exact (Q_HO108 h0_ h1_).1) (Kd.R_base ho30) hb) (fun _ h_=>by first | trivial | exact h_ | exact h_.1),fun _ k_ hk1_ hk2_=>absurd (Kd.R_base ho30 k_ hk2_) (Nat.not_le.2 (Kd.R_lt (Q_HO108 h0_ h1_).1 k_ hk1_))⟩)
         clear HB;have HO113:=n0_;have HB:=n1_;clear n0_ n1_ hb ho30;refine hK.out _ _ ⟨v107,v112,v115,m18_,(by rw [ha.out];exact putSel_upk 9 hb_ rfl rfl rfl),(q17_),fun h0_ h1_=>⟨(z_HO108 h0_ h1_).1,fun _=>(z_HO108 h0_ h1_).2 trivial⟩,fun _ _=>(q12_),fun h0_=>absurd ((hoff 17 (by kernel_rfl)).symm.trans h0_) (by decide),fun h0_=>absurd ((hoff 18 (by kernel_rfl)).symm.trans h0_) (by decide)⟩
        refine steps_cons ?_ ?_
        ·rintro b a w' ⟨v107,v112,v115,m18_,ha,Q_HB,Q_HO108,Q_HO113,Q_HO116,Q_X18_⟩ hb_ hon hoff;refine ⟨_,rfl,fun K hK=>?_⟩;have e43 : a.tmps[43]? = some (v107):=by rw [ha];exact putSel_on (e:=(1,43,v107)) 0 rfl rfl (hon 1 (by kernel_rfl)) rfl
         have e45 : a.tmps[45]? = some (.int .i64 (wrap64 (a1 + 1))):=by rw [ha];exact putSel_on (e:=(3,45,.int .i64 (wrap64 (a1 + 1)))) 1 rfl rfl (hon 3 (by kernel_rfl)) rfl
         have e58 : a.tmps[58]? = some (v112):=by rw [ha];exact putSel_on (e:=(16,58,v112)) 9 rfl rfl (hon 16 (by kernel_rfl)) rfl
         replace ha:=Aside0.mk ha;have HB:=Aside0.mk Q_HB;have HO108:=Aside0.mk (Q_HO108 (hon 1 (by kernel_rfl)) hb_).1;have HNE_:=Aside0.mk ((Q_HO108 (hon 1 (by kernel_rfl)) hb_).2 (hon 16 (by kernel_rfl)));have HO113:=Aside0.mk (Q_HO113 (hon 16 (by kernel_rfl)) hb_);obtain ⟨Ao33,co33,eo33⟩:=Kd.R_slice HO108.out
         (first | subst eo33 | (injection eo33 with f1_ f2_ f3_;have f4_:=f1_.symm;have f5_:=f3_.symm;clear f1_ f2_ f3_;subst f4_;subst f5_))
         obtain ⟨Ao34,co34,eo34⟩:=Kd.R_slice HO113.out
         (first | subst eo34 | (injection eo34 with f1_ f2_ f3_;have f4_:=f1_.symm;have f5_:=f3_.symm;clear f1_ f2_ f3_;subst f4_;subst f5_))
         refine goes_ Try.func144 (by kernel_rfl) rfl #[.slice Ao33 t106.length co33,.int .i64 (wrap64 (a1 + 1)),.slice Ao34 y111.length co34] (by rfl) rfl rfl (by first | (simp only [List.map_toArray,List.map_cons,List.map_nil,Act.eval,Array.getD_eq_getD_getElem?,Option.getD_some,e43,e45,e58];done) | (simp only [List.map_toArray,List.map_cons,List.map_nil,Act.eval,Array.getD_eq_getD_getElem?,Option.getD_some,e43,e45,e58];rfl)) ?_
         with_reducible refine (slices_Insert_Note.own _ _ t106 (wrap64 (a1 + 1)) _ _ y111 t114 w _ ?side1 ?side2 ?side3 ?side4 A25.out).mono ?_
         (case side1=>repeat (first | (with_reducible first | exact HB.out | apply below_alloc | apply pw_below_drewN | apply below_drew1) | exact HB.out))
         (case side2=>(with_reducible repeat (first | apply Kd.R_alloc | apply Kd.R_drewN | apply Kd.R_drew));exact HO108.out)
         (case side3=>(with_reducible repeat (first | apply Kd.R_alloc | apply Kd.R_drewN | apply Kd.R_drew));exact HO113.out)
         (case side4=>exact HNE_.out)
         rintro e w35 ⟨v115,rfl,ho0,hb⟩;refine ⟨_,rfl,?_⟩;have n2_:=Aside0.mk ho0;have n3_:=Aside0.mk hb;clear HO108 HO113 HB;have HO116:=n2_;have HB:=n3_;clear n2_ n3_
         (try clear hb)
         (try clear hb2)
         (try clear hk)
         (try clear hi)
         (try clear ho0)
         refine hK.out _ _ ⟨.slice Ao33 t106.length co33,.slice Ao34 y111.length co34,v115,m18_,(by rw [ha.out];exact putSel_upk 10 hb_ rfl rfl rfl),(q17_),fun _ h0_=>Bool.noConfusion h0_,fun _ h0_=>Bool.noConfusion h0_,fun _=>(by (with_reducible repeat (first | apply Kd.R_alloc | apply Kd.R_drewN | apply Kd.R_drew));exact HO116.out),fun h0_=>absurd ((hoff 18 (by kernel_rfl)).symm.trans h0_) (by decide)⟩
        refine steps_cons ?_ ?_
        ·rintro b a w' ⟨v107,v112,v115,m18_,ha,Q_HB,Q_HO108,Q_HO113,Q_HO116,Q_X18_⟩ hb_ hon hoff;refine ⟨_,rfl,fun K hK=>?_⟩;have e59 : a.tmps[59]? = some (v115):=by rw [ha];exact putSel_on (e:=(17,59,v115)) 10 rfl rfl (hon 17 (by kernel_rfl)) rfl
         replace ha:=Aside0.mk ha;have HB:=Aside0.mk Q_HB
         skip
         skip
         have HO116:=Aside0.mk (Q_HO116 (hon 17 (by kernel_rfl)));refine value_ (w1:=w') (v:=v115) (by rfl) rfl ?_ ?_
         ·go_simp
          (try simp only [i64_w])
          try rfl
         refine hK.out _ _ ⟨v107,v112,v115,(v115),(by rw [ha.out];exact putSel_upk 11 hb_ rfl rfl rfl),Q_HB,Q_HO108,Q_HO113,Q_HO116,fun _=>rfl⟩
        exact steps_nil
       rintro b a w35 hall ⟨v107,v112,v115,m18_,ha,Q_HB,Q_HO108,Q_HO113,Q_HO116,Q_X18_⟩;clear HB;have hb1_:=hall 1 (by kernel_rfl);have hb3_:=hall 3 (by kernel_rfl);have hb7_:=hall 7 (by kernel_rfl);have hb8_:=hall 8 (by kernel_rfl);have hb9_:=hall 9 (by kernel_rfl);have hb12_:=hall 12 (by kernel_rfl);have hb13_:=hall 13 (by kernel_rfl);have hb14_:=hall 14 (by kernel_rfl);have hb15_:=hall 15 (by kernel_rfl);have hb16_:=hall 16 (by kernel_rfl);have hb17_:=hall 17 (by kernel_rfl);have hb18_:=hall 18 (by kernel_rfl);subst ha;obtain rfl:=Q_X18_ hb18_;simp only [putSel,hb1_,hb3_,hb7_,hb8_,hb9_,hb12_,hb13_,hb14_,hb15_,hb16_,hb17_,hb18_,if_true,Act.put,List.setIfInBounds_toArray,List.set_cons_zero,List.set_cons_succ];have HB:=Aside0.mk Q_HB;clear Q_HB
       skip
       clear Q_HO108
       skip
       clear Q_HO113;have HO116:=Aside0.mk (Q_HO116 hb17_);clear Q_HO116 hall hb1_ hb3_ hb7_ hb8_ hb9_ hb12_ hb13_ hb14_ hb15_ hb16_ hb17_ hb18_;have p27 : 0 ≤ (a1 : Int):=of_decide_eq_true (q3_);have q27 : (a1 : Int) < ((t114.length : Int) : Int):=of_decide_eq_true (q3_);obtain ⟨go27,co27,eo27,gb27,gl27,cl27,HG27⟩:=Kd.R_form HO116.out (by omega)
       (first | cases eo27 | (injection eo27 with ea_ en_ ec_;(first | subst ea_ | (injection ea_ with ea_;subst ea_));subst ec_;clear en_))
       have GB27:=Aside0.mk gb27;have GG27:=Aside0.mk HG27;clear gb27 gl27 HG27;obtain ⟨ce27,hcl27,hM27,hcc27,hfr27⟩:=Kd.R_elem HO116.out z58 (a1 : Int) p27 q27;obtain rfl:=k58_openM hM27;have hx27_0 : w35.cell? ⟨go27,(a1 : Int).toNat * 3,none⟩ = some (.int .i64 ((rd_T58 t114 a1).f0)):=hcc27 0 _ rfl;have hx27_1 : w35.cell? ⟨go27,(a1 : Int).toNat * 3 + 1,none⟩ = some (.int .i64 ((rd_T58 t114 a1).f1)):=hcc27 1 _ rfl;have hx27_2 : w35.cell? ⟨go27,(a1 : Int).toNat * 3 + 2,none⟩ = some (.string ((rd_T58 t114 a1).f2)):=hcc27 2 _ rfl;have hf27_0 : w35.frozen? ⟨go27,(a1 : Int).toNat * 3,none⟩ = false:=hfr27 0;have hf27_1 : w35.frozen? ⟨go27,(a1 : Int).toNat * 3 + 1,none⟩ = false:=hfr27 1;have hf27_2 : w35.frozen? ⟨go27,(a1 : Int).toNat * 3 + 2,none⟩ = false:=hfr27 2;clear hcl27 hcc27 hfr27 hM27;replace p27:=eq_true p27;replace q27:=eq_true q27;have HX36:=Aside0.mk (show Kd.R k58 58 w35 w.heap.size (fun _=>True) (.slice (some ⟨go27,0,none⟩) t114.length co27) t114 from (by (with_reducible repeat (first | apply Kd.R_alloc | apply Kd.R_drewN | apply Kd.R_drew));exact HO116.out));obtain ⟨ce36,hcl36,hM36,hcc36,hfr36⟩:=Kd.R_elem HX36.out z58 (a1 : Int) (of_decide_eq_true (q3_)) (by have h_ : (a1 : Int) < ((t114.length : Int) : Int):=of_decide_eq_true (q3_);first | exact h_ | (have e_:=(Kd.R_reads' HO116.out).1;omega) | simpa using h_);obtain rfl:=k58_openM hM36;have HP36:=Kd.R_seg HX36.out (a1 : Int) (of_decide_eq_true (q3_)) (by have h_ : (a1 : Int) < ((t114.length : Int) : Int):=of_decide_eq_true (q3_);first | exact h_ | (have e_:=(Kd.R_reads' HO116.out).1;omega) | simpa using h_) (seg:=[.int .i64 a2]) (j:=1) hcl36 hcc36 (show 2 ≤ 3 from by decide) (x' := (⟨(rd_T58 t114 a1).f0,a2,(rd_T58 t114 a1).f2⟩ : S58)) (k58_mkM _ _ _ (⟨(rd_T58 t114 a1).f0,a2,(rd_T58 t114 a1).f2⟩ : S58) ) (fun _ hk=>hk);have hx36_1:=hcc36 1 _ rfl
       (try simp only [show (k58).sz = 3 from rfl,Nat.mul_one,Nat.add_zero] at hx36_1)
       have hf36_1:=hfr36 1
       (try simp only [show (k58).sz = 3 from rfl,Nat.mul_one,Nat.add_zero] at hf36_1)
       clear hcl36 hcc36 hfr36 hM36;try go_wp2_with (first | ((with_reducible refine gate_store (t:=3) (p:=64) rfl ?_);refine store_event (t:=3) (p:=64) (v:=?vo_w37) (w1:=(w35.setCell ⟨go27,(a1 : Int).toNat * 3 + 1,none⟩ (.int .i64 a2))) ?hg ?ho ?hn ?hr ?_;(case ho=>rfl);(case hg=>rfl);(case hn=>rfl);(case hr=>first | (go_simp;done) | (go_simp;rfl));intro w37 hw;have hg : w35.grownBy w37 (some go27):=(by rw [hw];exact HP36.2);have hp_ : Kd.R k58 58 w37 w.heap.size (fun _=>True) (.slice (some ⟨go27,0,none⟩) t114.length co27) y117:=(by rw [hw,Ny117.out];exact HP36.1);clear HP36;have n2_:=Aside0.mk (hp_);have n3_:=Aside0.mk ((by rw [hw];exact below_set (HB.out) GB27.out : Below w.heap.size w w37));clear HO116;clear HB;have HO116:=n2_;have HB:=n3_;clear n2_ n3_;clear hg hw hp_))
       go_ret2
       exact ⟨_,q5_,by (with_reducible repeat (first | apply Kd.R_alloc | apply Kd.R_drewN | apply Kd.R_drew));exact Kd.R_mono HO116.out (fun _ hk=>trivial),q17_⟩
      ·rw [if_neg c26] at H;exact absurd H (by simp)
     ·rw [if_neg c24] at H;exact absurd H (by simp)
    ·rw [if_neg c23] at H;exact absurd H (by simp)
end Go.Proofs.Ytgapcmmhbegdeaa.G
